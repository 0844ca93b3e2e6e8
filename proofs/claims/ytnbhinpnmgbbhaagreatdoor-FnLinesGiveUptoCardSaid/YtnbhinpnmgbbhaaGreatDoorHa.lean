import Derived.Test.YtnbhinpnmgbbhaaGreatDoorProg
import Derived.Test.YtnbhinpnmgbbhaaGreatDoorXe
import Derived.Test.YtnbhinpnmgbbhaaGreatDoorYb
import Derived.Shelf.Lays
import Derived.Shelf.Strings.BuilderX
set_option linter.all false
namespace Dx
open Go Go.Proofs Go.Shelf
def liR:Ren:=⟨fun|119=>229|120=>209|129=>215|137=>228|138=>64|143=>65|146=>25|151=>173|152=>208|160=>81|166=>26|169=>28|171=>45|172=>82|195=>107|197=>108|205=>212|217=>159|218=>109|219=>110|221=>38|224=>161|225=>160|227=>124|228=>172|231=>122|232=>123|233=>125|234=>126|235=>127|236=>128|240=>39|243=>89|244=>129|245=>130|246=>139|247=>175|260=>158|266=>196|267=>162|268=>63|271=>174|276=>66|279=>176|280=>177|281=>178|282=>179|283=>184|284=>185|285=>186|286=>187|287=>210|314=>197|316=>211|317=>214|318=>216|319=>217|320=>218|321=>230|322=>231|337=>232|338=>233|n=>n,fun|0=>0|2=>2|3=>3|4=>4|5=>5|9=>9|20=>20|21=>21|31=>51|37=>22|46=>172|51=>209|53=>197|70=>48|72=>50|75=>54|76=>55|80=>58|85=>186|105=>133|116=>152|117=>153|119=>205|124=>156|127=>80|138=>207|139=>208|143=>243|145=>245|146=>210|164=>107|167=>185|168=>188|171=>196|173=>200|175=>220|210=>224|212=>229|213=>230|232=>251|233=>252|n=>n,fun|1=>0|3=>1|4=>2|15=>3|16=>4|17=>5|18=>6|19=>7|n=>n⟩
theorem Dm:Lays.n146 Tryz.prog liR:={
 mixed:=by kernel_rfl,
 f138:=Tryz.func64.trans (congrArg some (by kernel_rfl)),
 f143:=Tryz.func65.trans (congrArg some (by kernel_rfl)),
 f146:=Tryz.func25.trans (congrArg some (by kernel_rfl)),
 f195:=Tryz.func107.trans (congrArg some (by kernel_rfl)),
 f197:=Tryz.func108.trans (congrArg some (by kernel_rfl)),
 f217:=Tryz.func159.trans (congrArg some (by kernel_rfl)),
 f218:=Tryz.func109.trans (congrArg some (by kernel_rfl)),
 f219:=Tryz.func110.trans (congrArg some (by kernel_rfl)),
 f221:=Tryz.func38.trans (congrArg some (by kernel_rfl)),
 f224:=Tryz.func161.trans (congrArg some (by kernel_rfl)),
 f225:=Tryz.func160.trans (congrArg some (by kernel_rfl)),
 f260:=Tryz.func158.trans (congrArg some (by kernel_rfl)),
 f266:=Tryz.func196.trans (congrArg some (by kernel_rfl)),
 f267:=Tryz.func162.trans (congrArg some (by kernel_rfl)),
 f268:=Tryz.func63.trans (congrArg some (by kernel_rfl)),
 f314:=Tryz.func197.trans (congrArg some (by kernel_rfl)),
 t0:=Tryz.underlying0,
 a0:=Tryz.isAgg0,
 z0:=Tryz.sizeOf0,
 v0:=Tryz.zeroValue0,
 t3:=Tryz.underlying3,
 a3:=Tryz.isAgg3,
 z3:=Tryz.sizeOf3,
 v3:=Tryz.zeroValue3,
 t4:=Tryz.underlying4,
 a4:=Tryz.isAgg4,
 z4:=Tryz.sizeOf4,
 v4:=Tryz.zeroValue4,
 t5:=Tryz.underlying5,
 a5:=Tryz.isAgg5,
 z5:=Tryz.sizeOf5,
 v5:=Tryz.zeroValue5,
 t9:=Tryz.underlying9,
 a9:=Tryz.isAgg9,
 z9:=Tryz.sizeOf9,
 v9:=Tryz.zeroValue9,
 t21:=Tryz.underlying21,
 a21:=Tryz.isAgg21,
 z21:=Tryz.sizeOf21,
 v21:=Tryz.zeroValue21,
 t31:=Tryz.underlying51,
 a31:=Tryz.isAgg51,
 z31:=Tryz.sizeOf51,
 v31:=Tryz.zeroValue51,
 t46:=Tryz.underlying172,
 a46:=Tryz.isAgg172,
 z46:=Tryz.sizeOf172,
 v46:=Tryz.zeroValue172,
 t51:=Tryz.underlying209,
 a51:=Tryz.isAgg209,
 z51:=Tryz.sizeOf209,
 v51:=Tryz.zeroValue209,
 t105:=Tryz.underlying133,
 a105:=Tryz.isAgg133,
 z105:=Tryz.sizeOf133,
 v105:=Tryz.zeroValue133,
 t119:=Tryz.underlying205,
 a119:=Tryz.isAgg205,
 z119:=Tryz.sizeOf205,
 t138:=Tryz.underlying207,
 a138:=Tryz.isAgg207,
 z138:=Tryz.sizeOf207,
 v138:=Tryz.zeroValue207,
 t139:=Tryz.underlying208,
 a139:=Tryz.isAgg208,
 z139:=Tryz.sizeOf208,
 v139:=Tryz.zeroValue208,
 t146:=Tryz.underlying210,
 a146:=Tryz.isAgg210,
 z146:=Tryz.sizeOf210,
 v146:=Tryz.zeroValue210,
 g1:=by kernel_rfl,
 g3:=by kernel_rfl,
 g4:=by kernel_rfl}
theorem ED:Lays.n160 Tryz.prog liR:={
 mixed:=by kernel_rfl,
 f119:=Tryz.func229.trans (congrArg some (by kernel_rfl)),
 f120:=Tryz.func209.trans (congrArg some (by kernel_rfl)),
 f137:=Tryz.func228.trans (congrArg some (by kernel_rfl)),
 f151:=Tryz.func173.trans (congrArg some (by kernel_rfl)),
 f152:=Tryz.func208.trans (congrArg some (by kernel_rfl)),
 f160:=Tryz.func81.trans (congrArg some (by kernel_rfl)),
 f197:=Tryz.func108.trans (congrArg some (by kernel_rfl)),
 f217:=Tryz.func159.trans (congrArg some (by kernel_rfl)),
 f224:=Tryz.func161.trans (congrArg some (by kernel_rfl)),
 f225:=Tryz.func160.trans (congrArg some (by kernel_rfl)),
 f227:=Tryz.func124.trans (congrArg some (by kernel_rfl)),
 f228:=Tryz.func172.trans (congrArg some (by kernel_rfl)),
 f231:=Tryz.func122.trans (congrArg some (by kernel_rfl)),
 f232:=Tryz.func123.trans (congrArg some (by kernel_rfl)),
 f233:=Tryz.func125.trans (congrArg some (by kernel_rfl)),
 f234:=Tryz.func126.trans (congrArg some (by kernel_rfl)),
 f235:=Tryz.func127.trans (congrArg some (by kernel_rfl)),
 f236:=Tryz.func128.trans (congrArg some (by kernel_rfl)),
 f260:=Tryz.func158.trans (congrArg some (by kernel_rfl)),
 f266:=Tryz.func196.trans (congrArg some (by kernel_rfl)),
 f271:=Tryz.func174.trans (congrArg some (by kernel_rfl)),
 t0:=Tryz.underlying0,
 a0:=Tryz.isAgg0,
 z0:=Tryz.sizeOf0,
 v0:=Tryz.zeroValue0,
 t3:=Tryz.underlying3,
 a3:=Tryz.isAgg3,
 z3:=Tryz.sizeOf3,
 v3:=Tryz.zeroValue3,
 t4:=Tryz.underlying4,
 a4:=Tryz.isAgg4,
 z4:=Tryz.sizeOf4,
 v4:=Tryz.zeroValue4,
 t5:=Tryz.underlying5,
 a5:=Tryz.isAgg5,
 z5:=Tryz.sizeOf5,
 v5:=Tryz.zeroValue5,
 t9:=Tryz.underlying9,
 a9:=Tryz.isAgg9,
 z9:=Tryz.sizeOf9,
 v9:=Tryz.zeroValue9,
 t21:=Tryz.underlying21,
 a21:=Tryz.isAgg21,
 z21:=Tryz.sizeOf21,
 v21:=Tryz.zeroValue21,
 t46:=Tryz.underlying172,
 a46:=Tryz.isAgg172,
 z46:=Tryz.sizeOf172,
 v46:=Tryz.zeroValue172,
 t105:=Tryz.underlying133,
 a105:=Tryz.isAgg133,
 z105:=Tryz.sizeOf133,
 v105:=Tryz.zeroValue133,
 t116:=Tryz.underlying152,
 a116:=Tryz.isAgg152,
 z116:=Tryz.sizeOf152,
 t117:=Tryz.underlying153,
 a117:=Tryz.isAgg153,
 z117:=Tryz.sizeOf153,
 v117:=Tryz.zeroValue153,
 t119:=Tryz.underlying205,
 a119:=Tryz.isAgg205,
 z119:=Tryz.sizeOf205,
 t124:=Tryz.underlying156,
 a124:=Tryz.isAgg156,
 z124:=Tryz.sizeOf156,
 v124:=Tryz.zeroValue156,
 t138:=Tryz.underlying207,
 a138:=Tryz.isAgg207,
 z138:=Tryz.sizeOf207,
 v138:=Tryz.zeroValue207,
 t139:=Tryz.underlying208,
 a139:=Tryz.isAgg208,
 z139:=Tryz.sizeOf208,
 v139:=Tryz.zeroValue208,
 g3:=by kernel_rfl,
 g4:=by kernel_rfl}
theorem EE:Lays.n171 Tryz.prog liR:={
 mixed:=by kernel_rfl,
 f129:=Tryz.func215.trans (congrArg some (by kernel_rfl)),
 f171:=Tryz.func45.trans (congrArg some (by kernel_rfl)),
 f243:=Tryz.func89.trans (congrArg some (by kernel_rfl)),
 f246:=Tryz.func139.trans (congrArg some (by kernel_rfl)),
 f283:=Tryz.func184.trans (congrArg some (by kernel_rfl)),
 f284:=Tryz.func185.trans (congrArg some (by kernel_rfl)),
 f285:=Tryz.func186.trans (congrArg some (by kernel_rfl)),
 f286:=Tryz.func187.trans (congrArg some (by kernel_rfl)),
 f317:=Tryz.func214.trans (congrArg some (by kernel_rfl)),
 f318:=Tryz.func216.trans (congrArg some (by kernel_rfl)),
 f319:=Tryz.func217.trans (congrArg some (by kernel_rfl)),
 f320:=Tryz.func218.trans (congrArg some (by kernel_rfl)),
 f337:=Tryz.func232.trans (congrArg some (by kernel_rfl)),
 f338:=Tryz.func233.trans (congrArg some (by kernel_rfl)),
 t0:=Tryz.underlying0,
 a0:=Tryz.isAgg0,
 z0:=Tryz.sizeOf0,
 v0:=Tryz.zeroValue0,
 t2:=Tryz.underlying2,
 a2:=Tryz.isAgg2,
 z2:=Tryz.sizeOf2,
 v2:=Tryz.zeroValue2,
 t3:=Tryz.underlying3,
 a3:=Tryz.isAgg3,
 z3:=Tryz.sizeOf3,
 v3:=Tryz.zeroValue3,
 t4:=Tryz.underlying4,
 a4:=Tryz.isAgg4,
 z4:=Tryz.sizeOf4,
 v4:=Tryz.zeroValue4,
 t5:=Tryz.underlying5,
 a5:=Tryz.isAgg5,
 z5:=Tryz.sizeOf5,
 v5:=Tryz.zeroValue5,
 t9:=Tryz.underlying9,
 a9:=Tryz.isAgg9,
 z9:=Tryz.sizeOf9,
 v9:=Tryz.zeroValue9,
 t20:=Tryz.underlying20,
 a20:=Tryz.isAgg20,
 z20:=Tryz.sizeOf20,
 v20:=Tryz.zeroValue20,
 t37:=Tryz.underlying22,
 a37:=Tryz.isAgg22,
 z37:=Tryz.sizeOf22,
 v37:=Tryz.zeroValue22,
 t46:=Tryz.underlying172,
 a46:=Tryz.isAgg172,
 z46:=Tryz.sizeOf172,
 v46:=Tryz.zeroValue172,
 t51:=Tryz.underlying209,
 a51:=Tryz.isAgg209,
 z51:=Tryz.sizeOf209,
 v51:=Tryz.zeroValue209,
 t53:=Tryz.underlying197,
 a53:=Tryz.isAgg197,
 z53:=Tryz.sizeOf197,
 v53:=Tryz.zeroValue197,
 t171:=Tryz.underlying196,
 a171:=Tryz.isAgg196,
 z171:=Tryz.sizeOf196,
 v171:=Tryz.zeroValue196,
 t173:=Tryz.underlying200,
 a173:=Tryz.isAgg200,
 z173:=Tryz.sizeOf200,
 v173:=Tryz.zeroValue200,
 t212:=Tryz.underlying229,
 a212:=Tryz.isAgg229,
 z212:=Tryz.sizeOf229,
 v212:=Tryz.zeroValue229,
 t213:=Tryz.underlying230,
 a213:=Tryz.isAgg230,
 z213:=Tryz.sizeOf230,
 t232:=Tryz.underlying251,
 a232:=Tryz.isAgg251,
 z232:=Tryz.sizeOf251,
 v232:=Tryz.zeroValue251,
 t233:=Tryz.underlying252,
 a233:=Tryz.isAgg252,
 z233:=Tryz.sizeOf252,
 v233:=Tryz.zeroValue252,
 g17:=by kernel_rfl,
 g18:=by kernel_rfl,
 g19:=by kernel_rfl}
theorem EF:Lays.n172 Tryz.prog liR:={
 mixed:=by kernel_rfl,
 f129:=Tryz.func215.trans (congrArg some (by kernel_rfl)),
 f171:=Tryz.func45.trans (congrArg some (by kernel_rfl)),
 f172:=Tryz.func82.trans (congrArg some (by kernel_rfl)),
 f205:=Tryz.func212.trans (congrArg some (by kernel_rfl)),
 f243:=Tryz.func89.trans (congrArg some (by kernel_rfl)),
 f244:=Tryz.func129.trans (congrArg some (by kernel_rfl)),
 f245:=Tryz.func130.trans (congrArg some (by kernel_rfl)),
 f246:=Tryz.func139.trans (congrArg some (by kernel_rfl)),
 f247:=Tryz.func175.trans (congrArg some (by kernel_rfl)),
 f279:=Tryz.func176.trans (congrArg some (by kernel_rfl)),
 f280:=Tryz.func177.trans (congrArg some (by kernel_rfl)),
 f281:=Tryz.func178.trans (congrArg some (by kernel_rfl)),
 f282:=Tryz.func179.trans (congrArg some (by kernel_rfl)),
 f283:=Tryz.func184.trans (congrArg some (by kernel_rfl)),
 f284:=Tryz.func185.trans (congrArg some (by kernel_rfl)),
 f285:=Tryz.func186.trans (congrArg some (by kernel_rfl)),
 f286:=Tryz.func187.trans (congrArg some (by kernel_rfl)),
 f287:=Tryz.func210.trans (congrArg some (by kernel_rfl)),
 f316:=Tryz.func211.trans (congrArg some (by kernel_rfl)),
 f317:=Tryz.func214.trans (congrArg some (by kernel_rfl)),
 f318:=Tryz.func216.trans (congrArg some (by kernel_rfl)),
 f319:=Tryz.func217.trans (congrArg some (by kernel_rfl)),
 f320:=Tryz.func218.trans (congrArg some (by kernel_rfl)),
 f321:=Tryz.func230.trans (congrArg some (by kernel_rfl)),
 f322:=Tryz.func231.trans (congrArg some (by kernel_rfl)),
 f337:=Tryz.func232.trans (congrArg some (by kernel_rfl)),
 f338:=Tryz.func233.trans (congrArg some (by kernel_rfl)),
 t0:=Tryz.underlying0,
 a0:=Tryz.isAgg0,
 z0:=Tryz.sizeOf0,
 v0:=Tryz.zeroValue0,
 t2:=Tryz.underlying2,
 a2:=Tryz.isAgg2,
 z2:=Tryz.sizeOf2,
 v2:=Tryz.zeroValue2,
 t3:=Tryz.underlying3,
 a3:=Tryz.isAgg3,
 z3:=Tryz.sizeOf3,
 v3:=Tryz.zeroValue3,
 t4:=Tryz.underlying4,
 a4:=Tryz.isAgg4,
 z4:=Tryz.sizeOf4,
 v4:=Tryz.zeroValue4,
 t5:=Tryz.underlying5,
 a5:=Tryz.isAgg5,
 z5:=Tryz.sizeOf5,
 v5:=Tryz.zeroValue5,
 t9:=Tryz.underlying9,
 a9:=Tryz.isAgg9,
 z9:=Tryz.sizeOf9,
 v9:=Tryz.zeroValue9,
 t20:=Tryz.underlying20,
 a20:=Tryz.isAgg20,
 z20:=Tryz.sizeOf20,
 v20:=Tryz.zeroValue20,
 t21:=Tryz.underlying21,
 a21:=Tryz.isAgg21,
 z21:=Tryz.sizeOf21,
 v21:=Tryz.zeroValue21,
 t37:=Tryz.underlying22,
 a37:=Tryz.isAgg22,
 z37:=Tryz.sizeOf22,
 v37:=Tryz.zeroValue22,
 t46:=Tryz.underlying172,
 a46:=Tryz.isAgg172,
 z46:=Tryz.sizeOf172,
 v46:=Tryz.zeroValue172,
 t51:=Tryz.underlying209,
 a51:=Tryz.isAgg209,
 z51:=Tryz.sizeOf209,
 v51:=Tryz.zeroValue209,
 t53:=Tryz.underlying197,
 a53:=Tryz.isAgg197,
 z53:=Tryz.sizeOf197,
 v53:=Tryz.zeroValue197,
 t75:=Tryz.underlying54,
 a75:=Tryz.isAgg54,
 z75:=Tryz.sizeOf54,
 v75:=Tryz.zeroValue54,
 t76:=Tryz.underlying55,
 a76:=Tryz.isAgg55,
 z76:=Tryz.sizeOf55,
 v76:=Tryz.zeroValue55,
 t85:=Tryz.underlying186,
 a85:=Tryz.isAgg186,
 z85:=Tryz.sizeOf186,
 v85:=Tryz.zeroValue186,
 t127:=Tryz.underlying80,
 a127:=Tryz.isAgg80,
 z127:=Tryz.sizeOf80,
 v127:=Tryz.zeroValue80,
 t143:=Tryz.underlying243,
 a143:=Tryz.isAgg243,
 z143:=Tryz.sizeOf243,
 v143:=Tryz.zeroValue243,
 t145:=Tryz.underlying245,
 a145:=Tryz.isAgg245,
 z145:=Tryz.sizeOf245,
 v145:=Tryz.zeroValue245,
 t167:=Tryz.underlying185,
 a167:=Tryz.isAgg185,
 z167:=Tryz.sizeOf185,
 v167:=Tryz.zeroValue185,
 t168:=Tryz.underlying188,
 a168:=Tryz.isAgg188,
 z168:=Tryz.sizeOf188,
 v168:=Tryz.zeroValue188,
 t171:=Tryz.underlying196,
 a171:=Tryz.isAgg196,
 z171:=Tryz.sizeOf196,
 v171:=Tryz.zeroValue196,
 t173:=Tryz.underlying200,
 a173:=Tryz.isAgg200,
 z173:=Tryz.sizeOf200,
 v173:=Tryz.zeroValue200,
 t175:=Tryz.underlying220,
 a175:=Tryz.isAgg220,
 z175:=Tryz.sizeOf220,
 v175:=Tryz.zeroValue220,
 t210:=Tryz.underlying224,
 a210:=Tryz.isAgg224,
 z210:=Tryz.sizeOf224,
 v210:=Tryz.zeroValue224,
 t212:=Tryz.underlying229,
 a212:=Tryz.isAgg229,
 z212:=Tryz.sizeOf229,
 v212:=Tryz.zeroValue229,
 t213:=Tryz.underlying230,
 a213:=Tryz.isAgg230,
 z213:=Tryz.sizeOf230,
 t232:=Tryz.underlying251,
 a232:=Tryz.isAgg251,
 z232:=Tryz.sizeOf251,
 v232:=Tryz.zeroValue251,
 t233:=Tryz.underlying252,
 a233:=Tryz.isAgg252,
 z233:=Tryz.sizeOf252,
 v233:=Tryz.zeroValue252,
 g15:=by kernel_rfl,
 g16:=by kernel_rfl,
 g17:=by kernel_rfl,
 g18:=by kernel_rfl,
 g19:=by kernel_rfl}
theorem Dn:Lays.n166 Tryz.prog liR:={
 mixed:=by kernel_rfl,
 f166:=Tryz.func26.trans (congrArg some (by kernel_rfl)),
 f240:=Tryz.func39.trans (congrArg some (by kernel_rfl)),
 f276:=Tryz.func66.trans (congrArg some (by kernel_rfl)),
 t0:=Tryz.underlying0,
 a0:=Tryz.isAgg0,
 z0:=Tryz.sizeOf0,
 v0:=Tryz.zeroValue0,
 t3:=Tryz.underlying3,
 a3:=Tryz.isAgg3,
 z3:=Tryz.sizeOf3,
 v3:=Tryz.zeroValue3,
 t4:=Tryz.underlying4,
 a4:=Tryz.isAgg4,
 z4:=Tryz.sizeOf4,
 v4:=Tryz.zeroValue4,
 t9:=Tryz.underlying9,
 a9:=Tryz.isAgg9,
 z9:=Tryz.sizeOf9,
 v9:=Tryz.zeroValue9,
 t20:=Tryz.underlying20,
 a20:=Tryz.isAgg20,
 z20:=Tryz.sizeOf20,
 v20:=Tryz.zeroValue20,
 t37:=Tryz.underlying22,
 a37:=Tryz.isAgg22,
 z37:=Tryz.sizeOf22,
 v37:=Tryz.zeroValue22,
 t70:=Tryz.underlying48,
 a70:=Tryz.isAgg48,
 z70:=Tryz.sizeOf48,
 v70:=Tryz.zeroValue48,
 t72:=Tryz.underlying50,
 a72:=Tryz.isAgg50,
 z72:=Tryz.sizeOf50,
 v72:=Tryz.zeroValue50,
 t75:=Tryz.underlying54,
 a75:=Tryz.isAgg54,
 z75:=Tryz.sizeOf54,
 v75:=Tryz.zeroValue54,
 t164:=Tryz.underlying107,
 a164:=Tryz.isAgg107,
 z164:=Tryz.sizeOf107,
 v164:=Tryz.zeroValue107}
theorem zF:Lays.n169 Tryz.prog liR:={
 mixed:=by kernel_rfl,
 f169:=Tryz.func28.trans (congrArg some (by kernel_rfl)),
 t0:=Tryz.underlying0,
 a0:=Tryz.isAgg0,
 z0:=Tryz.sizeOf0,
 v0:=Tryz.zeroValue0,
 t3:=Tryz.underlying3,
 a3:=Tryz.isAgg3,
 z3:=Tryz.sizeOf3,
 v3:=Tryz.zeroValue3,
 t9:=Tryz.underlying9,
 a9:=Tryz.isAgg9,
 z9:=Tryz.sizeOf9,
 v9:=Tryz.zeroValue9,
 t37:=Tryz.underlying22,
 a37:=Tryz.isAgg22,
 z37:=Tryz.sizeOf22,
 v37:=Tryz.zeroValue22,
 t70:=Tryz.underlying48,
 a70:=Tryz.isAgg48,
 z70:=Tryz.sizeOf48,
 v70:=Tryz.zeroValue48,
 t72:=Tryz.underlying50,
 a72:=Tryz.isAgg50,
 z72:=Tryz.sizeOf50,
 v72:=Tryz.zeroValue50,
 t127:=Tryz.underlying80,
 a127:=Tryz.isAgg80,
 z127:=Tryz.sizeOf80,
 v127:=Tryz.zeroValue80}
theorem sO:Builder.Extra Tryz.prog liR:={
 sizeBuilder:=by kernel_rfl,
 liesBuilder:=by kernel_rfl,
 t5:=Tryz.underlying5,
 a5:=Tryz.isAgg5,
 z5:=Tryz.sizeOf5,
 v5:=Tryz.zeroValue5,
 infoByte:=by kernel_rfl,
 cellsByte:=by kernel_rfl,
 sizeByte:=by kernel_rfl,
 neB5:=by decide}
end Dx
namespace Dx
open Go
def tab:List (Nat×TI) :=
[(3,⟨.int .i64,1,false,[.int .i64 (.n 0)],8⟩),
  (4,⟨.bool,1,false,[.bool (.b false)],1⟩),
  (5,⟨.int .u8,1,false,[.int .u8 (.n 0)],1⟩),
  (9,⟨.str,1,false,[.str (.s ⟨#[]⟩)],16⟩),
  (22,⟨.slice 5,1,false,[.nil],24⟩),
  (23,⟨.slice 3,1,false,[.nil],24⟩),
  (37,⟨.slice 138,1,false,[.nil],24⟩),
  (39,⟨.struct [(0,1,false),(1,1,false)],2,true,[.nil,.int .i64 (.n 0)],32⟩),
  (40,⟨.slice 97,1,false,[.nil],24⟩),
  (42,⟨.struct [(0,1,false),(1,2,true),(3,1,false)],4,true,[.bool (.b false),.nil,.int .i64 (.n 0),.nil],64⟩),
  (43,⟨.slice 68,1,false,[.nil],24⟩),
  (45,⟨.struct [(0,4,true),(4,1,false),(5,1,false)],6,true,[.bool (.b false),.nil,.int .i64 (.n 0),.nil,.nil,.nil],112⟩),
  (50,⟨.bld 5,2,true,[.nilptr,.nil],32⟩),
  (51,⟨.slice 9,1,false,[.nil],24⟩),
  (64,⟨.struct [(0,1,false),(1,1,false)],2,true,[.nil,.int .i64 (.n 0)],32⟩),
  (68,⟨.struct [(0,1,false),(1,1,false),(2,1,false),(3,2,true)],5,true,[.int .i64 (.n 0),.bool (.b false),.int .i64 (.n 0),.nil,.int .i64 (.n 0)],56⟩),
  (73,⟨.map 9 3,1,false,[.any],8⟩),
  (78,⟨.struct [(0,1,false),(1,1,false),(2,1,false),(3,1,false)],4,true,[.int .i64 (.n 0),.int .i64 (.n 0),.int .i64 (.n 0),.nil],48⟩),
  (81,⟨.slice 84,1,false,[.nil],24⟩),
  (84,⟨.struct [(0,1,false),(1,1,false)],2,true,[.nil,.int .i64 (.n 0)],32⟩),
  (85,⟨.slice 88,1,false,[.nil],24⟩),
  (88,⟨.struct [(0,1,false),(1,1,false)],2,true,[.int .i64 (.n 0),.int .i64 (.n 0)],16⟩),
  (90,⟨.struct [(0,1,false),(1,1,false)],2,true,[.int .i64 (.n 0),.nil],32⟩),
  (97,⟨.struct [(0,1,false),(1,1,false),(2,1,false),(3,1,false)],4,true,[.int .i64 (.n 0),.int .i64 (.n 0),.int .i64 (.n 0),.int .i64 (.n 0)],32⟩),
  (138,⟨.struct [(0,1,false),(1,1,false),(2,1,false)],3,true,[.int .i64 (.n 0),.int .i64 (.n 0),.nil],40⟩),
  (140,⟨.arr 2 3,2,true,[.int .i64 (.n 0),.int .i64 (.n 0)],16⟩),
  (141,⟨.map 3 140,1,false,[.any],8⟩),
  (192,⟨.slice 40,1,false,[.nil],24⟩)]
def tab':Tab:=Ad tab
theorem Lb:cj Proofs.Tryz.prog (Ad tab):=HO (by kernel_rfl)
end Dx
namespace Dx
open Go Go.Proofs
def eqs:List (Nat×Nat):=[(97,4),(88,2)]
theorem Lc:DZ Tryz.prog (Cr eqs):=Nr (by kernel_rfl)
theorem pZ:Tryz.prog.follows .mixedOrders=true:=by kernel_rfl
def aV:List (Nat×List Sh):=[(68,[.val,.val,.val,(.arr 138 [.val,.val,.val]),.val])]
def vu(fn:Func):Code:=match fn.body with
 | some b=>b
 | none=>.skip
def bs:List (Nat×Bool×Nat×Nat):=[(26,true,50,5),(28,false,50,5)]
set_option maxRecDepth 100000 in
theorem bs_ok:∀ p∈bs,rY Tryz.prog p.1 p.2:=by
 intro p hp
 simp only[bs,List.mem_cons,List.not_mem_nil,or_false]at hp
 rcases hp with rfl|rfl
 ·exact Nt Dn sO
 ·exact HR zF sO
def gE(R:List (Nat×List Sh))(tr:Bool)(E:List (Nat×Nat×Con)):Env:=⟨Ad tab,Cr eqs,getR R,Gx E,tr,HP bs⟩
abbrev hE:How:=⟨aB [],aB [],aB []⟩
abbrev sI(n:Nat):SV:=.int .i64 (.v n)
theorem fo{G:Env}{Φ:Phi}(hG:EnvOk Tryz.prog G Φ){f:FuncId}(fn:Func){c:Con}(H:How){t:Tree}(h:(Tryz.prog.funcs[f]?,fn.body,fn.name=="runtime.NumGoroutine",fnT G H c fn (vu fn))=(some fn,some (vu fn),false,t)):Has Tryz.prog f c (fun cs=>ai (den Φ t cs)):=by
 simp only[Prod.mk.injEq]at h
 exact fn_ok hG h.1 h.2.1 h.2.2.1 h.2.2.2
theorem eo{E:Nat->List (Nat×Con)}{R:Rows}{tr:Bool}{Φ:Phi}(h:∀ f c,c∈E f->Has Tryz.prog f c.2 (Φ c.1)):EnvOk Tryz.prog ⟨Ad tab,Cr eqs,R,E,tr,HP bs⟩ Φ:=⟨Lb,Lc,h,pZ,Cs bs_ok⟩
theorem fp{E:List (Nat×Nat×Con)}{R:List (Nat×List Sh)}{tr:Bool}{Φ:Phi}(m:Bt Tryz.prog Φ E){f:FuncId}(fn:Func){c:Con}(H:How){t:Tree}(h:(Tryz.prog.funcs[f]?,fn.body,fn.name=="runtime.NumGoroutine",fnT (gE R tr E) H c fn (vu fn))=(some fn,some (vu fn),false,t)):Has Tryz.prog f c (fun cs=>ai (den Φ t cs)):=fo (eo (pK (kL m))) fn H h
abbrev v5:List Sh:=[.val,.val,.val,.val,.val]
abbrev v4:List Sh:=[.val,.val,.val,.val]
abbrev v3:List Sh:=[.val,.val,.val]
abbrev kW:List CK:=[.bool,.list,kI,.list,.list,.list]
abbrev kD:List CK:=[.bool,.list,kI,.list]
abbrev kH:List CK:=[kI,.bool,kI,.list,kI]
abbrev kJ:List CK:=[kI,kI,kI,kI]
def c_fx:Con:=⟨[.own false [.val] [.list] false],[⟨false,[.val,.val],[.list,kI],true⟩]⟩
theorem Ld:Has Tryz.prog 19 c_fx xD:=fp (R:=aV) (tr:=false) (E:=[]) (Φ:=ph []) (t:=t_fx) trivial Tryz.f19 hE (by kernel_rfl)
def Hs:Con:=⟨[.ptr [.val,.val] [.list,kI],.ro false [kI]],[⟨false,[.val],[kI],false⟩]⟩
theorem vv:Has Tryz.prog 20 Hs dy:=fp (R:=aV) (tr:=false) (E:=[]) (Φ:=ph []) (t:=t_ct) trivial Tryz.f20 hE (by kernel_rfl)
def BP:Con:=⟨[.ro false [kI]],[⟨false,[.val],[.str],false⟩]⟩
def g_gr:Env:=gE aV false [(34,0,BP)]
theorem wX:∀ k,Has Tryz.prog 34 BP (lh k)
 | 0=>⟨cZ (fn:=Tryz.f34) (by kernel_rfl) (by kernel_rfl) (by kernel_rfl),fun _ _ _ _ _ _ _ _ _ _ h=>by cases h⟩
 | k+1=>fo (G:=g_gr) (Φ:=ph [lh k]) (t:=Fb) (eo (pK (kL ⟨wX k,trivial⟩))) Tryz.f34 hE (by kernel_rfl)
theorem qM:Has Tryz.prog 34 BP dJ:=wX 3
def c_fm:Con:=⟨[.ptr [.val,.val] [.list,kI],.ro false [.list]],[⟨false,[.val],[.str],false⟩]⟩
theorem Le:Has Tryz.prog 35 c_fm li:=fp (R:=aV) (tr:=false) (E:=[(20,0,Hs)]) (Φ:=HU) (t:=t_fm) ⟨vv,trivial⟩ Tryz.f35 hE (by kernel_rfl)
def c_fh:Con:=⟨[.ptr [.val,.val] [.list,kI]],[⟨false,[.val],[.str],false⟩]⟩
def h_fh:How:=⟨aB [],
 aB [(13,⟨[.bool],[(37,(.bool (.v 0)))],[],[],0⟩),(10,⟨[.bool],[(30,(.bool (.v 0)))],[],[],0⟩),(7,⟨[.bool],[(23,(.bool (.v 0)))],[],[],0⟩),(4,⟨[.bool],[(5,(.bool (.v 0)))],[],[],0⟩)],
 aB []⟩
theorem Lf:Has Tryz.prog 21 c_fh xE:=fp (R:=aV) (tr:=false) (E:=[(20,0,Hs),(34,1,BP),(35,2,c_fm)]) (Φ:=HV) (t:=t_fh) ⟨vv,qM,Le,trivial⟩ Tryz.f21 h_fh (by kernel_rfl)
def c_ge:Con:=⟨[.ro false [.str],.ro false [kI]],[⟨false,[.val],[.str],false⟩]⟩
def h_ge:How:=⟨aB [(0,⟨[.str,.str,kI],[(5,(.str (.v 0))),(0,(.str (.v 1))),(1,(sI 2))],[],[],0⟩)],
 aB [],
 aB []⟩
theorem Lg:Has Tryz.prog 22 c_ge xF:=fp (R:=aV) (tr:=false) (E:=[]) (Φ:=ph []) (t:=t_ge) trivial Tryz.f22 h_ge (by kernel_rfl)
def c_ed:Con:=⟨[.ptr [.val,.val] [.list,kI]],[⟨false,[(.arr 3 [.val])],[.list],false⟩]⟩
theorem Lh:Has Tryz.prog 23 c_ed uw:=fp (R:=aV) (tr:=false) (E:=[(20,0,Hs)]) (Φ:=HW) (t:=t_ed) ⟨vv,trivial⟩ Tryz.f23 hE (by kernel_rfl)
def uc:Con:=⟨[.own false [.val] [.list] false],[⟨false,[.val],[.list],false⟩,⟨false,[.val],[.str],false⟩]⟩
def h_be:How:=⟨aB [(0,⟨[.str,kI,.list,kI],[(5,(.str (.v 0))),(6,(sI 1))],[(0,.cells [(.view true (.v 2)),(sI 3)])],[],0⟩)],
 aB [],
 aB []⟩
theorem gX:Has Tryz.prog 14 uc il:=fp (R:=aV) (tr:=false) (E:=[(19,0,c_fx),(20,1,Hs),(21,2,c_fh),(22,3,c_ge),(23,4,c_ed)]) (Φ:=HX) (t:=t_be) ⟨Ld,vv,Lf,Lg,Lh,trivial⟩ Tryz.f14 h_be (by kernel_rfl)
def c_fg:Con:=⟨[],[⟨true,[.val,.val,.val,(.arr 97 v4)],kD,false⟩]⟩
theorem Li:Has Tryz.prog 36 c_fg xG:=fp (R:=[]) (tr:=false) (E:=[]) (Φ:=ph []) (t:=t_fg) trivial Tryz.f36 hE (by kernel_rfl)
def lR:Con:=⟨[.ro false [kI],.ro false [kI],.ro false [kI]],[⟨false,[.val],[.bool],false⟩]⟩
theorem dO:Has Tryz.prog 62 lR bK:=fp (R:=[]) (tr:=false) (E:=[]) (Φ:=ph []) (t:=t_gy) trivial Tryz.f62 hE (by kernel_rfl)
def DU:Con:=⟨[.ro false [kI]],[⟨false,[.val],[.bool],false⟩]⟩
theorem nH:Has Tryz.prog 61 DU fZ:=fp (R:=[]) (tr:=false) (E:=[(62,0,lR)]) (Φ:=HY) (t:=t_ef) ⟨dO,trivial⟩ Tryz.f61 hE (by kernel_rfl)
def c_df:Con:=⟨[.ro false [kI],.ro false [kI]],[⟨true,v5,kH,false⟩,⟨false,[.val],[.bool],false⟩]⟩
theorem Lj:Has Tryz.prog 37 c_df xH:=fp (R:=[]) (tr:=false) (E:=[(61,0,DU),(62,1,lR)]) (Φ:=HZ) (t:=t_df) ⟨nH,dO,trivial⟩ Tryz.f37 hE (by kernel_rfl)
def c_du:Con:=⟨[.ro false [.list]],[⟨true,[.val,.val,.val,(.arr 97 v4),(.arr 68 v5),(.arr 97 v4)],kW,false⟩,⟨false,[.val],[.bool],false⟩]⟩
def h_du:How:=⟨aB [(0,⟨[kI,.list],[(3,(.bool (.b false))),(17,(sI 0))],[(2,.cells [(.bool (.v 1003)),(.view true (.v 1004)),(sI 1005),(.sl 1),(.sl 1000),.nil]),(1000,.arr 68 v5 (.v 1))],[],1⟩)],
 aB [],
 aB []⟩
theorem Lk:Has Tryz.prog 24 c_du xI:=fp (R:=[]) (tr:=false) (E:=[(36,0,c_fg),(37,1,c_df)]) (Φ:=H0) (t:=t_du) ⟨Li,Lj,trivial⟩ Tryz.f24 h_du (by kernel_rfl)
def c_ds:Con:=jn 9
theorem Ll:Has Tryz.prog 25 c_ds lL:=Dz Dm (by kernel_rfl) rfl
def iX:Con:=l5
theorem lS:Has Tryz.prog 81 iX bV:=E6 ED (by kernel_rfl)
def iY:Con:=l7
theorem lT:Has Tryz.prog 82 iY bW:=E9 EF
def c_gc:Con:=⟨[.ro false [.list],.ro false [kI]],[⟨false,[.val],[kI],false⟩]⟩
theorem Lm:Has Tryz.prog 41 c_gc im:=fp (R:=[]) (tr:=false) (E:=[(62,0,lR),(81,1,iX),(82,2,iY)]) (Φ:=H1) (t:=t_gc) ⟨dO,lS,lT,trivial⟩ Tryz.f41 hE (by kernel_rfl)
def c_cd:Con:=⟨[.ro false [kI]],[⟨false,[.val],[.bool],false⟩]⟩
theorem Ln:Has Tryz.prog 201 c_cd xJ:=fp (R:=[]) (tr:=false) (E:=[(62,0,lR)]) (Φ:=H2) (t:=t_cd) ⟨dO,trivial⟩ Tryz.f201 hE (by kernel_rfl)
def c_ao:Con:=⟨[.ro false [.list],.fn 201 []],[⟨false,[.val],[kI],false⟩]⟩
def h_ao:How:=⟨aB [(0,⟨[kI],[(4,(.int .i64 (.n 0))),(8,(sI 0))],[],[],0⟩)],
 aB [],
 aB []⟩
theorem Lo:Has Tryz.prog 225 c_ao xK:=fp (R:=[]) (tr:=false) (E:=[(201,0,c_cd)]) (Φ:=H3) (t:=t_ao) ⟨Ln,trivial⟩ Tryz.f225 h_ao (by kernel_rfl)
def c_ak:Con:=⟨[.ro false [.list],.fn 201 []],[⟨false,[.val],[.bool],false⟩]⟩
theorem Lp:Has Tryz.prog 203 c_ak xL:=fp (R:=[]) (tr:=false) (E:=[(225,0,c_ao)]) (Φ:=H4) (t:=t_ak) ⟨Lo,trivial⟩ Tryz.f203 hE (by kernel_rfl)
def c_cb:Con:=⟨[.ro false [kI]],[⟨false,[.val],[.bool],false⟩]⟩
theorem Lq:Has Tryz.prog 202 c_cb xM:=fp (R:=[]) (tr:=false) (E:=[]) (Φ:=ph []) (t:=t_cb) trivial Tryz.f202 hE (by kernel_rfl)
def c_an:Con:=⟨[.ro false [.list],.fn 202 []],[⟨false,[.val],[kI],false⟩]⟩
def h_an:How:=⟨aB [(0,⟨[kI],[(4,(.int .i64 (.n 0))),(8,(sI 0))],[],[],0⟩)],
 aB [],
 aB []⟩
theorem Lr:Has Tryz.prog 225 c_an xN:=fp (R:=[]) (tr:=false) (E:=[(202,0,c_cb)]) (Φ:=H5) (t:=t_an) ⟨Lq,trivial⟩ Tryz.f225 h_an (by kernel_rfl)
def c_al:Con:=⟨[.ro false [.list],.fn 202 []],[⟨false,[.val],[.bool],false⟩]⟩
theorem Ls:Has Tryz.prog 203 c_al xO:=fp (R:=[]) (tr:=false) (E:=[(225,0,c_an)]) (Φ:=H6) (t:=t_al) ⟨Lr,trivial⟩ Tryz.f203 hE (by kernel_rfl)
def c_dt:Con:=⟨[.ro false [.list]],[⟨false,[.val],[.bool],false⟩]⟩
theorem Fv:Has Tryz.prog 167 c_dt rj:=fp (R:=[]) (tr:=false) (E:=[(203,0,c_ak),(203,1,c_al)]) (Φ:=H7) (t:=t_dt) ⟨Lp,Ls,trivial⟩ Tryz.f167 hE (by kernel_rfl)
def Ht:Con:=⟨[.ro false [kI]],[⟨false,[.val],[.bool],false⟩]⟩
theorem vx:Has Tryz.prog 90 Ht gC:=fp (R:=[]) (tr:=false) (E:=[(62,0,lR)]) (Φ:=H8) (t:=t_gh) ⟨dO,trivial⟩ Tryz.f90 hE (by kernel_rfl)
def Fw:Con:=⟨[.ro true [kI,kI,.list]],[⟨false,[.val],[.bool],false⟩]⟩
theorem qN:Has Tryz.prog 113 Fw iH:=fp (R:=[]) (tr:=false) (E:=[(62,0,lR),(167,1,c_dt),(90,2,Ht)]) (Φ:=H9) (t:=t_go) ⟨dO,Fv,vx,trivial⟩ Tryz.f113 hE (by kernel_rfl)
def c_fk:Con:=⟨[.ro true [kI,kI,.list]],[⟨false,[.val],[.bool],false⟩]⟩
theorem Lt:Has Tryz.prog 198 c_fk xP:=fp (R:=[]) (tr:=false) (E:=[(113,0,Fw)]) (Φ:=Ib) (t:=t_fk) ⟨qN,trivial⟩ Tryz.f198 hE (by kernel_rfl)
def c_am:Con:=⟨[.ro false [.list],.fn 198 []],[⟨false,[.val],[kI],false⟩]⟩
def h_am:How:=⟨aB [(0,⟨[kI],[(4,(.int .i64 (.n 0))),(8,(sI 0))],[],[],0⟩)],
 aB [],
 aB []⟩
theorem Lu:Has Tryz.prog 224 c_am xQ:=fp (R:=[]) (tr:=false) (E:=[(198,0,c_fk)]) (Φ:=Ic) (t:=t_am) ⟨Lt,trivial⟩ Tryz.f224 h_am (by kernel_rfl)
def c_ai:Con:=⟨[.ro false [.list],.fn 198 []],[⟨false,[.val],[.bool],false⟩]⟩
theorem Lv:Has Tryz.prog 199 c_ai xR:=fp (R:=[]) (tr:=false) (E:=[(224,0,c_am)]) (Φ:=Ie) (t:=t_ai) ⟨Lu,trivial⟩ Tryz.f199 hE (by kernel_rfl)
def Fx:Con:=⟨[.ro true [.list,kI]],[⟨false,[.val],[.bool],false⟩]⟩
theorem qO:Has Tryz.prog 163 Fx iI:=fp (R:=[]) (tr:=false) (E:=[(62,0,lR),(199,1,c_ai)]) (Φ:=If) (t:=t_gm) ⟨dO,Lv,trivial⟩ Tryz.f163 hE (by kernel_rfl)
def c_cr:Con:=⟨[.ro true [.list,kI]],[⟨false,[.val],[.bool],false⟩]⟩
theorem Lw:Has Tryz.prog 226 c_cr xS:=fp (R:=[]) (tr:=false) (E:=[(167,0,c_dt),(62,1,lR)]) (Φ:=Ig) (t:=t_cr) ⟨Fv,dO,trivial⟩ Tryz.f226 hE (by kernel_rfl)
def c_ag:Con:=⟨[.ro false [.list],.fn 226 []],[⟨false,[.val],[kI],false⟩]⟩
def h_ag:How:=⟨aB [(0,⟨[kI],[(4,(.int .i64 (.n 0))),(8,(sI 0))],[],[],0⟩)],
 aB [],
 aB []⟩
theorem Lx:Has Tryz.prog 239 c_ag xT:=fp (R:=[]) (tr:=false) (E:=[(226,0,c_cr)]) (Φ:=Ih) (t:=t_ag) ⟨Lw,trivial⟩ Tryz.f239 h_ag (by kernel_rfl)
def c_af:Con:=⟨[.ro false [.list],.fn 226 []],[⟨false,[.val],[.bool],false⟩]⟩
theorem Ly:Has Tryz.prog 227 c_af xU:=fp (R:=[]) (tr:=false) (E:=[(239,0,c_ag)]) (Φ:=Ii) (t:=t_af) ⟨Lx,trivial⟩ Tryz.f227 hE (by kernel_rfl)
def c_ek:Con:=⟨[.ro false [.list]],[⟨false,[.val],[.bool],false⟩]⟩
theorem Lz:Has Tryz.prog 204 c_ek xV:=fp (R:=[]) (tr:=false) (E:=[(227,0,c_af)]) (Φ:=Ij) (t:=t_ek) ⟨Ly,trivial⟩ Tryz.f204 hE (by kernel_rfl)
def c_ee:Con:=⟨[.ro false [.list],.ro false [kI]],[⟨false,[.val],[kI],false⟩]⟩
theorem Fy:Has Tryz.prog 205 c_ee rl:=fp (R:=[]) (tr:=false) (E:=[(62,0,lR)]) (Φ:=Ik) (t:=t_ee) ⟨dO,trivial⟩ Tryz.f205 hE (by kernel_rfl)
def c_dy:Con:=⟨[.ro false [.list],.ro true [kI,kI,.list]],[⟨false,[.val],[.bool],false⟩]⟩
theorem Fz:Has Tryz.prog 168 c_dy rn:=fp (R:=[]) (tr:=false) (E:=[(204,0,c_ek),(113,1,Fw),(205,2,c_ee)]) (Φ:=Il) (t:=t_dy) ⟨Lz,qN,Fy,trivial⟩ Tryz.f168 hE (by kernel_rfl)
def c_bm:Con:=⟨[.ro false [.list]],[⟨false,[.val],[.list],false⟩]⟩
theorem FB:Has Tryz.prog 183 c_bm oe:=fp (R:=[]) (tr:=false) (E:=[]) (Φ:=ph []) (t:=t_bm) trivial Tryz.f183 hE (by kernel_rfl)
def c_ep:Con:=⟨[.ro false [.list],.ro true [kI,kI,.list]],[⟨false,[.val],[.list],false⟩,⟨false,[.val],[.bool],false⟩]⟩
def h_ep:How:=⟨aB [(0,⟨[kI,.list],[(6,(.sl 1000)),(16,(sI 0))],[(1000,.arr 84 [.val,.val] (.v 1))],[],1⟩)],
 aB [],
 aB []⟩
theorem LA:Has Tryz.prog 138 c_ep xW:=fp (R:=[]) (tr:=false) (E:=[(168,0,c_dy),(183,1,c_bm)]) (Φ:=In) (t:=t_ep) ⟨Fz,FB,trivial⟩ Tryz.f138 h_ep (by kernel_rfl)
def c_ej:Con:=⟨[.ro false [.list]],[⟨false,[.val],[.list],false⟩,⟨false,[.val],[.bool],false⟩]⟩
def h_ej:How:=⟨aB [(0,⟨[.list,.bool,kI],[(4,(.view true (.v 0))),(5,(.bool (.v 1))),(6,(sI 2))],[],[],0⟩)],
 aB [],
 aB []⟩
theorem FC:Has Tryz.prog 87 c_ej rp:=fp (R:=[]) (tr:=false) (E:=[(138,0,c_ep)]) (Φ:=Io) (t:=t_ej) ⟨LA,trivial⟩ Tryz.f87 h_ej (by kernel_rfl)
def FD:Con:=⟨[.ro true kJ],[⟨false,[.val],[.bool],false⟩]⟩
theorem qP:Has Tryz.prog 133 FD iJ:=fp (R:=[]) (tr:=false) (E:=[(62,0,lR),(61,1,DU),(90,2,Ht)]) (Φ:=Ip) (t:=t_gb) ⟨dO,nH,vx,trivial⟩ Tryz.f133 hE (by kernel_rfl)
def FE:Con:=⟨[.ro true kJ],[⟨false,[.val],[.bool],false⟩]⟩
theorem qQ:Has Tryz.prog 164 FE iK:=fp (R:=[]) (tr:=false) (E:=[]) (Φ:=ph []) (t:=t_bj) trivial Tryz.f164 hE (by kernel_rfl)
def c_as:Con:=⟨[.ro false [.list],.ro true kJ],[⟨false,[.val],[kI],false⟩]⟩
def h_as:How:=⟨aB [(0,⟨[kI],[(4,(.int .i64 (.n 0))),(8,(sI 0))],[],[],0⟩)],
 aB [],
 aB []⟩
theorem LB:Has Tryz.prog 200 c_as xX:=fp (R:=[]) (tr:=false) (E:=[]) (Φ:=ph []) (t:=t_as) trivial Tryz.f200 h_as (by kernel_rfl)
def Kr:Con:=⟨[.ro false [.list],.ro true kJ],[⟨false,[.val],[.bool],false⟩]⟩
theorem Ba:Has Tryz.prog 165 Kr ng:=fp (R:=[]) (tr:=false) (E:=[(200,0,c_as)]) (Φ:=Iq) (t:=t_ap) ⟨LB,trivial⟩ Tryz.f165 hE (by kernel_rfl)
def DV:Con:=⟨[.ro true kD],[⟨false,[.val],[.bool],false⟩]⟩
def h_fv:How:=⟨aB [(0,⟨[kI],[(2,(.bool (.b false))),(32,(sI 0))],[],[],0⟩)],
 aB [(3,⟨[],[(2,(.bool (.b false)))],[],[],0⟩)],
 aB []⟩
theorem nJ:Has Tryz.prog 111 DV gD:=fp (R:=[]) (tr:=false) (E:=[(163,0,Fx),(87,1,c_ej),(133,2,FD),(164,3,FE),(165,4,Kr)]) (Φ:=Ir) (t:=t_fv) ⟨qO,FC,qP,qQ,Ba,trivial⟩ Tryz.f111 h_fv (by kernel_rfl)
def c_ce:Con:=⟨[.ro true [kI,kI,.list]],[⟨true,v3,[kI,kI,.list],false⟩]⟩
theorem FF:Has Tryz.prog 206 c_ce rq:=fp (R:=[]) (tr:=false) (E:=[(183,0,c_bm)]) (Φ:=Is) (t:=t_ce) ⟨FB,trivial⟩ Tryz.f206 hE (by kernel_rfl)
def Ks:Con:=⟨[.ro true [.list,kI],.ro false [kI],.ro false [kI]],[⟨true,[(.arr 138 v3),.val],[.list,kI],false⟩]⟩
def h_cy:How:=⟨aB [(0,⟨[kI,.list],[(17,(sI 0))],[(2,.cells [(.sl 1000),(sI 1003)]),(1000,.arr 138 v3 (.v 1))],[],1⟩)],
 aB [],
 aB []⟩
theorem Bb:Has Tryz.prog 171 Ks ni:=fp (R:=[]) (tr:=false) (E:=[(206,0,c_ce)]) (Φ:=It) (t:=t_cy) ⟨FF,trivial⟩ Tryz.f171 h_cy (by kernel_rfl)
def Kt:Con:=⟨[.ro true [.list,kI]],[⟨true,[(.arr 138 v3),.val],[.list,kI],false⟩]⟩
theorem Bc:Has Tryz.prog 166 Kt nj:=fp (R:=[]) (tr:=false) (E:=[(171,0,Ks)]) (Φ:=Iu) (t:=t_ci) ⟨Bb,trivial⟩ Tryz.f166 hE (by kernel_rfl)
def c_au:Con:=⟨[.ro false [.list]],[⟨false,[(.arr 97 v4)],[.list],false⟩]⟩
theorem FH:Has Tryz.prog 134 c_au rr:=fp (R:=[]) (tr:=false) (E:=[]) (Φ:=ph []) (t:=t_au) trivial Tryz.f134 hE (by kernel_rfl)
def FI:Con:=⟨[.ro true kD],[⟨true,[.val,.val,.val,(.arr 97 v4)],kD,false⟩]⟩
theorem qR:Has Tryz.prog 112 FI iL:=fp (R:=[]) (tr:=false) (E:=[(166,0,Kt),(134,1,c_au)]) (Φ:=Iv) (t:=t_bp) ⟨Bc,FH,trivial⟩ Tryz.f112 hE (by kernel_rfl)
def c_cm:Con:=⟨[.own true [.val,.val] [.list,kI] false,.ro false [.bool]],[⟨false,[.val],[.list],false⟩]⟩
theorem FJ:Has Tryz.prog 88 c_cm rt:=fp (R:=[]) (tr:=false) (E:=[]) (Φ:=ph []) (t:=t_cm) trivial Tryz.f88 hE (by kernel_rfl)
def DW:Con:=⟨[.ro true kD,.ro false [.bool]],[⟨false,[.val],[.list],false⟩]⟩
theorem nK:Has Tryz.prog 44 DW fx:=fp (R:=[]) (tr:=false) (E:=[(88,0,c_cm),(87,1,c_ej)]) (Φ:=Iw) (t:=t_ca) ⟨FJ,FC,trivial⟩ Tryz.f44 hE (by kernel_rfl)
def c_gd:Con:=⟨[.ro true [.list,kI],.ro true [kI,kI,.list]],[⟨true,[.val,.val],[.list,kI],false⟩,⟨false,[.val],[.bool],false⟩]⟩
theorem FK:Has Tryz.prog 169 c_gd ru:=fp (R:=[]) (tr:=false) (E:=[(163,0,Fx),(113,1,Fw),(166,2,Kt),(206,3,c_ce)]) (Φ:=Ix) (t:=t_gd) ⟨qO,qN,Bc,FF,trivial⟩ Tryz.f169 hE (by kernel_rfl)
def Ku:Con:=⟨[.ptr [.val,.val,.val,(.arr 97 v4)] kD,.ro true [kI,kI,.list]],[⟨false,[.val],[.bool],false⟩]⟩
theorem Bd:Has Tryz.prog 114 Ku io:=fp (R:=[]) (tr:=false) (E:=[(44,0,DW),(168,1,c_dy),(169,2,c_gd)]) (Φ:=Iy) (t:=t_bs) ⟨nK,Fz,FK,trivial⟩ Tryz.f114 hE (by kernel_rfl)
def c_cv:Con:=⟨[.ro true kD,.ro false [.list]],[⟨true,[.val,.val,.val,(.arr 97 v4)],kD,false⟩,⟨false,[.val],[.bool],false⟩]⟩
theorem LC:Has Tryz.prog 67 c_cv xY:=fp (R:=[]) (tr:=false) (E:=[(111,0,DV),(112,1,FI),(44,2,DW),(113,3,Fw),(114,4,Ku)]) (Φ:=Iz) (t:=t_cv) ⟨nJ,qR,nK,qN,Bd,trivial⟩ Tryz.f67 hE (by kernel_rfl)
def c_dg:Con:=⟨[.ro true kD,.ro false [kI]],[⟨true,[.val,.val,.val,(.arr 97 v4)],kD,false⟩,⟨false,[.val],[.bool],false⟩]⟩
theorem LD:Has Tryz.prog 68 c_dg xZ:=fp (R:=[]) (tr:=false) (E:=[(111,0,DV),(90,1,Ht),(112,2,FI),(114,3,Ku)]) (Φ:=IA) (t:=t_dg) ⟨nJ,vx,qR,Bd,trivial⟩ Tryz.f68 hE (by kernel_rfl)
def c_dd:Con:=⟨[.ro true kD,.ro false [kI],.ro false [kI],.ro false [kI]],[⟨false,[.val],[.bool],false⟩]⟩
theorem FL:Has Tryz.prog 115 c_dd rx:=fp (R:=[]) (tr:=false) (E:=[(165,0,Kr)]) (Φ:=IB) (t:=t_dd) ⟨Ba,trivial⟩ Tryz.f115 hE (by kernel_rfl)
def Kv:Con:=⟨[.ro true kD],[⟨false,[.val],[.list],false⟩]⟩
def h_cg:How:=⟨aB [(0,⟨[kI,.list],[(4,(.sl 1000)),(23,(sI 0))],[(1000,.arr 97 v4 (.v 1))],[],1⟩),(2,⟨[kI,.list],[(4,(.sl 1000)),(38,(sI 0))],[(1000,.arr 97 v4 (.v 1))],[2],1⟩)],
 aB [],
 aB []⟩
theorem Be:Has Tryz.prog 69 Kv lj:=fp (R:=[]) (tr:=false) (E:=[(44,0,DW),(115,1,c_dd)]) (Φ:=IC) (t:=t_cg) ⟨nK,FL,trivial⟩ Tryz.f69 h_cg (by kernel_rfl)
def c_cf:Con:=⟨[.ptr [.val,.val,.val,(.arr 97 v4),(.arr 68 v5),(.arr 97 v4)] kW,.ro true kJ],[]⟩
theorem FM:Has Tryz.prog 70 c_cf jT:=fp (R:=[]) (tr:=false) (E:=[]) (Φ:=ph []) (t:=t_cf) trivial Tryz.f70 hE (by kernel_rfl)
theorem LF:Has Tryz.prog 116 (nR 97) rZ:=Ah (ρ:=⟨fun _=>116,fun t=>match t with|22=>40|23=>97|3=>3|4=>4|_=>0,fun x=>x⟩) ⟨pZ,⟨Tryz.f116.name,by kernel_rfl,by kernel_rfl⟩,by kernel_rfl,by kernel_rfl,by kernel_rfl,by kernel_rfl⟩ rfl
def c_aq:Con:=nR 97
def c_bx:Con:=⟨[.ro true kD,.ro false [kI],.ro false [kI],.ro false [.list]],[⟨false,[.val],[.bool],false⟩,⟨false,[.val],[.bool],false⟩]⟩
def h_bx:How:=⟨aB [(0,⟨[.bool,.bool,kI],[(8,(.bool (.v 0))),(9,(.bool (.v 1))),(15,(sI 2))],[],[],0⟩)],
 aB [],
 aB []⟩
theorem LG:Has Tryz.prog 213 c_bx og:=fp (R:=[]) (tr:=false) (E:=[(115,0,c_dd)]) (Φ:=ID) (t:=t_bx) ⟨FL,trivial⟩ Tryz.f213 h_bx (by kernel_rfl)
def c_bo:Con:=⟨[.ptr [.val,.val,.val,(.arr 97 v4)] kD,.ro false [kI]],[]⟩
def h_bo:How:=⟨aB [],
 aB [(9,⟨[.bool],[(82,(.bool (.v 0)))],[],[],0⟩),(7,⟨[.bool],[(71,(.bool (.v 0)))],[],[],0⟩)],
 aB []⟩
theorem LH:Has Tryz.prog 182 c_bo uD:=fp (R:=[]) (tr:=false) (E:=[(44,0,DW),(213,1,c_bx),(205,2,c_ee),(114,3,Ku)]) (Φ:=Gy) (t:=t_bo) ⟨nK,LG,Fy,Bd,trivial⟩ Tryz.f182 h_bo (by kernel_rfl)
def Kw:Con:=⟨[.ptr [.val,.val,.val,(.arr 97 v4)] kD,.ro true kJ],[]⟩
theorem Bf:Has Tryz.prog 136 Kw nk:=fp (R:=[]) (tr:=false) (E:=[(133,0,FD),(164,1,FE),(44,2,DW),(165,3,Kr),(182,4,c_bo)]) (Φ:=IE) (t:=t_cz) ⟨qP,qQ,nK,Ba,LH,trivial⟩ Tryz.f136 hE (by kernel_rfl)
def c_di:Con:=⟨[.ro false [kI]],[⟨true,[.val,(.arr 88 [.val,.val])],[kI,.list],false⟩,⟨false,[.val],[.bool],false⟩]⟩
theorem LI:Has Tryz.prog 140 c_di ya:=fp (R:=[]) (tr:=false) (E:=[(62,0,lR)]) (Φ:=IF) (t:=t_di) ⟨dO,trivial⟩ Tryz.f140 hE (by kernel_rfl)
def c_eg:Con:=⟨[.ro true [kI,kI]],[⟨false,[.val],[.bool],false⟩]⟩
theorem LJ:Has Tryz.prog 235 c_eg yb:=fp (R:=[]) (tr:=false) (E:=[(62,0,lR)]) (Φ:=IG) (t:=t_eg) ⟨dO,trivial⟩ Tryz.f235 hE (by kernel_rfl)
def c_de:Con:=⟨[.ro true [kI,kI]],[⟨false,[.val],[.bool],false⟩]⟩
theorem LK:Has Tryz.prog 234 c_de yc:=fp (R:=[]) (tr:=false) (E:=[(235,0,c_eg)]) (Φ:=IH) (t:=t_de) ⟨LJ,trivial⟩ Tryz.f234 hE (by kernel_rfl)
def c_ah:Con:=⟨[.ro false [.list],.fn 234 []],[⟨false,[.val],[kI],false⟩]⟩
def h_ah:How:=⟨aB [(0,⟨[kI],[(4,(.int .i64 (.n 0))),(8,(sI 0))],[],[],0⟩)],
 aB [],
 aB []⟩
theorem LM:Has Tryz.prog 240 c_ah yd:=fp (R:=[]) (tr:=false) (E:=[(234,0,c_de)]) (Φ:=II) (t:=t_ah) ⟨LK,trivial⟩ Tryz.f240 h_ah (by kernel_rfl)
def c_ad:Con:=⟨[.ro false [.list],.fn 234 []],[⟨false,[.val],[.bool],false⟩]⟩
theorem LN:Has Tryz.prog 236 c_ad yf:=fp (R:=[]) (tr:=false) (E:=[(240,0,c_ah)]) (Φ:=IJ) (t:=t_ad) ⟨LM,trivial⟩ Tryz.f236 hE (by kernel_rfl)
def Kx:Con:=⟨[.ro true [kI,.list]],[⟨false,[.val],[kI],false⟩]⟩
def h_by:How:=⟨aB [(0,⟨[kI,kI],[(3,(sI 0)),(11,(sI 1))],[],[],0⟩)],
 aB [],
 aB []⟩
theorem Bg:Has Tryz.prog 48 Kx np:=fp (R:=[]) (tr:=false) (E:=[]) (Φ:=ph []) (t:=t_by) trivial Tryz.f48 h_by (by kernel_rfl)
def c_fd:Con:=⟨[.ro true [kI,.list]],[⟨false,[.val],[.bool],false⟩]⟩
theorem LO:Has Tryz.prog 219 c_fd yg:=fp (R:=[]) (tr:=false) (E:=[(62,0,lR),(236,1,c_ad),(48,2,Kx)]) (Φ:=IK) (t:=t_fd) ⟨dO,LN,Bg,trivial⟩ Tryz.f219 hE (by kernel_rfl)
def c_dk:Con:=⟨[.ro true [kI,.list],.ro true [kI,kI,.list]],[⟨false,[.val],[.bool],false⟩]⟩
theorem FN:Has Tryz.prog 188 c_dk ry:=fp (R:=[]) (tr:=false) (E:=[(219,0,c_fd),(113,1,Fw),(48,2,Kx)]) (Φ:=IL) (t:=t_dk) ⟨LO,qN,Bg,trivial⟩ Tryz.f188 hE (by kernel_rfl)
def c_at:Con:=⟨[.ro false [.list]],[⟨false,[(.arr 88 [.val,.val])],[.list],false⟩]⟩
theorem LP:Has Tryz.prog 189 c_at yh:=fp (R:=[]) (tr:=false) (E:=[]) (Φ:=ph []) (t:=t_at) trivial Tryz.f189 hE (by kernel_rfl)
def c_eh:Con:=⟨[.ro true [kI,.list],.ro true [kI,kI,.list]],[⟨true,[.val,.val],[kI,.list],false⟩,⟨false,[.val],[.bool],false⟩]⟩
def h_eh:How:=⟨aB [],
 aB [(4,⟨[.list],[(6,(.ptr 1000 0))],[(1000,.cells [(sI 1000),(.sl 1001)]),(1001,.arr 88 [.val,.val] (.v 0))],[],2⟩)],
 aB []⟩
theorem LQ:Has Tryz.prog 141 c_eh yi:=fp (R:=[]) (tr:=false) (E:=[(188,0,c_dk),(189,1,c_at)]) (Φ:=IM) (t:=t_eh) ⟨FN,LP,trivial⟩ Tryz.f141 h_eh (by kernel_rfl)
def c_fl:Con:=⟨[.ro false [kI],.ro false [.list]],[⟨true,[.val,.val],[kI,.list],false⟩,⟨false,[.val],[.bool],false⟩]⟩
def h_fl:How:=⟨aB [(0,⟨[.bool,kI,kI,.list],[(7,(.bool (.v 0))),(8,(sI 1))],[(2,.cells [(sI 2),(.view true (.v 3))])],[],0⟩)],
 aB [],
 aB []⟩
theorem FO:Has Tryz.prog 91 c_fl rz:=fp (R:=[]) (tr:=false) (E:=[(140,0,c_di),(141,1,c_eh)]) (Φ:=IN) (t:=t_fl) ⟨LI,LQ,trivial⟩ Tryz.f91 h_fl (by kernel_rfl)
def FP:Con:=⟨[.ro true kH],[⟨false,[.val],[.bool],false⟩]⟩
theorem qS:Has Tryz.prog 119 FP iM:=fp (R:=[]) (tr:=false) (E:=[(61,0,DU),(163,1,Fx),(91,2,c_fl)]) (Φ:=IP) (t:=t_el) ⟨nH,qO,FO,trivial⟩ Tryz.f119 hE (by kernel_rfl)
def Hu:Con:=⟨[.ro true kH],[⟨true,v5,kH,false⟩]⟩
theorem vy:Has Tryz.prog 120 Hu jU:=fp (R:=[]) (tr:=false) (E:=[(166,0,Kt)]) (Φ:=IQ) (t:=t_bd) ⟨Bc,trivial⟩ Tryz.f120 hE (by kernel_rfl)
def Hv:Con:=⟨[.ro true kH,.ro false [.bool]],[⟨true,[.val,.val],[kI,.list],false⟩]⟩
theorem vz:Has Tryz.prog 47 Hv jo:=fp (R:=[]) (tr:=false) (E:=[(88,0,c_cm),(91,1,c_fl)]) (Φ:=IR) (t:=t_bk) ⟨FJ,FO,trivial⟩ Tryz.f47 hE (by kernel_rfl)
def c_ax:Con:=⟨[.ro true kH,.ro true kJ],[⟨false,[.val],[kI],false⟩]⟩
def h_ax:How:=⟨aB [],
 aB [(5,⟨[.bool],[(33,(.bool (.v 0)))],[],[],0⟩),(3,⟨[.bool],[(25,(.bool (.v 0)))],[],[],0⟩)],
 aB []⟩
theorem LR:Has Tryz.prog 207 c_ax yj:=fp (R:=[]) (tr:=false) (E:=[(47,0,Hv)]) (Φ:=IS) (t:=t_ax) ⟨vz,trivial⟩ Tryz.f207 h_ax (by kernel_rfl)
def c_cx:Con:=⟨[.ro true kH,.ro true kJ],[⟨true,v5,kH,false⟩,⟨true,v4,kJ,false⟩,⟨false,[.val],[.bool],false⟩]⟩
def h_cx:How:=⟨aB [],
 aB [(9,⟨[.list],[],[(5,.cells [(sI 1005),(sI 1007),(.sl 1000)]),(1000,.arr 3 [.val] (.v 0))],[],1⟩)],
 aB []⟩
theorem FQ:Has Tryz.prog 170 c_cx rA:=fp (R:=[]) (tr:=false) (E:=[(119,0,FP),(120,1,Hu),(133,2,FD),(164,3,FE),(47,4,Hv),(188,5,c_dk),(169,6,c_gd),(207,7,c_ax)]) (Φ:=IT) (t:=t_cx) ⟨qS,vy,qP,qQ,vz,FN,FK,LR,trivial⟩ Tryz.f170 h_cx (by kernel_rfl)
def c_bh:Con:=⟨[.ptr [.val,.val,.val,(.arr 97 v4),(.arr 68 v5),(.arr 97 v4)] kW,.ro true kJ],[⟨true,v4,kJ,false⟩,⟨false,[.val],[.bool],false⟩]⟩
theorem LS:Has Tryz.prog 117 c_bh uF:=fp (R:=[]) (tr:=false) (E:=[(164,0,FE),(136,1,Kw),(170,2,c_cx)]) (Φ:=IU) (t:=t_bh) ⟨qQ,Bf,FQ,trivial⟩ Tryz.f117 hE (by kernel_rfl)
def c_ck:Con:=⟨[.ptr [.val,.val,.val,(.arr 97 v4),(.arr 68 v5),(.arr 97 v4)] kW,.ro true [kI,kI,kI,.list]],[]⟩
def h_ck:How:=⟨aB [],
 aB [(3,⟨kJ,[(4,(.ptr 1000 0))],[(1000,.cells [(sI 0),(sI 1),(sI 2),(sI 3)])],[],1⟩)],
 aB []⟩
theorem LU:Has Tryz.prog 71 c_ck yk:=fp (R:=[]) (tr:=false) (E:=[(62,0,lR),(70,1,c_cf),(116,2,c_aq),(117,3,c_bh)]) (Φ:=IV) (t:=t_ck) ⟨dO,FM,LF,LS,trivial⟩ Tryz.f71 h_ck (by kernel_rfl)
def c_ea:Con:=⟨[.ro true [.list,kI]],[⟨true,[.val,.val],[.list,kI],false⟩]⟩
theorem FR:Has Tryz.prog 118 c_ea rB:=fp (R:=[]) (tr:=false) (E:=[(163,0,Fx),(171,1,Ks)]) (Φ:=IW) (t:=t_ea) ⟨qO,Bb,trivial⟩ Tryz.f118 hE (by kernel_rfl)
def c_cn:Con:=⟨[.ro true kD],[⟨true,[.val,.val,.val,(.arr 97 v4)],kD,false⟩]⟩
theorem LV:Has Tryz.prog 73 c_cn yl:=fp (R:=[]) (tr:=false) (E:=[(111,0,DV),(112,1,FI),(118,2,c_ea)]) (Φ:=IX) (t:=t_cn) ⟨nJ,qR,FR,trivial⟩ Tryz.f73 hE (by kernel_rfl)
def c_bv:Con:=⟨[.ro true kH],[⟨true,v5,kH,false⟩]⟩
theorem LW:Has Tryz.prog 74 c_bv ym:=fp (R:=[]) (tr:=false) (E:=[(119,0,FP),(120,1,Hu),(118,2,c_ea)]) (Φ:=IY) (t:=t_bv) ⟨qS,vy,FR,trivial⟩ Tryz.f74 hE (by kernel_rfl)
def c_ab:Con:=⟨[.ptr [.val,.val,.val,(.arr 97 v4),(.arr 68 v5),(.arr 97 v4)] kW,.ro false [kI],.fn 73 [],.fn 74 []],[]⟩
theorem FS:Has Tryz.prog 72 c_ab rC:=fp (R:=[]) (tr:=false) (E:=[(61,0,DU),(73,1,c_cn),(74,2,c_bv)]) (Φ:=IZ) (t:=t_ab) ⟨nH,LV,LW,trivial⟩ Tryz.f72 hE (by kernel_rfl)
def c_ex:Con:=⟨[.ro true [.list,kI],.ro false [kI]],[⟨true,[.val,.val],[.list,kI],false⟩]⟩
theorem FT:Has Tryz.prog 121 c_ex rD:=fp (R:=[]) (tr:=false) (E:=[(163,0,Fx),(171,1,Ks)]) (Φ:=Jb) (t:=t_ex) ⟨qO,Bb,trivial⟩ Tryz.f121 hE (by kernel_rfl)
def c_dz:Con:=⟨[.ro true kD,.ro false [kI]],[⟨true,[.val,.val,.val,(.arr 97 v4)],kD,false⟩]⟩
theorem LX:Has Tryz.prog 76 c_dz yn:=fp (R:=[]) (tr:=false) (E:=[(111,0,DV),(121,1,c_ex)]) (Φ:=Jc) (t:=t_dz) ⟨nJ,FT,trivial⟩ Tryz.f76 hE (by kernel_rfl)
def c_bq:Con:=⟨[.ro true kD,.rptr [kI,kI,kI,.list]],[⟨true,[.val,.val,.val,(.arr 97 v4)],kD,false⟩]⟩
theorem LY:Has Tryz.prog 75 c_bq yo:=fp (R:=[]) (tr:=false) (E:=[(76,0,c_dz)]) (Φ:=Jd) (t:=t_bq) ⟨LX,trivial⟩ Tryz.f75 hE (by kernel_rfl)
def c_co:Con:=⟨[.ro true kH,.ro false [kI]],[⟨true,v5,kH,false⟩]⟩
theorem LZ:Has Tryz.prog 78 c_co yp:=fp (R:=[]) (tr:=false) (E:=[(119,0,FP),(121,1,c_ex)]) (Φ:=Je) (t:=t_co) ⟨qS,FT,trivial⟩ Tryz.f78 hE (by kernel_rfl)
def c_bz:Con:=⟨[.ro true kH,.rptr [kI,kI,kI,.list]],[⟨true,v5,kH,false⟩]⟩
theorem Ma:Has Tryz.prog 77 c_bz yq:=fp (R:=[]) (tr:=false) (E:=[(78,0,c_co)]) (Φ:=Jf) (t:=t_bz) ⟨LZ,trivial⟩ Tryz.f77 hE (by kernel_rfl)
def c_aa:Con:=⟨[.ptr [.val,.val,.val,(.arr 97 v4),(.arr 68 v5),(.arr 97 v4)] kW,.ro false [kI],.fn 75 [[kI,kI,kI,.list]],.fn 77 [[kI,kI,kI,.list]]],[]⟩
theorem Mb:Has Tryz.prog 72 c_aa yr:=fp (R:=[]) (tr:=false) (E:=[(61,0,DU),(75,1,c_bq),(77,2,c_bz)]) (Φ:=Jg) (t:=t_aa) ⟨nH,LY,Ma,trivial⟩ Tryz.f72 hE (by kernel_rfl)
def c_eb:Con:=⟨[.ro true kD],[⟨true,[.val,.val,.val,(.arr 97 v4)],kD,false⟩]⟩
theorem Mc:Has Tryz.prog 79 c_eb yt:=fp (R:=[]) (tr:=false) (E:=[(111,0,DV),(112,1,FI)]) (Φ:=Ji) (t:=t_eb) ⟨nJ,qR,trivial⟩ Tryz.f79 hE (by kernel_rfl)
def c_cs:Con:=⟨[.ro true kH],[⟨true,v5,kH,false⟩]⟩
theorem Md:Has Tryz.prog 80 c_cs yu:=fp (R:=[]) (tr:=false) (E:=[(119,0,FP),(120,1,Hu)]) (Φ:=Jj) (t:=t_cs) ⟨qS,vy,trivial⟩ Tryz.f80 hE (by kernel_rfl)
def c_ae:Con:=⟨[.ptr [.val,.val,.val,(.arr 97 v4),(.arr 68 v5),(.arr 97 v4)] kW,.ro false [kI],.fn 79 [],.fn 80 []],[]⟩
theorem FU:Has Tryz.prog 72 c_ae rE:=fp (R:=[]) (tr:=false) (E:=[(61,0,DU),(79,1,c_eb),(80,2,c_cs)]) (Φ:=Jk) (t:=t_ae) ⟨nH,Mc,Md,trivial⟩ Tryz.f72 hE (by kernel_rfl)
def c_dq:Con:=⟨[.ptr [.val,.val,.val,(.arr 97 v4),(.arr 68 v5),(.arr 97 v4)] kW,.ro true [kI,kI,kI,.list]],[]⟩
def h_dq:How:=⟨aB [],
 aB [(17,⟨[.bool],[(65,(.bool (.v 0)))],[],[],0⟩)],
 aB []⟩
theorem Me:Has Tryz.prog 40 c_dq nq:=fp (R:=[]) (tr:=false) (E:=[(67,0,c_cv),(68,1,c_dg),(69,2,Kv),(62,3,lR),(70,4,c_cf),(71,5,c_ck),(72,6,c_ab),(72,7,c_aa),(72,8,c_ae)]) (Φ:=Jm) (t:=t_dq) ⟨LC,LD,Be,dO,FM,LU,FS,Mb,FU,trivial⟩ Tryz.f40 h_dq (by kernel_rfl)
def c_cw:Con:=⟨[.ro true kJ],[⟨false,[.val],[.bool],false⟩]⟩
theorem Mf:Has Tryz.prog 132 c_cw yv:=fp (R:=[]) (tr:=false) (E:=[(133,0,FD)]) (Φ:=Jn) (t:=t_cw) ⟨qP,trivial⟩ Tryz.f132 hE (by kernel_rfl)
def c_aj:Con:=⟨[.ro false [.list],.fn 132 []],[⟨false,[.val],[kI],false⟩]⟩
def h_aj:How:=⟨aB [(0,⟨[kI],[(4,(.int .i64 (.n 0))),(8,(sI 0))],[],[],0⟩)],
 aB [],
 aB []⟩
theorem Mg:Has Tryz.prog 180 c_aj yw:=fp (R:=[]) (tr:=false) (E:=[(132,0,c_cw)]) (Φ:=Jo) (t:=t_aj) ⟨Mf,trivial⟩ Tryz.f180 h_aj (by kernel_rfl)
def c_ac:Con:=⟨[.ro false [.list],.fn 132 []],[⟨false,[.val],[.bool],false⟩]⟩
theorem Mh:Has Tryz.prog 131 c_ac yx:=fp (R:=[]) (tr:=false) (E:=[(180,0,c_aj)]) (Φ:=Jp) (t:=t_ac) ⟨Mg,trivial⟩ Tryz.f131 hE (by kernel_rfl)
def c_fc:Con:=⟨[.ro true kW],[⟨false,[.val],[.bool],false⟩]⟩
def h_fc:How:=⟨aB [(0,⟨[kI],[(2,(.bool (.b false))),(24,(sI 0))],[],[],0⟩)],
 aB [],
 aB []⟩
theorem FV:Has Tryz.prog 83 c_fc rF:=fp (R:=[]) (tr:=false) (E:=[(111,0,DV),(119,1,FP),(131,2,c_ac)]) (Φ:=Jq) (t:=t_fc) ⟨nJ,qS,Mh,trivial⟩ Tryz.f83 h_fc (by kernel_rfl)
def c_ba:Con:=⟨[.ro true kW],[⟨true,[.val,.val,.val,(.arr 97 v4),(.arr 68 v5),(.arr 97 v4)],kW,false⟩]⟩
def h_ba:How:=⟨aB [(0,⟨[kI,.list],[(16,(sI 0))],[(2,.cells [(.bool (.v 1006)),(.view true (.v 1007)),(sI 1008),(.sl 3),(.sl 1000),(.sl 4)]),(1000,.arr 68 v5 (.v 1))],[],1⟩)],
 aB [(2,⟨[.bool,.list,kI,.list,.list],[(3,(.ptr 1000 0))],[(1000,.cells [(.bool (.v 0)),(.view true (.v 1)),(sI 2),(.sl 1001),.nil,(.sl 1002)]),(1001,.arr 97 v4 (.v 3)),(1002,.arr 97 v4 (.v 4))],[],3⟩)],
 aB []⟩
theorem Mi:Has Tryz.prog 84 c_ba yy:=fp (R:=[]) (tr:=false) (E:=[(112,0,FI),(134,1,c_au),(120,2,Hu)]) (Φ:=Jr) (t:=t_ba) ⟨qR,FH,vy,trivial⟩ Tryz.f84 h_ba (by kernel_rfl)
theorem Mj:Has Tryz.prog 181 (gB 97) pL:=Fa (ρ:=⟨fun _=>181,fun t=>match t with|22=>40|25=>97|3=>3|4=>4|9=>9|20=>20|_=>0,fun x=>x⟩) ⟨pZ,⟨Tryz.f181.name,by kernel_rfl,by kernel_rfl⟩,by kernel_rfl,by kernel_rfl,by kernel_rfl,by kernel_rfl⟩ rfl
def c_av:Con:=gB 97
def c_ar:Con:=⟨[.ro false [.list]],[⟨false,[(.arr 97 v4)],[.list],false⟩]⟩
def h_ar:How:=⟨aB [(2,⟨[kI,.list],[(6,(.sl 1000)),(27,(sI 0))],[(1000,.arr 97 v4 (.v 1))],[0],1⟩),(0,⟨[kI,kI],[(3,(sI 0)),(11,(sI 1))],[],[],0⟩)],
 aB [],
 aB []⟩
theorem Mk:Has Tryz.prog 135 c_ar yz:=fp (R:=[]) (tr:=false) (E:=[(181,0,c_av)]) (Φ:=Js) (t:=t_ar) ⟨Mj,trivial⟩ Tryz.f135 h_ar (by kernel_rfl)
def c_az:Con:=⟨[.ptr [.val,.val,.val,(.arr 97 v4),(.arr 68 v5),.val] kW,.ro true kJ],[⟨true,v4,kJ,false⟩,⟨false,[.val],[.bool],false⟩]⟩
theorem Ml:Has Tryz.prog 117 c_az yA:=fp (R:=[]) (tr:=false) (E:=[(164,0,FE),(136,1,Kw),(170,2,c_cx)]) (Φ:=Jt) (t:=t_az) ⟨qQ,Bf,FQ,trivial⟩ Tryz.f117 hE (by kernel_rfl)
def c_bw:Con:=⟨[.ptr [.val,.val,.val,(.arr 97 v4),(.arr 68 v5),(.arr 97 v4)] kW],[]⟩
def h_bw:How:=⟨aB [(4,⟨[kI,.bool,.list,kI,.list,.list,.list],[(49,(sI 0))],[(0,.cells [(.bool (.v 1)),(.view true (.v 2)),(sI 3),(.sl 1000),(.sl 1001),(.sl 1002)]),(1000,.arr 97 v4 (.v 4)),(1001,.arr 68 v5 (.v 5)),(1002,.arr 97 v4 (.v 6))],[9,10],3⟩),(2,⟨[kI,.bool,.list,kI,.list,.list,.list],[(29,(sI 0))],[(0,.cells [(.bool (.v 1)),(.view true (.v 2)),(sI 3),(.sl 1000),(.sl 1001),(.view true (.v 4))]),(1000,.arr 97 v4 (.v 5)),(1001,.arr 68 v5 (.v 6))],[4,5],2⟩),(0,⟨[kI,.bool,.list,kI,.list,.list,.list],[(9,(sI 0))],[(0,.cells [(.bool (.v 1)),(.view true (.v 2)),(sI 3),(.sl 1000),(.sl 1001),(.sl 1002)]),(1000,.arr 97 v4 (.v 4)),(1001,.arr 68 v5 (.v 5)),(1002,.arr 97 v4 (.v 6))],[1,2,3],3⟩)],
 aB [],
 aB []⟩
theorem Mm:Has Tryz.prog 85 c_bw yB:=fp (R:=[]) (tr:=false) (E:=[(72,0,c_ab),(72,1,c_ae),(69,2,Kv),(135,3,c_ar),(117,4,c_az),(136,5,Kw)]) (Φ:=Ju) (t:=t_bw) ⟨FS,FU,Be,Mk,Ml,Bf,trivial⟩ Tryz.f85 h_bw (by kernel_rfl)
def c_da:Con:=⟨[.ro true kW,.ro false [kI]],[⟨true,[.val,.val,.val,(.arr 97 v4),(.arr 68 v5),(.arr 97 v4)],kW,false⟩]⟩
def h_da:How:=⟨aB [(0,⟨[kI,.bool,.list,kI,.list,.list,.list],[(18,(sI 0))],[(5,.cells [(.bool (.v 1)),(.view true (.v 2)),(sI 3),(.sl 1000),(.sl 1001),(.sl 1002)]),(1000,.arr 97 v4 (.v 4)),(1001,.arr 68 v5 (.v 5)),(1002,.arr 97 v4 (.v 6))],[2,3,4],3⟩)],
 aB [],
 aB []⟩
theorem Mn:Has Tryz.prog 42 c_da uK:=fp (R:=[]) (tr:=false) (E:=[(83,0,c_fc),(62,1,lR),(84,2,c_ba),(85,3,c_bw)]) (Φ:=Jv) (t:=t_da) ⟨FV,dO,Mi,Mm,trivial⟩ Tryz.f42 h_da (by kernel_rfl)
def Ky:Con:=l6
theorem Bh:Has Tryz.prog 45 Ky jD:=E7 EE
def c_bt:Con:=⟨[.ro true kW,.ro false [kI]],[⟨false,[.val],[.list],false⟩]⟩
def h_bt:How:=⟨aB [(0,⟨[kI,.list],[(5,(.sl 1000)),(19,(sI 0))],[(1000,.arr 88 [.val,.val] (.v 1))],[],1⟩)],
 aB [],
 aB []⟩
theorem Mo:Has Tryz.prog 46 c_bt yC:=fp (R:=[]) (tr:=false) (E:=[(83,0,c_fc),(90,1,Ht),(47,2,Hv)]) (Φ:=Jw) (t:=t_bt) ⟨FV,vx,vz,trivial⟩ Tryz.f46 h_bt (by kernel_rfl)
def c_fn:Con:=⟨[.ro false [.str],.ro false [.list]],[⟨false,[.val],[.str],false⟩]⟩
def h_fn:How:=⟨aB [(0,⟨[kI,.str],[(12,(sI 0))],[(0,.bld 50 5 (.v 1))],[],0⟩)],
 aB [],
 aB []⟩
theorem FW:Has Tryz.prog 49 c_fn jp:=fp (R:=[]) (tr:=false) (E:=[(45,0,Ky)]) (Φ:=Jx) (t:=t_fn) ⟨Bh,trivial⟩ Tryz.f49 h_fn (by kernel_rfl)
def c_cq:Con:=⟨[.ro true kW],[⟨false,[.val],[.str],false⟩]⟩
def h_cq:How:=⟨aB [(4,⟨[kI,.list],[(10,(.sl 1000)),(57,(sI 0))],[(1000,.arr 3 [.val] (.v 1))],[],1⟩),(0,⟨[kI,.str],[(19,(sI 0))],[(3,.bld 50 5 (.v 1))],[],0⟩),(2,⟨[kI,.str],[(40,(sI 0))],[(3,.bld 50 5 (.v 1))],[],0⟩)],
 aB [(8,⟨[.str],[],[(3,.bld 50 5 (.v 0))],[],0⟩)],
 aB []⟩
theorem FX:Has Tryz.prog 29 c_cq rG:=fp (R:=[]) (tr:=false) (E:=[(44,0,DW),(45,1,Ky),(46,2,c_bt),(47,3,Hv),(48,4,Kx),(49,5,c_fn)]) (Φ:=Jy) (t:=t_cq) ⟨nK,Bh,Mo,vz,Bg,FW,trivial⟩ Tryz.f29 h_cq (by kernel_rfl)
def c_cu:Con:=⟨[],[⟨false,[.val],[.list],false⟩]⟩
theorem Mp:Has Tryz.prog 137 c_cu oh:=fp (R:=[]) (tr:=false) (E:=[]) (Φ:=ph []) (t:=t_cu) trivial Tryz.f137 hE (by kernel_rfl)
def c_ec:Con:=⟨[.ro true kJ],[⟨false,[.val],[.str],false⟩]⟩
theorem Mq:Has Tryz.prog 86 c_ec yD:=fp (R:=[]) (tr:=false) (E:=[(133,0,FD),(137,1,c_cu),(49,2,c_fn)]) (Φ:=Jz) (t:=t_ec) ⟨qP,Mp,FW,trivial⟩ Tryz.f86 hE (by kernel_rfl)
def c_br:Con:=⟨[.ro true kW],[⟨false,[.val],[.str],false⟩]⟩
def h_br:How:=⟨aB [(0,⟨[kI,.str],[(12,(sI 0))],[(1,.bld 50 5 (.v 1))],[],0⟩)],
 aB [],
 aB []⟩
theorem Mr:Has Tryz.prog 43 c_br yE:=fp (R:=[]) (tr:=false) (E:=[(69,0,Kv),(86,1,c_ec),(45,2,Ky)]) (Φ:=JA) (t:=t_br) ⟨Be,Mq,Bh,trivial⟩ Tryz.f43 h_br (by kernel_rfl)
def c_ch:Con:=⟨[.ptr [.val,.val,.val,(.arr 97 v4),(.arr 68 v5),(.arr 97 v4)] kW,.ro false [.list]],[⟨false,[.val],[.str],false⟩]⟩
theorem Ms:Has Tryz.prog 27 c_ch uP:=fp (R:=[]) (tr:=false) (E:=[(41,0,c_gc),(40,1,c_dq),(42,2,c_da),(29,3,c_cq),(43,4,c_br)]) (Φ:=JB) (t:=t_ch) ⟨Lm,Me,Mn,FX,Mr,trivial⟩ Tryz.f27 hE (by kernel_rfl)
def sP:Con:=⟨[.ro false [.list],.ro false [.str]],[⟨false,[.val],[.str],false⟩]⟩
def h_dh:How:=⟨aB [(1,⟨[kI,.str,.bool,.list,kI,.list,.list,.list],[(31,(sI 0))],[(4,.bld 50 5 (.v 1)),(3,.cells [(.bool (.v 2)),(.view true (.v 3)),(sI 4),(.sl 1000),(.sl 1001),(.sl 1002)]),(1000,.arr 97 v4 (.v 5)),(1001,.arr 68 v5 (.v 6)),(1002,.arr 97 v4 (.v 7))],[0,1,2],3⟩)],
 aB [],
 aB []⟩
theorem gv:Has Tryz.prog 15 sP bD:=fp (R:=[]) (tr:=false) (E:=[(24,0,c_du),(25,1,c_ds),(27,2,c_ch),(29,3,c_cq)]) (Φ:=JC) (t:=t_dh) ⟨Lk,Ll,Ms,FX,trivial⟩ Tryz.f15 h_dh (by kernel_rfl)
def c_ew:Con:=⟨[],[⟨true,[.val,(.arr 138 v3),.val,(.arr 97 v4)],kD,false⟩]⟩
theorem Mt:Has Tryz.prog 50 c_ew yF:=fp (R:=aV) (tr:=false) (E:=[]) (Φ:=ph []) (t:=t_ew) trivial Tryz.f50 hE (by kernel_rfl)
def nU:Con:=⟨[.ro false [kI],.ro false [kI],.ro false [kI]],[⟨false,[.val],[.bool],false⟩]⟩
theorem eK:Has Tryz.prog 93 nU b8:=fp (R:=aV) (tr:=false) (E:=[]) (Φ:=ph []) (t:=t_gx) trivial Tryz.f93 hE (by kernel_rfl)
def c_dr:Con:=⟨[.ro false [kI]],[⟨true,[.val,(.arr 88 [.val,.val])],[kI,.list],false⟩,⟨false,[.val],[.bool],false⟩]⟩
theorem FY:Has Tryz.prog 92 c_dr rH:=fp (R:=aV) (tr:=false) (E:=[(93,0,nU)]) (Φ:=JD) (t:=t_dr) ⟨eK,trivial⟩ Tryz.f92 hE (by kernel_rfl)
def c_dp:Con:=⟨[.ro false [kI],.ro false [kI]],[⟨true,[.val,.val,.val,(.arr 138 v3),.val],kH,false⟩,⟨false,[.val],[.bool],false⟩]⟩
theorem Mu:Has Tryz.prog 51 c_dp yG:=fp (R:=aV) (tr:=false) (E:=[(92,0,c_dr),(93,1,nU)]) (Φ:=JE) (t:=t_dp) ⟨FY,eK,trivial⟩ Tryz.f51 hE (by kernel_rfl)
def c_dm:Con:=⟨[.ro false [.list]],[⟨true,[.val,(.arr 138 v3),.val,(.arr 97 v4),(.arr 68 [.val,.val,.val,(.arr 138 v3),.val]),(.arr 97 v4)],kW,false⟩,⟨false,[.val],[.bool],false⟩]⟩
def h_dm:How:=⟨aB [(0,⟨[kI,.list],[(3,(.bool (.b false))),(5,(sI 0))],[(4,.cells [(.bool (.v 1001)),(.sl 1),(sI 1003),(.sl 2),(.sl 1000),(.sl 3)]),(1000,.arr 68 [.val,.val,.val,(.arr 138 v3),.val] (.v 1))],[],1⟩)],
 aB [],
 aB []⟩
theorem Mv:Has Tryz.prog 30 c_dm yH:=fp (R:=aV) (tr:=false) (E:=[(50,0,c_ew),(51,1,c_dp)]) (Φ:=JF) (t:=t_dm) ⟨Mt,Mu,trivial⟩ Tryz.f30 h_dm (by kernel_rfl)
def c_gl:Con:=⟨[.ro false [.str],.ro false [(.int .u8)]],[⟨false,[(.arr 9 [.val])],[.list],false⟩]⟩
def h_gl:How:=⟨aB [(0,⟨[kI,.list],[(5,(.sl 1000)),(6,(sI 0))],[(1000,.arr 9 [.val] (.v 1))],[0],1⟩)],
 aB [],
 aB []⟩
theorem FZ:Has Tryz.prog 31 c_gl nr:=fp (R:=aV) (tr:=false) (E:=[]) (Φ:=ph []) (t:=t_gl) trivial Tryz.f31 h_gl (by kernel_rfl)
def c_gv:Con:=⟨[.ro false [.str]],[⟨false,[.val],[kI],false⟩]⟩
def h_gv:How:=⟨aB [(0,⟨[kI,kI],[(2,(.int .i64 (.n 0))),(3,(sI 0)),(4,(sI 1))],[],[],0⟩)],
 aB [],
 aB []⟩
theorem Mw:Has Tryz.prog 94 c_gv yI:=fp (R:=aV) (tr:=false) (E:=[(93,0,nU)]) (Φ:=JG) (t:=t_gv) ⟨eK,trivial⟩ Tryz.f94 h_gv (by kernel_rfl)
def c_gu:Con:=⟨[.ro false [.list],.ro false [kI]],[⟨false,[.val],[kI],false⟩]⟩
theorem Mx:Has Tryz.prog 52 c_gu jq:=fp (R:=aV) (tr:=false) (E:=[(94,0,c_gv)]) (Φ:=JH) (t:=t_gu) ⟨Mw,trivial⟩ Tryz.f52 hE (by kernel_rfl)
def c_gj:Con:=⟨[.ro false [.list]],[⟨false,[.val],[.bool],false⟩]⟩
def h_gj:How:=⟨aB [(0,⟨[kI,kI],[(2,(.bool (.b false))),(3,(sI 0)),(4,(sI 1))],[],[],0⟩)],
 aB [],
 aB []⟩
theorem My:Has Tryz.prog 194 c_gj yJ:=fp (R:=aV) (tr:=false) (E:=[(93,0,nU)]) (Φ:=JI) (t:=t_gj) ⟨eK,trivial⟩ Tryz.f194 h_gj (by kernel_rfl)
def Hw:Con:=⟨[.ro true [kI,kI,.list]],[⟨false,[.val],[.bool],false⟩]⟩
theorem vA:Has Tryz.prog 148 Hw jV:=fp (R:=aV) (tr:=false) (E:=[(93,0,nU),(194,1,c_gj)]) (Φ:=JJ) (t:=t_gk) ⟨eK,My,trivial⟩ Tryz.f148 hE (by kernel_rfl)
def c_fw:Con:=⟨[.ro false [.list],.ro true [kI,kI,.list]],[⟨false,[.val],[.bool],false⟩]⟩
theorem F0:Has Tryz.prog 154 c_fw rI:=fp (R:=aV) (tr:=false) (E:=[]) (Φ:=ph []) (t:=t_fw) trivial Tryz.f154 hE (by kernel_rfl)
def kT:Con:=⟨[.own false [(.arr 84 [.val,.val])] [.list] false,.ro true [kI,kI,.list]],[⟨false,[(.arr 84 [.val,.val])],[.list],false⟩]⟩
theorem nZ:Has Tryz.prog 155 kT dC:=fp (R:=aV) (tr:=false) (E:=[]) (Φ:=ph []) (t:=kN) trivial Tryz.f155 hE (by kernel_rfl)
def c_gs:Con:=⟨[.ro false [.list]],[⟨false,[.val],[.list],false⟩,⟨false,[.val],[.bool],false⟩]⟩
def h_gs:How:=⟨aB [(0,⟨[kI,.list],[(2,.nil),(3,(.bool (.b false))),(4,(.sl 1000)),(5,(sI 0))],[(1000,.arr 84 [.val,.val] (.v 1))],[0],1⟩)],
 aB [],
 aB []⟩
theorem F1:Has Tryz.prog 104 c_gs nt:=fp (R:=aV) (tr:=false) (E:=[(148,0,Hw),(154,1,c_fw),(155,2,kT)]) (Φ:=JK) (t:=t_gs) ⟨vA,F0,nZ,trivial⟩ Tryz.f104 h_gs (by kernel_rfl)
def c_gn:Con:=⟨[.ro true [.list,kI]],[⟨false,[.val],[.bool],false⟩]⟩
def h_gn:How:=⟨aB [(0,⟨[kI],[(2,(.bool (.b false))),(3,(sI 0))],[],[],0⟩)],
 aB [],
 aB []⟩
theorem F2:Has Tryz.prog 190 c_gn rJ:=fp (R:=aV) (tr:=false) (E:=[(148,0,Hw),(93,1,nU)]) (Φ:=JL) (t:=t_gn) ⟨vA,eK,trivial⟩ Tryz.f190 h_gn (by kernel_rfl)
def F3:Con:=⟨[.ro true kJ],[⟨false,[.val],[.bool],false⟩]⟩
theorem qT:Has Tryz.prog 99 F3 iN:=fp (R:=aV) (tr:=false) (E:=[(93,0,nU)]) (Φ:=JM) (t:=t_fz) ⟨eK,trivial⟩ Tryz.f99 hE (by kernel_rfl)
def F4:Con:=⟨[.ro false [.list],.ro true kJ],[⟨false,[.val],[.bool],false⟩]⟩
def h_ei:How:=⟨aB [(0,⟨[kI],[(4,(.bool (.b false))),(5,(sI 0))],[],[],0⟩)],
 aB [],
 aB []⟩
theorem qU:Has Tryz.prog 98 F4 iO:=fp (R:=aV) (tr:=false) (E:=[]) (Φ:=ph []) (t:=t_ei) trivial Tryz.f98 h_ei (by kernel_rfl)
def c_fq:Con:=⟨[.ro true kD],[⟨false,[.val],[.bool],false⟩]⟩
def h_fq:How:=⟨aB [(0,⟨[kI],[(2,(.bool (.b false))),(5,(sI 0))],[],[],0⟩)],
 aB [],
 aB []⟩
theorem Mz:Has Tryz.prog 142 c_fq yK:=fp (R:=aV) (tr:=false) (E:=[(104,0,c_gs),(190,1,c_gn),(99,2,F3),(98,3,F4)]) (Φ:=JN) (t:=t_fq) ⟨F1,F2,qT,qU,trivial⟩ Tryz.f142 h_fq (by kernel_rfl)
def c_ft:Con:=⟨[.ro true [kI,.list]],[⟨false,[.val],[kI],false⟩]⟩
def h_ft:How:=⟨aB [(0,⟨[kI,kI],[(3,(sI 0)),(4,(sI 1))],[],[],0⟩)],
 aB [],
 aB []⟩
theorem F5:Has Tryz.prog 59 c_ft rK:=fp (R:=aV) (tr:=false) (E:=[]) (Φ:=ph []) (t:=t_ft) trivial Tryz.f59 h_ft (by kernel_rfl)
def c_gt:Con:=⟨[.ro true [kI,.list],.ro true [kI,kI,.list]],[⟨false,[.val],[.bool],false⟩]⟩
theorem F6:Has Tryz.prog 156 c_gt rL:=fp (R:=aV) (tr:=false) (E:=[(59,0,c_ft)]) (Φ:=JO) (t:=t_gt) ⟨F5,trivial⟩ Tryz.f156 hE (by kernel_rfl)
def mR:Con:=⟨[.own true [.val,(.arr 88 [.val,.val])] [kI,.list] false,.ro true [kI,kI,.list]],[⟨true,[.val,(.arr 88 [.val,.val])],[kI,.list],false⟩]⟩
theorem qV:Has Tryz.prog 157 mR dW:=fp (R:=aV) (tr:=false) (E:=[]) (Φ:=ph []) (t:=mG) trivial Tryz.f157 hE (by kernel_rfl)
def c_gw:Con:=⟨[.ro false [kI],.ro false [.list]],[⟨true,[.val,.val],[kI,.list],false⟩,⟨false,[.val],[.bool],false⟩]⟩
def h_gw:How:=⟨aB [(0,⟨[kI,kI,.list],[(5,(.bool (.b false))),(8,(sI 0))],[(2,.cells [(sI 1),(.sl 1000)]),(1000,.arr 88 [.val,.val] (.v 2))],[1],1⟩)],
 aB [],
 aB []⟩
theorem F7:Has Tryz.prog 106 c_gw nu:=fp (R:=aV) (tr:=false) (E:=[(92,0,c_dr),(148,1,Hw),(156,2,c_gt),(157,3,mR)]) (Φ:=JP) (t:=t_gw) ⟨FY,vA,F6,qV,trivial⟩ Tryz.f106 h_gw (by kernel_rfl)
def c_eq:Con:=⟨[.ro true kH],[⟨false,[.val],[.bool],false⟩]⟩
theorem MA:Has Tryz.prog 143 c_eq yL:=fp (R:=aV) (tr:=false) (E:=[(106,0,c_gw),(93,1,nU),(190,2,c_gn)]) (Φ:=JQ) (t:=t_eq) ⟨F7,eK,F2,trivial⟩ Tryz.f143 hE (by kernel_rfl)
def c_es:Con:=⟨[.ro true kW],[⟨false,[.val],[.bool],false⟩]⟩
def h_es:How:=⟨aB [(2,⟨[kI],[(2,(.bool (.b false))),(4,(sI 0))],[],[],0⟩),(0,⟨[kI],[(2,(.bool (.b false))),(3,(sI 0))],[],[],0⟩)],
 aB [],
 aB []⟩
theorem F8:Has Tryz.prog 95 c_es ol:=fp (R:=aV) (tr:=false) (E:=[(142,0,c_fq),(143,1,c_eq),(99,2,F3)]) (Φ:=JR) (t:=t_es) ⟨Mz,MA,qT,trivial⟩ Tryz.f95 h_es (by kernel_rfl)
def c_dc:Con:=⟨[.ro true [kI,kI,.list]],[⟨true,v3,[kI,kI,.list],false⟩]⟩
theorem MB:Has Tryz.prog 220 c_dc yM:=fp (R:=aV) (tr:=false) (E:=[]) (Φ:=ph []) (t:=t_dc) trivial Tryz.f220 hE (by kernel_rfl)
def c_fp:Con:=⟨[.ro true [.list,kI]],[⟨true,[(.arr 138 v3),.val],[.list,kI],false⟩]⟩
def h_fp:How:=⟨aB [(0,⟨[kI,.list],[(4,(sI 0))],[(3,.cells [(.sl 1000),(sI 1001)]),(1000,.arr 138 v3 (.v 1))],[2],1⟩)],
 aB [],
 aB []⟩
theorem F9:Has Tryz.prog 191 c_fp rM:=fp (R:=aV) (tr:=false) (E:=[(220,0,c_dc)]) (Φ:=JS) (t:=t_fp) ⟨MB,trivial⟩ Tryz.f191 h_fp (by kernel_rfl)
def c_fb:Con:=⟨[.ro true kD],[⟨true,[.val,(.arr 138 v3),.val,(.arr 97 v4)],kD,false⟩]⟩
theorem MC:Has Tryz.prog 144 c_fb yN:=fp (R:=aV) (tr:=false) (E:=[(191,0,c_fp)]) (Φ:=JT) (t:=t_fb) ⟨F9,trivial⟩ Tryz.f144 hE (by kernel_rfl)
def c_eo:Con:=⟨[.ro true kH],[⟨true,[.val,.val,.val,(.arr 138 v3),.val],kH,false⟩]⟩
theorem MD:Has Tryz.prog 145 c_eo yO:=fp (R:=aV) (tr:=false) (E:=[(191,0,c_fp)]) (Φ:=JU) (t:=t_eo) ⟨F9,trivial⟩ Tryz.f145 hE (by kernel_rfl)
def c_fj:Con:=⟨[.ro true kW],[⟨true,[.val,(.arr 138 v3),.val,(.arr 97 v4),(.arr 68 [.val,.val,.val,(.arr 138 v3),.val]),(.arr 97 v4)],kW,false⟩]⟩
def h_fj:How:=⟨aB [(0,⟨[kI,.list],[(4,(sI 0))],[(2,.cells [(.bool (.v 1006)),(.sl 3),(sI 1007),(.sl 4),(.sl 1000),(.sl 5)]),(1000,.arr 68 [.val,.val,.val,(.arr 138 v3),.val] (.v 1))],[],1⟩)],
 aB [(2,⟨[.bool,kI,.list,.list,.list],[(3,(.ptr 1000 0))],[(1000,.cells [(.bool (.v 0)),(.sl 1001),(sI 1),(.sl 1002),.nil,(.sl 1003)]),(1001,.arr 138 v3 (.v 2)),(1002,.arr 97 v4 (.v 3)),(1003,.arr 97 v4 (.v 4))],[],4⟩)],
 aB []⟩
theorem ME:Has Tryz.prog 96 c_fj yP:=fp (R:=aV) (tr:=false) (E:=[(144,0,c_fb),(145,1,c_eo)]) (Φ:=JV) (t:=t_fj) ⟨MC,MD,trivial⟩ Tryz.f96 h_fj (by kernel_rfl)
def DX:Con:=⟨[.ro true kD,.ro false [.bool]],[⟨false,[.val],[.list],false⟩]⟩
theorem nL:Has Tryz.prog 57 DX fy:=fp (R:=aV) (tr:=false) (E:=[(104,0,c_gs)]) (Φ:=JW) (t:=t_dn) ⟨F1,trivial⟩ Tryz.f57 hE (by kernel_rfl)
def Kz:Con:=⟨[.ro true kD],[⟨false,[.val],[.list],false⟩]⟩
def h_dj:How:=⟨aB [(0,⟨[kI,.list],[(3,(.sl 1000)),(5,(sI 0))],[(1000,.arr 97 v4 (.v 1))],[1],1⟩),(2,⟨[kI,.list],[(3,(.sl 1000)),(6,(sI 0))],[(1000,.arr 97 v4 (.v 1))],[2],1⟩)],
 aB [],
 aB []⟩
theorem Bi:Has Tryz.prog 54 Kz jW:=fp (R:=aV) (tr:=false) (E:=[(57,0,DX),(98,1,F4)]) (Φ:=JX) (t:=t_dj) ⟨nL,qU,trivial⟩ Tryz.f54 h_dj (by kernel_rfl)
def c_fo:Con:=⟨[.ro true kD,.ro false [kI],.ro false [.list],.ro false [kI]],[⟨false,[.val],[.bool],false⟩]⟩
def h_fo:How:=⟨aB [(0,⟨[kI],[(8,(.bool (.b false))),(9,(sI 0))],[],[],0⟩)],
 aB [],
 aB []⟩
theorem MF:Has Tryz.prog 237 c_fo yQ:=fp (R:=aV) (tr:=false) (E:=[(98,0,F4)]) (Φ:=JY) (t:=t_fo) ⟨qU,trivial⟩ Tryz.f237 h_fo (by kernel_rfl)
def c_ga:Con:=⟨[.ro true kD,.ro false [kI],.ro false [.list],.ro false [kI]],[⟨false,[.val],[.bool],false⟩]⟩
def h_ga:How:=⟨aB [(0,⟨[kI],[(8,(.bool (.b false))),(9,(sI 0))],[],[],0⟩)],
 aB [],
 aB []⟩
theorem MG:Has Tryz.prog 238 c_ga nw:=fp (R:=aV) (tr:=false) (E:=[(98,0,F4)]) (Φ:=JZ) (t:=t_ga) ⟨qU,trivial⟩ Tryz.f238 h_ga (by kernel_rfl)
def c_gp:Con:=⟨[.own true [(.arr 138 v3),.val] [.list,kI] false,.own true v3 [kI,kI,.list] false],[⟨true,[(.arr 138 v3),.val],[.list,kI],false⟩,⟨false,[.val],[.bool],false⟩]⟩
theorem Ga:Has Tryz.prog 195 c_gp rN:=fp (R:=aV) (tr:=false) (E:=[]) (Φ:=ph []) (t:=t_gp) trivial Tryz.f195 hE (by kernel_rfl)
def c_do:Con:=⟨[.own true [.val,(.arr 138 v3),.val,(.arr 97 v4)] kD false,.own true v3 [kI,kI,.list] false],[⟨true,[.val,(.arr 138 v3),.val,(.arr 97 v4)],kD,false⟩,⟨false,[.val],[.bool],false⟩]⟩
theorem Gb:Has Tryz.prog 149 c_do ej:=fp (R:=aV) (tr:=false) (E:=[(57,0,DX),(154,1,c_fw),(195,2,c_gp)]) (Φ:=J0) (t:=t_do) ⟨nL,F0,Ga,trivial⟩ Tryz.f149 hE (by kernel_rfl)
def c_cp:Con:=⟨[.own true [.val,(.arr 138 v3),.val,(.arr 97 v4)] kD false,.ro false [kI]],[⟨true,[.val,(.arr 138 v3),.val,(.arr 97 v4)],kD,false⟩]⟩
def h_cp:How:=⟨aB [],
 aB [(9,⟨[.bool],[(47,(.bool (.v 0)))],[],[],0⟩),(7,⟨[.bool],[(36,(.bool (.v 0)))],[],[],0⟩),(5,⟨[.bool],[(8,(.bool (.v 0)))],[],[],0⟩)],
 aB []⟩
theorem MH:Has Tryz.prog 221 c_cp u6:=fp (R:=aV) (tr:=false) (E:=[(57,0,DX),(237,1,c_fo),(238,2,c_ga),(149,3,c_do)]) (Φ:=J1) (t:=t_cp) ⟨nL,MF,MG,Gb,trivial⟩ Tryz.f221 h_cp (by kernel_rfl)
def c_fa:Con:=⟨[.own true [.val,(.arr 138 v3),.val,(.arr 97 v4)] kD false,.ro true kJ],[⟨true,[.val,(.arr 138 v3),.val,(.arr 97 v4)],kD,false⟩]⟩
theorem MI:Has Tryz.prog 192 c_fa yR:=fp (R:=aV) (tr:=false) (E:=[(99,0,F3),(57,1,DX),(98,2,F4),(221,3,c_cp)]) (Φ:=J2) (t:=t_fa) ⟨qT,nL,qU,MH,trivial⟩ Tryz.f192 hE (by kernel_rfl)
def KA:Con:=⟨[.ro true kH,.ro false [.bool]],[⟨true,[.val,.val],[kI,.list],false⟩]⟩
theorem Bj:Has Tryz.prog 60 KA jX:=fp (R:=aV) (tr:=false) (E:=[(106,0,c_gw)]) (Φ:=J3) (t:=t_dl) ⟨F7,trivial⟩ Tryz.f60 hE (by kernel_rfl)
def c_fr:Con:=⟨[.ro true kJ],[⟨true,v3,[kI,kI,.list],false⟩]⟩
theorem MJ:Has Tryz.prog 222 c_fr yS:=fp (R:=aV) (tr:=false) (E:=[]) (Φ:=ph []) (t:=t_fr) trivial Tryz.f222 hE (by kernel_rfl)
def c_cl:Con:=⟨[.ro true kH,.ro true kJ,.ro false [kI]],[⟨true,v4,kJ,false⟩,⟨false,[.val],[.bool],false⟩]⟩
def h_cl:How:=⟨aB [],
 aB [(6,⟨[.bool],[(28,(.bool (.v 0)))],[],[],0⟩),(4,⟨[.bool],[(15,(.bool (.v 0)))],[],[],0⟩)],
 aB []⟩
theorem MK:Has Tryz.prog 223 c_cl u7:=fp (R:=aV) (tr:=false) (E:=[]) (Φ:=ph []) (t:=t_cl) trivial Tryz.f223 h_cl (by kernel_rfl)
def c_ez:Con:=⟨[.own true [.val,.val,.val,(.arr 138 v3),.val] kH false,.ro true kJ],[⟨true,[.val,.val,.val,(.arr 138 v3),.val],kH,false⟩,⟨true,v4,kJ,false⟩,⟨false,[.val],[.bool],false⟩]⟩
theorem ML:Has Tryz.prog 193 c_ez yT:=fp (R:=aV) (tr:=false) (E:=[(99,0,F3),(60,1,KA),(222,2,c_fr),(156,3,c_gt),(195,4,c_gp),(223,5,c_cl)]) (Φ:=J4) (t:=t_ez) ⟨qT,Bj,MJ,F6,Ga,MK,trivial⟩ Tryz.f193 hE (by kernel_rfl)
def c_et:Con:=⟨[.own true [.val,(.arr 138 v3),.val,(.arr 97 v4),(.arr 68 [.val,.val,.val,(.arr 138 v3),.val]),(.arr 97 v4)] kW false,.ro true kJ],[⟨true,[.val,(.arr 138 v3),.val,(.arr 97 v4),(.arr 68 [.val,.val,.val,(.arr 138 v3),.val]),(.arr 97 v4)],kW,false⟩,⟨true,v4,kJ,false⟩,⟨false,[.val],[.bool],false⟩]⟩
theorem Gc:Has Tryz.prog 146 c_et om:=fp (R:=aV) (tr:=false) (E:=[(192,0,c_fa),(193,1,c_ez)]) (Φ:=J5) (t:=t_et) ⟨MI,ML,trivial⟩ Tryz.f146 hE (by kernel_rfl)
def c_dv:Con:=⟨[.own true [.val,(.arr 138 v3),.val,(.arr 97 v4),(.arr 68 [.val,.val,.val,(.arr 138 v3),.val]),(.arr 97 v4)] kW false,.ro false [kI]],[⟨true,[.val,(.arr 138 v3),.val,(.arr 97 v4),(.arr 68 [.val,.val,.val,(.arr 138 v3),.val]),(.arr 97 v4)],kW,false⟩]⟩
def h_dv:How:=⟨aB [],
 aB [(3,⟨[kI],[],[(4,.cells [(.bool (.v 1000)),(.sl 0),(sI 0),(.sl 1),(.sl 2),(.sl 3)])],[],0⟩)],
 aB []⟩
theorem Ge:Has Tryz.prog 147 c_dv rO:=fp (R:=aV) (tr:=false) (E:=[(93,0,nU)]) (Φ:=J6) (t:=t_dv) ⟨eK,trivial⟩ Tryz.f147 h_dv (by kernel_rfl)
def c_fe:Con:=⟨[.own true [.val,(.arr 138 v3),.val,(.arr 97 v4),(.arr 68 [.val,.val,.val,(.arr 138 v3),.val]),(.arr 97 v4)] kW false],[⟨true,[.val,(.arr 138 v3),.val,(.arr 97 v4),(.arr 68 [.val,.val,.val,(.arr 138 v3),.val]),(.arr 97 v4)],kW,false⟩]⟩
def h_fe:How:=⟨aB [(4,⟨[kI,.bool,kI,.list,.list,.list,.list],[(12,(sI 0))],[(4,.cells [(.bool (.v 1)),(.sl 1000),(sI 2),(.sl 1001),(.sl 1002),(.sl 1003)]),(1000,.arr 138 v3 (.v 3)),(1001,.arr 97 v4 (.v 4)),(1002,.arr 68 [.val,.val,.val,(.arr 138 v3),.val] (.v 5)),(1003,.arr 97 v4 (.v 6))],[10,11,12,13],4⟩),(2,⟨[kI,.bool,kI,.list,.list,.list,.list],[(5,(sI 0))],[(4,.cells [(.bool (.v 1)),(.sl 1000),(sI 2),(.sl 1001),(.sl 1002),(.sl 1003)]),(1000,.arr 138 v3 (.v 3)),(1001,.arr 97 v4 (.v 4)),(1002,.arr 68 [.val,.val,.val,(.arr 138 v3),.val] (.v 5)),(1003,.arr 97 v4 (.v 6))],[9,2,0,1],4⟩),(0,⟨[kI,.list],[(3,(sI 0))],[(2,.arr 68 [.val,.val,.val,(.arr 138 v3),.val] (.v 1))],[],0⟩)],
 aB [],
 aB []⟩
theorem MM:Has Tryz.prog 97 c_fe yU:=fp (R:=aV) (tr:=false) (E:=[(54,0,Kz),(146,1,c_et),(147,2,c_dv)]) (Φ:=J7) (t:=t_fe) ⟨Bi,Gc,Ge,trivial⟩ Tryz.f97 h_fe (by kernel_rfl)
def c_db:Con:=⟨[.ro true kW,.ro false [kI]],[⟨true,[.val,(.arr 138 v3),.val,(.arr 97 v4),(.arr 68 [.val,.val,.val,(.arr 138 v3),.val]),(.arr 97 v4)],kW,false⟩]⟩
def h_db:How:=⟨aB [(0,⟨[kI,.bool,kI,.list,.list,.list,.list],[(6,(sI 0))],[(6,.cells [(.bool (.v 1)),(.sl 1000),(sI 2),(.sl 1001),(.sl 1002),(.sl 1003)]),(1000,.arr 138 v3 (.v 3)),(1001,.arr 97 v4 (.v 4)),(1002,.arr 68 [.val,.val,.val,(.arr 138 v3),.val] (.v 5)),(1003,.arr 97 v4 (.v 6))],[2,3,4,5],4⟩)],
 aB [],
 aB []⟩
theorem MN:Has Tryz.prog 53 c_db vc:=fp (R:=aV) (tr:=false) (E:=[(95,0,c_es),(93,1,nU),(96,2,c_fj),(97,3,c_fe)]) (Φ:=J8) (t:=t_db) ⟨F8,eK,ME,MM,trivial⟩ Tryz.f53 h_db (by kernel_rfl)
def c_cj:Con:=⟨[.ro true kW,.ro false [kI]],[⟨false,[.val],[.list],false⟩]⟩
def h_cj:How:=⟨aB [(0,⟨[kI,.list],[(5,(.sl 1000)),(6,(sI 0))],[(1000,.arr 88 [.val,.val] (.v 1))],[1],1⟩)],
 aB [],
 aB []⟩
theorem MO:Has Tryz.prog 105 c_cj yV:=fp (R:=aV) (tr:=false) (E:=[(95,0,c_es),(93,1,nU),(60,2,KA)]) (Φ:=J9) (t:=t_cj) ⟨F8,eK,Bj,trivial⟩ Tryz.f105 h_cj (by kernel_rfl)
def c_er:Con:=⟨[.ro true kW,.ro false [kI],.ro true [.list,kI]],[⟨false,[.val],[.str],false⟩]⟩
def h_er:How:=⟨aB [(0,⟨[.str,kI],[(7,(.str (.v 0))),(9,(sI 1))],[],[],0⟩)],
 aB [(2,⟨[.str],[(7,(.str (.v 0)))],[],[],0⟩)],
 aB []⟩
theorem MP:Has Tryz.prog 58 c_er yW:=fp (R:=aV) (tr:=false) (E:=[(34,0,BP),(105,1,c_cj)]) (Φ:=Ka) (t:=t_er) ⟨qM,MO,trivial⟩ Tryz.f58 h_er (by kernel_rfl)
def c_gg:Con:=⟨[.ro true kW],[⟨false,[.val],[.str],false⟩]⟩
def h_gg:How:=⟨aB [(2,⟨[.str,kI],[(3,(.str (.v 0))),(6,(sI 1))],[],[],0⟩),(0,⟨[.str,kI],[(3,(.str (.v 0))),(5,(sI 1))],[],[],0⟩)],
 aB [],
 aB []⟩
theorem Gf:Has Tryz.prog 33 c_gg rP:=fp (R:=aV) (tr:=false) (E:=[(57,0,DX),(58,1,c_er),(60,2,KA),(59,3,c_ft),(34,4,BP)]) (Φ:=Kb) (t:=t_gg) ⟨nL,MP,Bj,F5,qM,trivial⟩ Tryz.f33 h_gg (by kernel_rfl)
def c_en:Con:=⟨[],[⟨false,[.val],[.list],false⟩]⟩
theorem MQ:Has Tryz.prog 100 c_en yX:=fp (R:=aV) (tr:=false) (E:=[]) (Φ:=ph []) (t:=t_en) trivial Tryz.f100 hE (by kernel_rfl)
def c_dw:Con:=⟨[.ro true kJ],[⟨false,[.val],[.str],false⟩]⟩
theorem MS:Has Tryz.prog 55 c_dw yY:=fp (R:=aV) (tr:=false) (E:=[(99,0,F3),(100,1,c_en),(34,2,BP)]) (Φ:=Kc) (t:=t_dw) ⟨qT,MQ,qM,trivial⟩ Tryz.f55 hE (by kernel_rfl)
def c_fu:Con:=⟨[.own true [.val,(.arr 138 v3),.val,(.arr 97 v4),(.arr 68 [.val,.val,.val,(.arr 138 v3),.val]),(.arr 97 v4)] kW false,.ro true kJ],[⟨true,[.val,(.arr 138 v3),.val,(.arr 97 v4),(.arr 68 [.val,.val,.val,(.arr 138 v3),.val]),(.arr 97 v4)],kW,false⟩]⟩
theorem Gg:Has Tryz.prog 150 c_fu oo:=fp (R:=aV) (tr:=false) (E:=[]) (Φ:=ph []) (t:=t_fu) trivial Tryz.f150 hE (by kernel_rfl)
def c_fi:Con:=⟨[.own true [.val,(.arr 138 v3),.val,(.arr 97 v4),(.arr 68 [.val,.val,.val,(.arr 138 v3),.val]),(.arr 97 v4)] kW false,.ro true [kI,kI,kI,.list]],[⟨true,[.val,(.arr 138 v3),.val,(.arr 97 v4),(.arr 68 [.val,.val,.val,(.arr 138 v3),.val]),(.arr 97 v4)],kW,false⟩]⟩
theorem MT:Has Tryz.prog 101 c_fi yZ:=fp (R:=aV) (tr:=false) (E:=[(57,0,DX),(148,1,Hw),(149,2,c_do),(93,3,nU),(54,4,Kz),(150,5,c_fu)]) (Φ:=Kd) (t:=t_fi) ⟨nL,vA,Gb,eK,Bi,Gg,trivial⟩ Tryz.f101 hE (by kernel_rfl)
def c_eu:Con:=⟨[.own true [.val,(.arr 138 v3),.val,(.arr 97 v4),(.arr 68 [.val,.val,.val,(.arr 138 v3),.val]),(.arr 97 v4)] kW false,.ro false [kI]],[⟨true,[.val,(.arr 138 v3),.val,(.arr 97 v4),(.arr 68 [.val,.val,.val,(.arr 138 v3),.val]),(.arr 97 v4)],kW,false⟩]⟩
theorem MU:Has Tryz.prog 151 c_eu vg:=fp (R:=aV) (tr:=false) (E:=[]) (Φ:=ph []) (t:=t_eu) trivial Tryz.f151 hE (by kernel_rfl)
def c_gf:Con:=⟨[.own true [.val,(.arr 138 v3),.val,(.arr 97 v4),(.arr 68 [.val,.val,.val,(.arr 138 v3),.val]),(.arr 97 v4)] kW false,.ro true [kI,kI,kI,.list]],[⟨true,[.val,(.arr 138 v3),.val,(.arr 97 v4),(.arr 68 [.val,.val,.val,(.arr 138 v3),.val]),(.arr 97 v4)],kW,false⟩]⟩
theorem MV:Has Tryz.prog 102 c_gf rQ:=fp (R:=aV) (tr:=false) (E:=[(93,0,nU),(151,1,c_eu),(150,2,c_fu),(146,3,c_et)]) (Φ:=Ke) (t:=t_gf) ⟨eK,MU,Gg,Gc,trivial⟩ Tryz.f102 hE (by kernel_rfl)
def c_gi:Con:=⟨[.own true [(.arr 138 v3),.val] [.list,kI] false,.ro false [kI]],[⟨true,[(.arr 138 v3),.val],[.list,kI],false⟩]⟩
theorem Gh:Has Tryz.prog 153 c_gi rR:=fp (R:=aV) (tr:=true) (E:=[]) (Φ:=ph []) (t:=t_gi) trivial Tryz.f153 hE (by kernel_rfl)
def c_em:Con:=⟨[.own true [.val,(.arr 138 v3),.val,(.arr 97 v4)] kD false,.ro false [kI]],[⟨true,[.val,(.arr 138 v3),.val,(.arr 97 v4)],kD,false⟩]⟩
theorem MW:Has Tryz.prog 152 c_em y0:=fp (R:=aV) (tr:=false) (E:=[(153,0,c_gi)]) (Φ:=Kf) (t:=t_em) ⟨Gh,trivial⟩ Tryz.f152 hE (by kernel_rfl)
def c_ff:Con:=⟨[.own true [.val,(.arr 138 v3),.val,(.arr 97 v4),(.arr 68 [.val,.val,.val,(.arr 138 v3),.val]),(.arr 97 v4)] kW false,.ro true [kI,kI,kI,.list]],[⟨true,[.val,(.arr 138 v3),.val,(.arr 97 v4),(.arr 68 [.val,.val,.val,(.arr 138 v3),.val]),(.arr 97 v4)],kW,false⟩]⟩
theorem MX:Has Tryz.prog 103 c_ff rS:=fp (R:=aV) (tr:=false) (E:=[(93,0,nU),(147,1,c_dv),(152,2,c_em),(153,3,c_gi)]) (Φ:=Kg) (t:=t_ff) ⟨eK,Ge,MW,Gh,trivial⟩ Tryz.f103 hE (by kernel_rfl)
def c_gq:Con:=⟨[.own true [.val,(.arr 138 v3),.val,(.arr 97 v4),(.arr 68 [.val,.val,.val,(.arr 138 v3),.val]),(.arr 97 v4)] kW false,.ro true [kI,kI,kI,.list]],[⟨true,[.val,(.arr 138 v3),.val,(.arr 97 v4),(.arr 68 [.val,.val,.val,(.arr 138 v3),.val]),(.arr 97 v4)],kW,false⟩]⟩
def h_gq:How:=⟨aB [],
 aB [(5,⟨[.bool],[(7,(.bool (.v 0)))],[],[],0⟩)],
 aB []⟩
theorem MY:Has Tryz.prog 56 c_gq ip:=fp (R:=aV) (tr:=false) (E:=[(101,0,c_fi),(102,1,c_gf),(103,2,c_ff)]) (Φ:=Kh) (t:=t_gq) ⟨MT,MV,MX,trivial⟩ Tryz.f56 h_gq (by kernel_rfl)
def c_ev:Con:=⟨[.own true [.val,(.arr 138 v3),.val,(.arr 97 v4),(.arr 68 [.val,.val,.val,(.arr 138 v3),.val]),(.arr 97 v4)] kW false,.ro false [.str]],[⟨true,[.val,(.arr 138 v3),.val,(.arr 97 v4),(.arr 68 [.val,.val,.val,(.arr 138 v3),.val]),(.arr 97 v4)],kW,false⟩,⟨false,[.val],[.str],false⟩]⟩
def h_ev:How:=⟨aB [(1,⟨[.str,kI],[(8,(.str (.v 0))),(10,(sI 1))],[],[],0⟩)],
 aB [],
 aB []⟩
theorem MZ:Has Tryz.prog 32 c_ev vh:=fp (R:=aV) (tr:=false) (E:=[(31,0,c_gl),(52,1,c_gu),(53,2,c_db),(33,3,c_gg),(54,4,Kz),(55,5,c_dw),(34,6,BP),(56,7,c_gq)]) (Φ:=Ki) (t:=t_ev) ⟨FZ,Mx,MN,Gf,Bi,MS,qM,MY,trivial⟩ Tryz.f32 h_ev (by kernel_rfl)
def sQ:Con:=⟨[.ro false [.list],.ro false [.str]],[⟨false,[.val],[.str],false⟩]⟩
def h_dx:How:=⟨aB [(0,⟨[.str,kI,.bool,kI,.list,.list,.list,.list],[(7,(.str (.v 0))),(9,(sI 1))],[(4,.cells [(.bool (.v 2)),(.sl 1000),(sI 3),(.sl 1001),(.sl 1002),(.sl 1003)]),(1000,.arr 138 v3 (.v 4)),(1001,.arr 97 v4 (.v 5)),(1002,.arr 68 [.val,.val,.val,(.arr 138 v3),.val] (.v 6)),(1003,.arr 97 v4 (.v 7))],[0,1,2,3],4⟩)],
 aB [],
 aB []⟩
theorem gw:Has Tryz.prog 16 sQ eZ:=fp (R:=aV) (tr:=false) (E:=[(30,0,c_dm),(31,1,c_gl),(32,2,c_ev),(33,3,c_gg)]) (Φ:=Kj) (t:=t_dx) ⟨Mv,FZ,MZ,Gf,trivial⟩ Tryz.f16 h_dx (by kernel_rfl)
def c_fs:Con:=⟨[.ro false [.list]],[⟨false,[.val],[.list],false⟩]⟩
def h_fs:How:=⟨aB [(0,⟨[kI,.list],[(4,(sI 0))],[(0,.arr 3 [.val] (.v 1))],[],0⟩)],
 aB [],
 aB []⟩
theorem M5:Has Tryz.prog 17 c_fs y1:=fp (R:=[]) (tr:=false) (E:=[]) (Φ:=ph []) (t:=t_fs) trivial Tryz.f17 h_fs (by kernel_rfl)
def c_fy:Con:=⟨[.ro false [.list],.ro false [.list]],[⟨false,[.val],[.bool],false⟩]⟩
def h_fy:How:=⟨aB [(0,⟨[kI],[(4,(.bool (.b false))),(5,(sI 0))],[],[],0⟩)],
 aB [],
 aB []⟩
theorem M6:Has Tryz.prog 18 c_fy y2:=fp (R:=[]) (tr:=false) (E:=[]) (Φ:=ph []) (t:=t_fy) trivial Tryz.f18 h_fy (by kernel_rfl)
end Dx
