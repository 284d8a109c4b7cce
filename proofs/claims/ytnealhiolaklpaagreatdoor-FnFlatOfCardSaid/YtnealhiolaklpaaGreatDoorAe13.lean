/- Lemmas of the proof. No conditions. -/
import Derived.Shelf.Small.Strs
import Derived.Shelf.Strconv.ErrVarAll
import Derived.Shelf.Strconv.Itoa3
import Derived.Shelf.Strings.Repeat
import Derived.Shelf.Strings.OnBuilder
import Derived.Shelf.SlSortCmp.WholeK
import Derived.Ground.NamesProg
import Derived.Ground.SlsfProg
import Derived.Shelf.SlicesG.Cmp
import Derived.Ground.SlgcProg
import Derived.Lib.MakeNoZero
import Derived.WalkKit
import Derived.Laws.StructEq
import Derived.Laws.Externs
import Derived.Shelf.GgSortFunc.InsertionK
import Derived.Lib.AtoiTie
import Derived.Lib.ItoaMem
import Derived.BigCall
import Derived.Test.YtnealhiolaklpaaGreatDoorAd4
import Derived.Test.YtnealhiolaklpaaGreatDoorAe1
set_option maxRecDepth 100000
set_option maxHeartbeats 4000000
set_option linter.all false
open Bool renaming false->U,true->J
open Option renaming none->O,some->C
open List renaming length->Y
open Go.Value renaming slice->H,bool->M,int->I
open Go.Proofs.Tryz
open Nat (beq ble mul)
open Go.Result (andThen_ok)
open Go.Sem (run_bind)
open Go.Region (binds)
open List (replicate)
open Int (toNat)
open Go.Builtin (firstCells)
open Go.Instr (checkKey)
namespace Go.Proofs
open Go.Shelf
def Tryz.Nw:Go.Shelf.Ren:=⟨λ|213=>151|265=>216|n=>n,λ|9=>9|3=>3|n=>n,λ|n=>n⟩
def Tryz.abH:Go.Proofs.Lays.n213 Tryz.prog Tryz.Nw:={
 mixed:=by kernel_rfl
 f213:=func151.trans (congrArg C bV)
 f265:=func216.trans (congrArg C bV)
 t3:=underlying3
 a3:=isAgg3
 z3:=sizeOf3
 v3:=zeroValue3
 t9:=underlying9
 a9:=isAgg9
 z9:=sizeOf9
 v9:=zeroValue9}
def Tryz.Nx:Go.Shelf.Ren:=⟨λ|106=>90|213=>151|265=>216|n=>n,λ|9=>9|3=>3|n=>n,λ|n=>n⟩
def Tryz.abI:Go.Proofs.Lays.n106 Tryz.prog Tryz.Nx:={
 mixed:=by kernel_rfl
 f106:=func90.trans (congrArg C bV)
 f213:=func151.trans (congrArg C bV)
 f265:=func216.trans (congrArg C bV)
 t3:=underlying3
 a3:=isAgg3
 z3:=sizeOf3
 v3:=zeroValue3
 t9:=underlying9
 a9:=isAgg9
 z9:=sizeOf9
 v9:=zeroValue9}
def Tryz.AU:Go.Shelf.Ren:=⟨λ|105=>108|212=>167|99=>168|165=>156|166=>53|170=>169|169=>54|263=>236|264=>237|206=>228|240=>110|241=>227|276=>170|277=>267|n=>n,λ|9=>9|3=>3|4=>4|20=>20|0=>0|46=>176|109=>214|5=>5|72=>110|76=>117|51=>252|146=>264|53=>254|148=>266|70=>108|37=>22|75=>116|127=>175|164=>217|80=>119|n=>n,λ|n=>n⟩
def Tryz.yT:Go.Proofs.Lays.n105 Tryz.prog Tryz.AU:={
 mixed:=by kernel_rfl
 f99:=func168.trans (congrArg C bV)
 f105:=func108.trans (congrArg C bV)
 f165:=func156.trans (congrArg C bV)
 f166:=func53.trans (congrArg C bV)
 f169:=func54.trans (congrArg C bV)
 f170:=func169.trans (congrArg C bV)
 f206:=func228.trans (congrArg C bV)
 f212:=func167.trans (congrArg C bV)
 f240:=func110.trans (congrArg C bV)
 f241:=func227.trans (congrArg C bV)
 f263:=func236.trans (congrArg C bV)
 f264:=func237.trans (congrArg C bV)
 f276:=func170.trans (congrArg C bV)
 f277:=func267.trans (congrArg C bV)
 t0:=underlying0
 a0:=isAgg0
 z0:=sizeOf0
 v0:=zeroValue0
 t3:=underlying3
 a3:=isAgg3
 z3:=sizeOf3
 v3:=zeroValue3
 t4:=underlying4
 a4:=isAgg4
 z4:=sizeOf4
 v4:=zeroValue4
 t5:=underlying5
 a5:=isAgg5
 z5:=sizeOf5
 v5:=zeroValue5
 t9:=underlying9
 a9:=isAgg9
 z9:=sizeOf9
 v9:=zeroValue9
 t20:=underlying20
 a20:=isAgg20
 z20:=sizeOf20
 v20:=zeroValue20
 t37:=underlying22
 a37:=isAgg22
 z37:=sizeOf22
 v37:=zeroValue22
 t46:=underlying176
 a46:=isAgg176
 z46:=sizeOf176
 v46:=zeroValue176
 t51:=underlying252
 a51:=isAgg252
 z51:=sizeOf252
 v51:=zeroValue252
 t53:=underlying254
 a53:=isAgg254
 z53:=sizeOf254
 v53:=zeroValue254
 t70:=underlying108
 a70:=isAgg108
 z70:=sizeOf108
 v70:=zeroValue108
 t72:=underlying110
 a72:=isAgg110
 z72:=sizeOf110
 v72:=zeroValue110
 t75:=underlying116
 a75:=isAgg116
 z75:=sizeOf116
 v75:=zeroValue116
 t76:=underlying117
 a76:=isAgg117
 z76:=sizeOf117
 v76:=zeroValue117
 t109:=underlying214
 a109:=isAgg214
 z109:=sizeOf214
 v109:=zeroValue214
 t127:=underlying175
 a127:=isAgg175
 z127:=sizeOf175
 v127:=zeroValue175
 t146:=underlying264
 a146:=isAgg264
 z146:=sizeOf264
 v146:=zeroValue264
 t148:=underlying266
 a148:=isAgg266
 z148:=sizeOf266
 v148:=zeroValue266
 t164:=underlying217
 a164:=isAgg217
 z164:=sizeOf217
 v164:=zeroValue217}
def Tryz.yU:Builder.Extra Tryz.prog Tryz.AU:={
 sizeBuilder:=by kernel_rfl
 liesBuilder:=by kernel_rfl
 t5:=Tryz.yT.t5
 a5:=Tryz.yT.a5
 z5:=Tryz.yT.z5
 v5:=Tryz.yT.v5
 infoByte:=by kernel_rfl
 cellsByte:=by kernel_rfl
 sizeByte:=by kernel_rfl
 neB5:=by decide}
def Tryz.U5:Go.Shelf.Ren:=⟨λ|6=>88|15=>150|14=>149|28=>214|29=>215|20=>206|21=>207|22=>208|23=>209|24=>210|25=>211|26=>212|27=>213|46=>258|47=>259|48=>260|49=>261|50=>262|57=>287|n=>n,λ|22=>36|24=>48|25=>159|3=>3|39=>176|0=>0|53=>252|55=>254|4=>4|46=>246|45=>245|50=>121|5=>5|9=>9|66=>277|70=>240|76=>296|77=>219|n=>n,λ|n=>n⟩
def Tryz.lW:Go.Proofs.SlLaysF0.n6 Tryz.prog Tryz.U5:={
 mixed:=by kernel_rfl
 f6:=⟨Tryz.f88.name,cx,func88.trans (congrArg C bV)⟩
 f14:=⟨Tryz.f149.name,cx,func149.trans (congrArg C bV)⟩
 f15:=func150.trans (congrArg C bV)
 f20:=⟨Tryz.f206.name,cx,func206.trans (congrArg C bV)⟩
 f21:=⟨Tryz.f207.name,cx,func207.trans (congrArg C bV)⟩
 f22:=⟨Tryz.f208.name,cx,func208.trans (congrArg C bV)⟩
 f23:=⟨Tryz.f209.name,cx,func209.trans (congrArg C bV)⟩
 f24:=⟨Tryz.f210.name,cx,func210.trans (congrArg C bV)⟩
 f25:=⟨Tryz.f211.name,cx,func211.trans (congrArg C bV)⟩
 f26:=⟨Tryz.f212.name,cx,func212.trans (congrArg C bV)⟩
 f27:=⟨Tryz.f213.name,cx,func213.trans (congrArg C bV)⟩
 f28:=func214.trans (congrArg C bV)
 f29:=func215.trans (congrArg C bV)
 f46:=⟨Tryz.f258.name,cx,func258.trans (congrArg C bV)⟩
 f47:=func259.trans (congrArg C bV)
 f48:=func260.trans (congrArg C bV)
 f49:=⟨Tryz.f261.name,cx,func261.trans (congrArg C bV)⟩
 f50:=⟨Tryz.f262.name,cx,func262.trans (congrArg C bV)⟩
 f57:=⟨Tryz.f287.name,cx,func287.trans (congrArg C bV)⟩
 t0:=underlying0
 a0:=isAgg0
 z0:=sizeOf0
 v0:=zeroValue0
 t3:=underlying3
 a3:=isAgg3
 z3:=sizeOf3
 v3:=zeroValue3
 t4:=underlying4
 a4:=isAgg4
 z4:=sizeOf4
 v4:=zeroValue4
 t5:=underlying5
 a5:=isAgg5
 z5:=sizeOf5
 v5:=zeroValue5
 t9:=underlying9
 a9:=isAgg9
 z9:=sizeOf9
 v9:=zeroValue9
 t22:=underlying36
 a22:=isAgg36
 z22:=sizeOf36
 v22:=zeroValue36
 t25:=underlying159
 a25:=isAgg159
 z25:=sizeOf159
 v25:=zeroValue159
 t39:=underlying176
 a39:=isAgg176
 z39:=sizeOf176
 v39:=zeroValue176
 t45:=underlying245
 a45:=isAgg245
 z45:=sizeOf245
 v45:=zeroValue245
 t46:=underlying246
 a46:=isAgg246
 z46:=sizeOf246
 v46:=zeroValue246
 t50:=underlying121
 a50:=isAgg121
 z50:=sizeOf121
 v50:=zeroValue121
 t53:=underlying252
 a53:=isAgg252
 z53:=sizeOf252
 v53:=zeroValue252
 t55:=underlying254
 a55:=isAgg254
 z55:=sizeOf254
 v55:=zeroValue254
 t66:=underlying277
 a66:=isAgg277
 z66:=sizeOf277
 v66:=zeroValue277
 t70:=underlying240
 a70:=isAgg240
 z70:=sizeOf240
 v70:=zeroValue240
 t76:=underlying296
 a76:=isAgg296
 z76:=sizeOf296
 v76:=zeroValue296
 t77:=underlying219
 a77:=isAgg219
 z77:=sizeOf219
 v77:=zeroValue219}
def Tryz.AV:Go.Shelf.Ren:=⟨λ|156=>99|165=>156|166=>53|169=>54|240=>110|241=>227|276=>170|277=>267|n=>n,λ|31=>23|9=>9|3=>3|4=>4|0=>0|20=>20|72=>110|76=>117|70=>108|37=>22|75=>116|127=>175|164=>217|5=>5|80=>119|n=>n,λ|n=>n⟩
def Tryz.J5:Go.Proofs.Lays.n156 Tryz.prog Tryz.AV:={
 mixed:=by kernel_rfl
 f156:=func99.trans (congrArg C bV)
 f165:=func156.trans (congrArg C bV)
 f166:=func53.trans (congrArg C bV)
 f169:=func54.trans (congrArg C bV)
 f240:=func110.trans (congrArg C bV)
 f241:=func227.trans (congrArg C bV)
 f276:=func170.trans (congrArg C bV)
 f277:=func267.trans (congrArg C bV)
 t0:=underlying0
 a0:=isAgg0
 z0:=sizeOf0
 v0:=zeroValue0
 t3:=underlying3
 a3:=isAgg3
 z3:=sizeOf3
 v3:=zeroValue3
 t4:=underlying4
 a4:=isAgg4
 z4:=sizeOf4
 v4:=zeroValue4
 t9:=underlying9
 a9:=isAgg9
 z9:=sizeOf9
 v9:=zeroValue9
 t20:=underlying20
 a20:=isAgg20
 z20:=sizeOf20
 v20:=zeroValue20
 t31:=underlying23
 a31:=isAgg23
 z31:=sizeOf23
 v31:=zeroValue23
 t37:=underlying22
 a37:=isAgg22
 z37:=sizeOf22
 v37:=zeroValue22
 t70:=underlying108
 a70:=isAgg108
 z70:=sizeOf108
 v70:=zeroValue108
 t72:=underlying110
 a72:=isAgg110
 z72:=sizeOf110
 v72:=zeroValue110
 t75:=underlying116
 a75:=isAgg116
 z75:=sizeOf116
 v75:=zeroValue116
 t76:=underlying117
 a76:=isAgg117
 z76:=sizeOf117
 v76:=zeroValue117
 t127:=underlying175
 a127:=isAgg175
 z127:=sizeOf175
 v127:=zeroValue175
 t164:=underlying217
 a164:=isAgg217
 z164:=sizeOf217
 v164:=zeroValue217}
def Tryz.nB:Builder.Extra Tryz.prog Tryz.AV:={
 sizeBuilder:=by kernel_rfl
 liesBuilder:=by kernel_rfl
 t5:=underlying5
 a5:=isAgg5
 z5:=sizeOf5
 v5:=zeroValue5
 infoByte:=by kernel_rfl
 cellsByte:=by kernel_rfl
 sizeByte:=by kernel_rfl
 neB5:=by decide}
def Tryz.J6:Go.Shelf.Ren:=⟨λ|171=>257|243=>286|246=>294|283=>297|284=>298|285=>299|286=>300|129=>215|317=>301|318=>302|319=>303|320=>304|337=>305|338=>306|n=>n,λ|3=>3|9=>9|2=>2|4=>4|171=>315|0=>0|53=>254|37=>22|5=>5|173=>317|212=>320|51=>252|20=>20|213=>321|46=>176|232=>322|233=>323|n=>n,λ|17=>5|18=>6|19=>7|n=>n⟩
def Tryz.Y8:Go.Proofs.LaysM.n171 Tryz.prog Tryz.J6:={
 mixed:=by kernel_rfl
 f129:=func215.trans (congrArg C bV)
 f171:=func257.trans (congrArg C bV)
 f243:=func286.trans (congrArg C bV)
 f246:=func294.trans (congrArg C bV)
 f283:=func297.trans (congrArg C bV)
 f284:=func298.trans (congrArg C bV)
 f285:=func299.trans (congrArg C bV)
 f286:=func300.trans (congrArg C bV)
 f317:=func301.trans (congrArg C bV)
 f318:=func302.trans (congrArg C bV)
 f319:=func303.trans (congrArg C bV)
 f320:=func304.trans (congrArg C bV)
 f337:=func305.trans (congrArg C bV)
 f338:=func306.trans (congrArg C bV)
 t0:=underlying0
 a0:=isAgg0
 z0:=sizeOf0
 v0:=zeroValue0
 t2:=underlying2
 a2:=isAgg2
 z2:=sizeOf2
 v2:=zeroValue2
 t3:=underlying3
 a3:=isAgg3
 z3:=sizeOf3
 v3:=zeroValue3
 t4:=underlying4
 a4:=isAgg4
 z4:=sizeOf4
 v4:=zeroValue4
 t5:=underlying5
 a5:=isAgg5
 z5:=sizeOf5
 v5:=zeroValue5
 t9:=underlying9
 a9:=isAgg9
 z9:=sizeOf9
 v9:=zeroValue9
 t20:=underlying20
 a20:=isAgg20
 z20:=sizeOf20
 v20:=zeroValue20
 t37:=underlying22
 a37:=isAgg22
 z37:=sizeOf22
 v37:=zeroValue22
 t46:=underlying176
 a46:=isAgg176
 z46:=sizeOf176
 v46:=zeroValue176
 t51:=underlying252
 a51:=isAgg252
 z51:=sizeOf252
 v51:=zeroValue252
 t53:=underlying254
 a53:=isAgg254
 z53:=sizeOf254
 v53:=zeroValue254
 t171:=underlying315
 a171:=isAgg315
 z171:=sizeOf315
 v171:=zeroValue315
 t173:=underlying317
 a173:=isAgg317
 z173:=sizeOf317
 v173:=zeroValue317
 t212:=underlying320
 a212:=isAgg320
 z212:=sizeOf320
 v212:=zeroValue320
 t213:=underlying321
 a213:=isAgg321
 z213:=sizeOf321
 t232:=underlying322
 a232:=isAgg322
 z232:=sizeOf322
 v232:=zeroValue322
 t233:=underlying323
 a233:=isAgg323
 z233:=sizeOf323
 v233:=zeroValue323
 g17:=by kernel_rfl
 g18:=by kernel_rfl
 g19:=by kernel_rfl
 i0:=by kernel_rfl
 i2:=by kernel_rfl
 i3:=by kernel_rfl
 i4:=by kernel_rfl
 i5:=by kernel_rfl
 i9:=by kernel_rfl
 i20:=by kernel_rfl
 i37:=by kernel_rfl
 i46:=by kernel_rfl
 i51:=by kernel_rfl
 i53:=by kernel_rfl
 i171:=by kernel_rfl
 i173:=by kernel_rfl
 i212:=by kernel_rfl
 i232:=by kernel_rfl
 i233:=by kernel_rfl
 m17:=by kernel_rfl
 m18:=by kernel_rfl
 m19:=by kernel_rfl}
def Tryz.J7:Go.Shelf.Ren:=⟨λ|172=>203|244=>255|245=>256|247=>281|279=>282|280=>283|281=>284|282=>285|287=>292|316=>205|171=>257|205=>293|321=>295|322=>296|243=>286|246=>294|283=>297|284=>298|285=>299|286=>300|129=>215|317=>301|318=>302|319=>303|320=>304|337=>305|338=>306|n=>n,λ|9=>9|3=>3|75=>116|76=>117|4=>4|5=>5|167=>290|37=>22|0=>0|85=>291|2=>2|168=>293|53=>254|175=>301|46=>176|210=>304|127=>175|145=>314|143=>312|21=>21|171=>315|173=>317|212=>320|51=>252|20=>20|213=>321|232=>322|233=>323|80=>119|n=>n,λ|15=>1|16=>2|17=>5|18=>6|19=>7|n=>n⟩
def Tryz.Ny:Go.Proofs.LaysC.n172 Tryz.prog Tryz.J7:={
 mixed:=by kernel_rfl
 f129:=func215.trans (congrArg C bV)
 f171:=func257.trans (congrArg C bV)
 f172:=func203.trans (congrArg C bV)
 f205:=func293.trans (congrArg C bV)
 f243:=func286.trans (congrArg C bV)
 f244:=func255.trans (congrArg C bV)
 f245:=func256.trans (congrArg C bV)
 f246:=func294.trans (congrArg C bV)
 f247:=func281.trans (congrArg C bV)
 f279:=func282.trans (congrArg C bV)
 f280:=func283.trans (congrArg C bV)
 f281:=func284.trans (congrArg C bV)
 f282:=func285.trans (congrArg C bV)
 f283:=func297.trans (congrArg C bV)
 f284:=func298.trans (congrArg C bV)
 f285:=func299.trans (congrArg C bV)
 f286:=func300.trans (congrArg C bV)
 f287:=func292.trans (congrArg C bV)
 f316:=func205.trans (congrArg C bV)
 f317:=func301.trans (congrArg C bV)
 f318:=func302.trans (congrArg C bV)
 f319:=func303.trans (congrArg C bV)
 f320:=func304.trans (congrArg C bV)
 f321:=func295.trans (congrArg C bV)
 f322:=func296.trans (congrArg C bV)
 f337:=func305.trans (congrArg C bV)
 f338:=func306.trans (congrArg C bV)
 t0:=underlying0
 a0:=isAgg0
 z0:=sizeOf0
 v0:=zeroValue0
 t2:=underlying2
 a2:=isAgg2
 z2:=sizeOf2
 v2:=zeroValue2
 t3:=underlying3
 a3:=isAgg3
 z3:=sizeOf3
 v3:=zeroValue3
 t4:=underlying4
 a4:=isAgg4
 z4:=sizeOf4
 v4:=zeroValue4
 t5:=underlying5
 a5:=isAgg5
 z5:=sizeOf5
 v5:=zeroValue5
 t9:=underlying9
 a9:=isAgg9
 z9:=sizeOf9
 v9:=zeroValue9
 t20:=underlying20
 a20:=isAgg20
 z20:=sizeOf20
 v20:=zeroValue20
 t21:=underlying21
 a21:=isAgg21
 z21:=sizeOf21
 v21:=zeroValue21
 t37:=underlying22
 a37:=isAgg22
 z37:=sizeOf22
 v37:=zeroValue22
 t46:=underlying176
 a46:=isAgg176
 z46:=sizeOf176
 v46:=zeroValue176
 t51:=underlying252
 a51:=isAgg252
 z51:=sizeOf252
 v51:=zeroValue252
 t53:=underlying254
 a53:=isAgg254
 z53:=sizeOf254
 v53:=zeroValue254
 t75:=underlying116
 a75:=isAgg116
 z75:=sizeOf116
 v75:=zeroValue116
 t76:=underlying117
 a76:=isAgg117
 z76:=sizeOf117
 v76:=zeroValue117
 t85:=underlying291
 a85:=isAgg291
 z85:=sizeOf291
 v85:=zeroValue291
 t127:=underlying175
 a127:=isAgg175
 z127:=sizeOf175
 v127:=zeroValue175
 t143:=underlying312
 a143:=isAgg312
 z143:=sizeOf312
 v143:=zeroValue312
 t145:=underlying314
 a145:=isAgg314
 z145:=sizeOf314
 v145:=zeroValue314
 t167:=underlying290
 a167:=isAgg290
 z167:=sizeOf290
 v167:=zeroValue290
 t168:=underlying293
 a168:=isAgg293
 z168:=sizeOf293
 v168:=zeroValue293
 t171:=underlying315
 a171:=isAgg315
 z171:=sizeOf315
 v171:=zeroValue315
 t173:=underlying317
 a173:=isAgg317
 z173:=sizeOf317
 v173:=zeroValue317
 t175:=underlying301
 a175:=isAgg301
 z175:=sizeOf301
 v175:=zeroValue301
 t210:=underlying304
 a210:=isAgg304
 z210:=sizeOf304
 v210:=zeroValue304
 t212:=underlying320
 a212:=isAgg320
 z212:=sizeOf320
 v212:=zeroValue320
 t213:=underlying321
 a213:=isAgg321
 z213:=sizeOf321
 t232:=underlying322
 a232:=isAgg322
 z232:=sizeOf322
 v232:=zeroValue322
 t233:=underlying323
 a233:=isAgg323
 z233:=sizeOf323
 v233:=zeroValue323
 g15:=by kernel_rfl
 g16:=by kernel_rfl
 g17:=by kernel_rfl
 g18:=by kernel_rfl
 g19:=by kernel_rfl
 t80:=underlying119
 a80:=isAgg119
 z80:=sizeOf119
 v80:=zeroValue119
 i0:=by kernel_rfl
 i2:=by kernel_rfl
 i3:=by kernel_rfl
 i4:=by kernel_rfl
 i5:=by kernel_rfl
 i9:=by kernel_rfl
 i20:=by kernel_rfl
 i21:=by kernel_rfl
 i37:=by kernel_rfl
 i46:=by kernel_rfl
 i51:=by kernel_rfl
 i53:=by kernel_rfl
 i75:=by kernel_rfl
 i76:=by kernel_rfl
 i80:=by kernel_rfl
 i85:=by kernel_rfl
 i127:=by kernel_rfl
 i143:=by kernel_rfl
 i145:=by kernel_rfl
 i167:=by kernel_rfl
 i168:=by kernel_rfl
 i171:=by kernel_rfl
 i173:=by kernel_rfl
 i175:=by kernel_rfl
 i210:=by kernel_rfl
 i212:=by kernel_rfl
 i232:=by kernel_rfl
 i233:=by kernel_rfl
 m15:=by kernel_rfl
 m16:=by kernel_rfl
 m17:=by kernel_rfl
 m18:=by kernel_rfl
 m19:=by kernel_rfl
 c0:=by kernel_rfl
 c2:=by kernel_rfl
 c3:=by kernel_rfl
 c4:=by kernel_rfl
 c5:=by kernel_rfl
 c9:=by kernel_rfl
 c20:=by kernel_rfl
 c21:=by kernel_rfl
 c37:=by kernel_rfl
 c46:=by kernel_rfl
 c51:=by kernel_rfl
 c53:=by kernel_rfl
 c75:=by kernel_rfl
 c76:=by kernel_rfl
 c80:=by kernel_rfl
 c85:=by kernel_rfl
 c127:=by kernel_rfl
 c143:=by kernel_rfl
 c145:=by kernel_rfl
 c167:=by kernel_rfl
 c168:=by kernel_rfl
 c171:=by kernel_rfl
 c173:=by kernel_rfl
 c175:=by kernel_rfl
 c210:=by kernel_rfl
 c212:=by kernel_rfl
 c213:=by kernel_rfl
 c232:=by kernel_rfl
 c233:=by kernel_rfl}
end Go.Proofs
namespace Go.Proofs
open Go Go.Ev
def fnC:((List.range 341).all λf=>match fnT.get f with|some fn=>!(fn.name== "runtime.NumGoroutine")&&(match fn.body with|some c=>codeOk fn.ntmps c|none=>J)|none=>J)=J:=by kernel_rfl
def tyZ:((List.range 337).all λt=>match tyT.get t with|some i=>(match i.zero with|some z=>mb z|none=>J)|none=>J)=J:=by kernel_rfl
def aer (f:Nat)(fn:Func)(h:fnT.get f=C fn):prog.funcs[f]?=C fn/\∀c,fn.body=C c->(∀args w,(callFunc f args).run prog w= .ok (.enter f args) w)/\codeOk fn.ntmps c=J:=by
 have a:=T.JL _ _ _ _ h;cases hb:ble 3 f with
 |false=>rw[hb] at a;cases a
 |true=>
  rw[hb] at a;have a:prog.funcs[f]?=C fn:=a;have hs:prog.funcs.size=341:=by kernel_rfl
  have hf:f<341:=by rw[<-hs];exact(tJ.1 a).1
  have b:=o5.1 fnC f (B4.2 hf);rw[h] at b;dsimp only at b;refine⟨a,λc hc=>?_⟩;rw[hc,ep] at b;refine⟨λargs w=>?_,b.2⟩;have d:fn.name≠ "runtime.NumGoroutine" :=by simpa using b.1
  simp[callFunc,a,d,hc,mark]
def agH (t:Nat)(i:TypeInfo)(h:tyT.get t=C i):prog.info? t=C i/\∀z,i.zero=C z->∀ρ,bZ ρ z=z:=by
 have b:=T.JL _ _ _ _ h;have hf:t<337:=by have:=(tJ.1 b).1;rwa [types_size] at this
 have a:=o5.1 tyZ t (B4.2 hf);rw[h] at a;dsimp only at a;refine⟨?_,λz c ρ=>?_⟩;unfold Tables.info?;rw[ai (by rwa[types_size])];exact b;rw[c] at a;exact sE ρ z a
def LK (b:Bool){t:TypeId}(h:prog.underlying t=C (.int .i64))(a:Int)(w:World):(checkKey b 9999 t (.int .i64 a)).run prog w= .ok () w:=by show(checkKey b (9998+1) t (.int .i64 a)).run prog w= .ok () w;unfold checkKey;simp only[run_bind,run_underlying h,andThen_ok];rfl
def LJ (b:Bool){t:TypeId}(h:prog.underlying t=C .string)(a:ByteArray)(w:World):(checkKey b 9999 t (.string a)).run prog w= .ok () w:=by show(checkKey b (9998+1) t (.string a)).run prog w= .ok () w;unfold checkKey;simp only[run_bind,run_underlying h,andThen_ok];rfl
def aes (b:Bool){t:TypeId}(h:prog.underlying t=C .bool)(a:Bool)(w:World):(checkKey b 9999 t (.bool a)).run prog w= .ok () w:=by show(checkKey b (9998+1) t (.bool a)).run prog w= .ok () w;unfold checkKey;simp only[run_bind,run_underlying h,andThen_ok];rfl
def eqI {t:TypeId}(h:prog.underlying t=C (.int .i64))(a b:Int)(w:World):(Op.equalIn 9999 t (.int .i64 a) (.int .i64 b)).run prog w= .ok (a== b) w:=by refine' zaB
def eqS {t:TypeId}(h:prog.underlying t=C .string)(a b:ByteArray)(w:World):(Op.equalIn 9999 t (.string a) (.string b)).run prog w= .ok (a== b) w:=by refine' zaB
def eqB {t:TypeId}(h:prog.underlying t=C .bool)(a b:Bool)(w:World):(Op.equalIn 9999 t (.bool a) (.bool b)).run prog w= .ok (a== b) w:=by refine' zaB
def pY {a:Int}{y:Value}{e:Bool}(h:lJ (.int .i64 a) y=C e):∃b,y= .int .i64 b/\e=xP a b:=by unfold lJ at h;split at h;rename_i a' b c;cases c;exact⟨_,rfl,(dM h).symm⟩;rename_i c;cases c;rename_i c;cases c;cases h
def Nz {a:List UInt8}{y:Value}{e:Bool}(h:lJ (.string ⟨⟨a⟩⟩) y=C e):∃b,y= .string ⟨⟨b⟩⟩/\e=gP a b:=by unfold lJ at h;split at h;rename_i c;cases c;rename_i a' b c;cases c;exact⟨_,rfl,(dM h).symm⟩;rename_i c;cases c;cases h
def U6 {a:Bool}{y:Value}{e:Bool}(h:lJ (.bool a) y=C e):∃b,y= .bool b/\e=bo a b (!b):=by unfold lJ at h;split at h;rename_i c;cases c;rename_i c;cases c;rename_i a' b c;cases c;exact⟨_,rfl,(dM h).symm⟩;cases h
def kI {xs:aV}{ks:List Nat}(h:fA xs (0::ks)=J):∃a ys,xs= .int .i64 a::ys/\fA ys ks=J:=by
 cases xs with
 |nil=>cases h
 |cons v xs=>obtain⟨k,_,b⟩:=nb h;obtain⟨a,rfl⟩:=zi k;exact⟨a,xs,rfl,b⟩
def kS {xs:aV}{ks:List Nat}(h:fA xs (1::ks)=J):∃a ys,xs= .string ⟨⟨a⟩⟩::ys/\fA ys ks=J:=by
 cases xs with
 |nil=>cases h
 |cons v xs=>obtain⟨k,_,b⟩:=nb h;obtain⟨a,rfl⟩:=zj k;exact⟨a,xs,rfl,b⟩
def kB {xs:aV}{ks:List Nat}(h:fA xs (2::ks)=J):∃a ys,xs= .bool a::ys/\fA ys ks=J:=by
 cases xs with
 |nil=>cases h
 |cons v xs=>obtain⟨k,_,b⟩:=nb h;obtain⟨a,rfl⟩:=wH k;exact⟨a,xs,rfl,b⟩
def kN {xs:aV}(h:fA xs []=J):xs=[]:=by
 cases xs with
 |nil=>rfl
 |cons v xs=>cases h
def mN {ys:aV}{r:Bool}(h:gi [] ys=C r):ys=[]/\r=J:=by
 cases ys with
 |nil=>exact⟨rfl,(dM h).symm⟩
 |cons v xs=>cases h
def mC {x:Value}{xs ys:aV}{r:Bool}(h:gi (x::xs) ys=C r):∃y zs e q,ys=y::zs/\lJ x y=C e/\gi xs zs=C q/\r=bo e q U:=by
 cases ys with
 |nil=>cases h
 |cons y ys=>rw[lg] at h;obtain⟨e,a,g⟩:=aG h;obtain⟨q,b,hr⟩:=aG g;exact⟨y,ys,e,q,rfl,a,b,(dM hr).symm⟩
def aiS (b:Int)(a2:Bool)(c:List UInt8)(d:Int)(a:Bool)(e:List UInt8)(w:World):(Op.equal 50 (.agg ⟨[.int .i64 b,.bool a2,.string ⟨⟨c⟩⟩]⟩) (.agg ⟨[.int .i64 d,.bool a,.string ⟨⟨e⟩⟩]⟩)).run prog w=
  .ok (bo (xP b d) (bo (bo a2 a (!a)) (bo (gP c e) J U) U) U) w:=by
 unfold Op.equal Op.maxDepth;simp[go_sem,Op.eqFields,bytes_beq,eqI,eqS,eqB,vQ,Gz];simp only[dC,kl,fk,rj];repeat' split
 all_goals first|rfl|simp_all
def agI (a:Int)(a2:Bool)(c:List UInt8)(b:Bool)(w:World):(checkKey b 10000 50 (.agg ⟨[.int .i64 a,.bool a2,.string ⟨⟨c⟩⟩]⟩)).run prog w= .ok () w:=by show(checkKey b (9999+1) 50 (.agg ⟨[.int .i64 a,.bool a2,.string ⟨⟨c⟩⟩]⟩)).run prog w= .ok () w;unfold checkKey;simp[go_sem,LK,LJ,aes,vQ,Gz]
def SF (xs:aV)(h0:fA xs [0,2,1]=J):∃a a2 b,xs=[.int .i64 a,.bool a2,.string ⟨⟨b⟩⟩]:=by obtain⟨a,_,rfl,c⟩:=kI h0;obtain⟨a2,_,rfl,d⟩:=kB c;obtain⟨b,_,rfl,e⟩:=kS d;cases kN e;exact⟨a,a2,b,rfl⟩
def abJ (d:Int)(a2:Bool)(e:List UInt8)(ys:aV)(r0:Bool)(h0:gi [.int .i64 d,.bool a2,.string ⟨⟨e⟩⟩] ys=C r0):∃b a c,ys=[.int .i64 b,.bool a,.string ⟨⟨c⟩⟩]/\r0=bo (xP d b) (bo (bo a2 a (!a)) (bo (gP e c) J U) U) U:=by obtain⟨_,_,_,_,rfl,f,i,rfl⟩:=mC h0;obtain⟨b,rfl,rfl⟩:=pY f;obtain⟨_,_,_,_,rfl,g,j,rfl⟩:=mC i;obtain⟨a,rfl,rfl⟩:=U6 g;obtain⟨_,_,_,_,rfl,h,k,rfl⟩:=mC j;obtain⟨c,rfl,rfl⟩:=Nz h;obtain⟨rfl,rfl⟩:=mN k;exact⟨b,a,c,rfl,rfl⟩
def aiT (a:Int)(a2:Int)(b:Int)(c:Int)(d:Int)(e:Int)(f:Int)(g:Int)(h:Int)(i:Int)(w:World):(Op.equal 31 (.agg ⟨[.int .i64 a,.int .i64 a2,.int .i64 b,.int .i64 c,.int .i64 d]⟩) (.agg ⟨[.int .i64 e,.int .i64 f,.int .i64 g,.int .i64 h,.int .i64 i]⟩)).run prog w=
  .ok (bo (xP a e) (bo (xP a2 f) (bo (xP b g) (bo (xP c h) (bo (xP d i) J U) U) U) U) U) w:=by
 unfold Op.equal Op.maxDepth;simp[go_sem,Op.eqFields,bytes_beq,eqI,eqS,eqB,vQ,Gz];simp only[dC,kl,fk,rj];repeat' split
 all_goals first|rfl|simp_all
def agJ (a:Int)(a2:Int)(c:Int)(d:Int)(e:Int)(b:Bool)(w:World):(checkKey b 10000 31 (.agg ⟨[.int .i64 a,.int .i64 a2,.int .i64 c,.int .i64 d,.int .i64 e]⟩)).run prog w= .ok () w:=by show(checkKey b (9999+1) 31 (.agg ⟨[.int .i64 a,.int .i64 a2,.int .i64 c,.int .i64 d,.int .i64 e]⟩)).run prog w= .ok () w;unfold checkKey;simp[go_sem,LK,LJ,aes,vQ,Gz]
def SG (xs:aV)(h0:fA xs [0,0,0,0,0]=J):∃a a2 b c d,xs=[.int .i64 a,.int .i64 a2,.int .i64 b,.int .i64 c,.int .i64 d]:=by obtain⟨a,_,rfl,e⟩:=kI h0;obtain⟨a2,_,rfl,f⟩:=kI e;obtain⟨b,_,rfl,g⟩:=kI f;obtain⟨c,_,rfl,h⟩:=kI g;obtain⟨d,_,rfl,i⟩:=kI h;cases kN i;exact⟨a,a2,b,c,d,rfl⟩
def abK (f:Int)(a2:Int)(g:Int)(h:Int)(i:Int)(ys:aV)(r0:Bool)(h0:gi [.int .i64 f,.int .i64 a2,.int .i64 g,.int .i64 h,.int .i64 i] ys=C r0):∃a b c d e,ys=[.int .i64 a,.int .i64 b,.int .i64 c,.int .i64 d,.int .i64 e]/\r0=bo (xP f a) (bo (xP a2 b) (bo (xP g c) (bo (xP h d) (bo (xP i e) J U) U) U) U) U:=by obtain⟨_,_,_,_,rfl,j,o,rfl⟩:=mC h0;obtain⟨a,rfl,rfl⟩:=pY j;obtain⟨_,_,_,_,rfl,k,p,rfl⟩:=mC o;obtain⟨b,rfl,rfl⟩:=pY k;obtain⟨_,_,_,_,rfl,l,q,rfl⟩:=mC p;obtain⟨c,rfl,rfl⟩:=pY l;obtain⟨_,_,_,_,rfl,m,r,rfl⟩:=mC q;obtain⟨d,rfl,rfl⟩:=pY m;obtain⟨_,_,_,_,rfl,n,s,rfl⟩:=mC r;obtain⟨e,rfl,rfl⟩:=pY n;obtain⟨rfl,rfl⟩:=mN s;exact⟨a,b,c,d,e,rfl,rfl⟩
def aiU (a:List UInt8)(a2:Int)(b:List UInt8)(c:Int)(w:World):(Op.equal 48 (.agg ⟨[.string ⟨⟨a⟩⟩,.int .i64 a2]⟩) (.agg ⟨[.string ⟨⟨b⟩⟩,.int .i64 c]⟩)).run prog w=
  .ok (bo (gP a b) (bo (xP a2 c) J U) U) w:=by
 unfold Op.equal Op.maxDepth;simp[go_sem,Op.eqFields,bytes_beq,eqI,eqS,eqB,vQ,Gz];simp only[dC,kl,fk,rj];repeat' split
 all_goals first|rfl|simp_all
def agK (a:List UInt8)(a2:Int)(b:Bool)(w:World):(checkKey b 10000 48 (.agg ⟨[.string ⟨⟨a⟩⟩,.int .i64 a2]⟩)).run prog w= .ok () w:=by show(checkKey b (9999+1) 48 (.agg ⟨[.string ⟨⟨a⟩⟩,.int .i64 a2]⟩)).run prog w= .ok () w;unfold checkKey;simp[go_sem,LK,LJ,aes,vQ,Gz]
def SH (xs:aV)(h0:fA xs [1,0]=J):∃a a2,xs=[.string ⟨⟨a⟩⟩,.int .i64 a2]:=by obtain⟨a,_,rfl,b⟩:=kS h0;obtain⟨a2,_,rfl,c⟩:=kI b;cases kN c;exact⟨a,a2,rfl⟩
def abL (c:List UInt8)(a2:Int)(ys:aV)(r0:Bool)(h0:gi [.string ⟨⟨c⟩⟩,.int .i64 a2] ys=C r0):∃a b,ys=[.string ⟨⟨a⟩⟩,.int .i64 b]/\r0=bo (gP c a) (bo (xP a2 b) J U) U:=by obtain⟨_,_,_,_,rfl,d,f,rfl⟩:=mC h0;obtain⟨a,rfl,rfl⟩:=Nz d;obtain⟨_,_,_,_,rfl,e,g,rfl⟩:=mC f;obtain⟨b,rfl,rfl⟩:=pY e;obtain⟨rfl,rfl⟩:=mN g;exact⟨a,b,rfl,rfl⟩
def xm (t:TypeId)(m:String):∀(l:List (TypeId×String×FuncId)){f:FuncId},Co t m l=C f->∃p∈l,p.1=t/\p.2.1=m/\p.2.2=f
 |[],f,h=>by cases h
 |p::l,f,h=>by have h:bo (beq p.1 t&&decide (p.2.1=m)) (C p.2.2) (Co t m l)=C f:=h;rw[dC] at h;split at h;rename_i hb;rw[ep] at hb;exact⟨p,ed,nN hb.1,vR hb.2,dM h⟩;obtain⟨q,b,a⟩:=xm t m l h;exact⟨q,dI _ b,a⟩
def adl:cW aZ prog where
 ty t i h:=(agH t i h).1
 fn f x h:=(aer f x h).1
 Cn:=by kernel_rfl
 aff:=by rw[show aZ.Cn=110 from rfl,underlying110];intro h;cases h
 eqs t xs h ys r hi w:=by refine' zat;obtain⟨rfl,rfl⟩:=h0;obtain⟨a1,a2,a3,rfl⟩:=SF xs hk;obtain⟨b1,b2,b3,rfl,rfl⟩:=abJ a1 a2 a3 ys r hi;exact⟨aiS a1 a2 a3 b1 b2 b3 w,λop ox oy=>run_eqGuard_agg w op 50 ox oy _ _ eqGuardType50⟩;obtain⟨rfl,rfl⟩:=h0;obtain⟨a1,a2,a3,a4,a5,rfl⟩:=SG xs hk;obtain⟨b1,b2,b3,b4,b5,rfl,rfl⟩:=abK a1 a2 a3 a4 a5 ys r hi;exact⟨aiT a1 a2 a3 a4 a5 b1 b2 b3 b4 b5 w,λop ox oy=>run_eqGuard_agg w op 31 ox oy _ _ eqGuardType31⟩;obtain⟨rfl,rfl⟩:=h0;obtain⟨a1,a2,rfl⟩:=SH xs hk;obtain⟨b1,b2,rfl,rfl⟩:=abL a1 a2 ys r hi;exact⟨aiU a1 a2 b1 b2 w,λop ox oy=>run_eqGuard_agg w op 48 ox oy _ _ eqGuardType48⟩
 keys t xs h b w:=by refine' zat;obtain⟨rfl,rfl⟩:=h0;obtain⟨a1,a2,a3,rfl⟩:=SF xs hk;exact agI a1 a2 a3 b w;obtain⟨rfl,rfl⟩:=h0;obtain⟨a1,a2,a3,a4,a5,rfl⟩:=SG xs hk;exact agJ a1 a2 a3 a4 a5 b w;obtain⟨rfl,rfl⟩:=h0;obtain⟨a1,a2,rfl⟩:=SH xs hk;exact agK a1 a2 b w
 zs t i z h hz:=(agH t i h).2 z hz
 ahB t m f h a args w:=by obtain⟨p,hp,h1,h2,h3⟩:=xm t m _ h;cases hp
 afg t m f h a w:=by obtain⟨p,hp,h1,h2,h3⟩:=xm t m _ h;cases hp
def U7 (c:Nat)(z:List UInt8):∀i,wC c z i=match z.findIdx? (λb=>b.toNat== c) with
  |some k=>((i+k:Nat):Int)
  |none=>-1:=by
 induction z with
 |nil=>intro i;rfl
 |cons b bs ih=>
  intro i;have h:wC c (b::bs) i=bo (beq b.toNat c) (.ofNat i) (wC c bs (i+1)):=rfl;rw[h,dC,GA];by_cases hb:b.toNat=c;simp[hb];simp only[lH,hb,ib,ih,rj,jS];cases bs.findIdx? (λb=>b.toNat== c) with
  |none=>rfl
  |some k=>show((i+1+k:Nat):Int)=((i+(k+1):Nat):Int);congr 1;omega
def find_range (c:UInt8):∀(z pre:List UInt8),(List.range' (Y pre) (Y z)).find? (λi=>(⟨⟨pre++z⟩⟩:ByteArray)[i]! == c)=(z.findIdx? (·== c)).map (·+Y pre)
 |[],pre=>by simp
 |b::z,pre=>by
  have ih:=find_range c z (pre++[b]);simp only[dB,fS,jm,kz,iD,jk,kG] at ih;rw[fS,vQ,List.find?_cons,GA];have hb:(⟨⟨pre++b::z⟩⟩:ByteArray)[Y pre]! =b:=by (have d:Y pre<(⟨⟨pre++b::z⟩⟩:ByteArray).size:=by show Y pre<Y (pre++b::z);simp);rw[getElem!_pos (⟨⟨pre++b::z⟩⟩:ByteArray) (Y pre) d];show(pre++b::z)[Y pre]'aq=b;simp
  rw[hb,ih];by_cases a:(b== c)=J;simp[a];simp only[a,ib,jS];cases z.findIdx? (·== c) with
  |none=>rfl
  |some k=>simp;omega
def agL {hk:List (Nat×wD)}(hh:∀p∈hk,nT prog p.1 p.2):WJ aZ prog ⟨170,290,267,99999,5,hk⟩ where
 vT:=hh
 enter f fn c h hc:=((aer f fn h).2 c hc).1
 code f fn c h GX hc:=((aer f fn h).2 c hc).2
 rp x w:=by show(callFunc 170 #[x]).run prog w=_;rw[run_callFunc_extern func170 bV bV bV (e:=Extern.AbiNoEscape.same) bV];rfl
 indexByte z c w hc:=by
  show(callFunc 290 #[.string ⟨⟨z⟩⟩,.int .u8 (.ofNat c)]).run prog w=_;rw[run_callFunc_extern func290 bV bV bV (e:=Extern.BytealgIndexByte.indexByte) bV];rw[run_indexByte_string];have h1:=find_range (UInt8.ofNat c) z [];simp only[jm,kG,wu] at h1;have h2:(z.findIdx? λb=>b.toNat== c)=z.findIdx? (·== UInt8.ofNat c):=by congr 1;funext b;rw[o6];simp only[rj];(have hcc:(UInt8.ofNat c).toNat=c:=by simp[UInt8.toNat_ofNat,xJ hc]);rw[<-tz,hcc]
  have h3:firstIdx ⟨⟨z⟩⟩ (toNat (Int.ofNat c)).toUInt8=wC c z 0:=by
   rw[U7,h2];unfold firstIdx;rw[show(⟨⟨z⟩⟩:ByteArray).size=Y z from rfl,List.range_eq_range'];have h4:(toNat (Int.ofNat c)).toUInt8=UInt8.ofNat c:=rfl;rw[h4,h1];cases z.findIdx? (·== UInt8.ofNat c) with
   |none=>rfl
   |some k=>simp
  rw[h3];rfl
 byte:=by kernel_rfl
 sr fn h n w hn:=by obtain⟨cs,Ta,hle,aiV⟩:=Lib.run_makeNoZero (P:=prog) w #[3] 22 5 underlying22 n aa;refine⟨cs.toList,?_,?_⟩;show(callFunc 267 #[.int .i64 (n:Int)]).run prog w=_;rw[run_callFunc_extern func267 bV bV bV (e:=Extern.BytealgMakeNoZero.makeNoZero #[3] #[22]) bV,Ta];rfl;exact aiV (jR hn cx)
 look fn h b o n c a k g i z w hi hv:=by
  have h0:aZ.fn.get 99999=O:=by kernel_rfl
  have h:aZ.fn.get 99999=C fn:=h;rw[h0] at h;cases h
end Go.Proofs
namespace Go.Ev
open Go Go.Sort Go.Proofs
variable {k:Nat}
def AW {α:Type}{enc:α->aV}(b:0<k)(a:∀x,Y (enc x)=k):∀(l:List α)(t:Nat),(l.flatMap enc)[t]?=(l[t/ k]?).bind λx=>(enc x)[t% k]?
 |[],t=>by simp
 |x::l,t=>by rw[mR];by_cases ht:t<k;rw[tw (by rwa[a]),Nat.div_eq_of_lt ht,xJ ht];rfl;obtain⟨u,rfl⟩:∃u,t=u+k:=⟨t-k,aa⟩;rw[wv (by rw[a];omega),a,Nat.add_sub_cancel,AW b a l u,Nat.add_div_right _ b,Nat.add_mod_right];rfl
def oQ {α:Type}{enc:α->aV}(a:∀x,Y (enc x)=k):∀l:List α,Y (l.flatMap enc)=Y l*k
 |[]=>by simp
 |x::l=>by rw[mR,dB,a,oQ a l,fS,Nat.succ_mul];omega
def Ew {α:Type}[Inhabited α]{enc:α->aV}(b:0<k)(a:∀x,Y (enc x)=k)(l:List α):flatK enc k l.toArray=(l.flatMap enc).toArray:=by
 apply ext_get!;rw[size_flatK];simp[oQ a];intro t ht;rw[size_flatK] at ht;have c:t<Y l*k:=ht;rw[get_flatK _ _ _ _ ht];have hd:t/ k<Y l:=(Nat.div_lt_iff_lt_mul b).2 c;have d:=AW b a l t;rw[c8 hd] at d;have hm:t% k<Y (enc l[t/ k]):=by rw[a];exact xG _ b
 have e:(l.flatMap enc)[t]?=C (enc l[t/ k])[t% k]:=d.trans (c8 hm);obtain⟨f,g⟩:=qS.1 e;rw[show(l.flatMap enc).toArray[t]! =(l.flatMap enc)[t] from getElem!_pos (l.flatMap enc).toArray t (by simpa using f),g];rw[show(l.toArray)[t/ k]! =l[t/ k] from getElem!_pos l.toArray _ (by simpa using hd)];exact getElem!_pos (enc l[t/ k]) _ hm
def F3 (o:Nat)(new c rest:aV)(h:o+Y new<=Y c):putCells id o new.toArray ⟨c++rest⟩=⟨c.take o++new++c.drop (o+Y new)++rest⟩:=by
 apply xD;unfold putCells;rw[Array.toList_mapIdx];apply Gt;intro j;rw[List.getElem?_mapIdx];show Option.map _ (c++rest)[j]?=(c.take o++new++c.drop (o+Y new)++rest)[j]?;have d:new.toArray.size=Y new:=rfl;have b:Y (c.take o)=o:=by rw[de];omega
 have a:Y (c.take o++new)=o+Y new:=by rw[dB,b]
 have e:Y (c.take o++new++c.drop (o+Y new))=Y c:=by rw[dB,a,fq];omega
 by_cases f:j<Y c;rw[tw f,tw (by rw[e];exact f)];by_cases g:j<o;rw[tw (by rw[a];omega),tw (by rw[b];exact g),xI,ai g,c8 f];show C (if o<=j/\j<o+new.toArray.size then _ else c[j])=_;rw[af aa];by_cases i:j<o+Y new;rw[tw (by rwa[a]),wv (by rw[b];omega),b,c8 f,c8 aa];show C (if o<=j/\j<o+new.toArray.size then id new.toArray[j-o]! else c[j])=_;rw[ai ⟨aa,by rwa[d]⟩];exact congrArg C (getElem!_pos new.toArray (j-o) (by rw[d];omega));rw[wv (by rw[a];omega),a,Cg,show o+Y new+(j-(o+Y new))=j by omega,c8 f];show C (if o<=j/\j<o+new.toArray.size then _ else c[j])=_;rw[af (by rw[d];omega)];rw[wv aa,wv (by rw[e];omega),e];cases hr:rest[j-Y c]? with
 |none=>rfl
 |some x=>show C (if o<=j/\j<o+new.toArray.size then _ else x)=_;rw[af (by rw[d];omega)]
def Qs {α:Type}[Inhabited α]{enc:α->aV}(i:0<k)(f:∀x,Y (enc x)=k){w:World}{bC o m:Nat}{l:List α}{os:Array Obj}{c rest:aV}{e:TypeId}{fr:Nat×Nat}(hb:w.heap[bC]?=C (.cells ⟨c++rest⟩ e fr))(g:o+Y l*k<=Y c):
  (sortWorldK enc k w bC o m l.toArray os).heap[bC]?=C (.cells ⟨c.take o++l.flatMap enc++c.drop (o+Y l*k)++rest⟩ e fr)/\Fr w (sortWorldK enc k w bC o m l.toArray os) λr=>r=bC:=by have b:bC<w.heap.size:=(tJ.1 hb).1;have a:(sortWorldK enc k w bC o m l.toArray os).heap=w.heap.modify bC (onCells (putCells id o (flatK enc k l.toArray)))++os:=rfl;have hl:=oQ f l;refine⟨?_,rfl,rfl,rfl,?_,λr hr d=>?_⟩;rw[a,Rq (by rw[Array.size_modify];exact b),Cc,ai rfl,hb,Ew i f];show C (onCells _ (.cells ⟨c++rest⟩ e fr))=_;show C (Obj.cells (putCells id o (l.flatMap enc).toArray ⟨c++rest⟩) e fr)=_;rw[F3 o _ c rest (by rw[hl];exact g),hl];rw[a,Array.size_append,Array.size_modify];omega;rw[a,Rq (by rwa[Array.size_modify]),Cc,af (λh=>d h.symm)]
def Y9 {α:Type}[Inhabited α]{P:Program}{f g k:Nat}{dec:aV->Option (List α)}{enc:α->aV}{sort:List α->List α}{apart:List α->Bool}(hp:0<k)(R:∀x,Y (enc x)=k)(D:∀cs l,dec cs=C l->cs=l.flatMap enc)(hg:∀x,∀v∈enc x,∀ρ,bZ ρ v=v)(cg:∀l,Y (sort l)=Y l)
  (Z:∀(bC off cap:Nat)(l:List α)(w:World),apart l=J->HoldsK enc k w bC off l.toArray->bC<w.heap.size->Y l<=1000000->js P f #[.slice (C ⟨bC,off,O⟩) (Y l) cap,.func (.func g) #[] #[]] w λv w'=>v= .tuple #[]/\∃m os,w'=sortWorldK enc k w bC off m (sort l).toArray os)
  (H0:∀w:World,js P f #[.slice O 0 0,.func (.func g) #[] #[]] w λv w'=>v= .tuple #[]/\Fr w w' λ_=>False):nT P f (RN g k dec enc sort apart):=by
 intro args s v s' h;unfold RN at h;split at h;rotate_left;rename_i g';obtain⟨z,h⟩:=bw h;cases aF h;have q:=nN z;subst q;refine⟨ay.refl _,λX A ρ w p a F hl=>?_⟩;have:=hl.ground (λx i ρ=>by simp only[cA,k6,k7] at i;obtain rfl|rfl:=i<;>simp);subst this;exact(H0 w).mono λv' w' ⟨hv,hf⟩=>by subst hv;exact⟨ρ,VR.ground λρ=>by simp,Good.Pd a.st a.dr rfl rfl hf⟩
 cases h;rename_i b o n cap g';obtain⟨z,h⟩:=bw h;obtain⟨c,e,u,hb,h⟩:=mq h;obtain⟨T,h⟩:=bw h;obtain⟨l,h3,h⟩:=aG h;obtain⟨W,h⟩:=bw h;cases aF h;rw[ep,ep] at z;rw[ep] at W;have q:=nN z.1.1;subst q;have hn1:n<=1000000:=xA z.2;have hln:=nN W.2;subst hln;have T:o+Y l*k<=Y c:=xA T;have hcs:=D _ _ h3;have E:∀l:List α,∀v∈l.flatMap enc,∀ρ,bZ ρ v=v:=λl v hv ρ=>by obtain⟨x,_,i⟩:=kZ.1 hv;exact hg x v i ρ
 have hbn:(s.aL b).heap.get b≠O:=by rw[eT,hb];exact Option.some_ne_none _
 have hgr:ay s ((s.aL b).put b (C (.cells (c.take o++(sort l).flatMap enc++c.drop (o+Y l*k)) e u))):=(ay.aL s b).trans (ay.put _ _ _ hbn);refine⟨hgr,λX A ρ w p a F hl=>?_⟩;obtain⟨x',r,rfl,i,hr⟩:=hl.iP;obtain⟨y',N,rfl,hy,Th⟩:=hr.iP;have:N=[]:=jG (by simpa using Th.akc);subst this;have hy':y'= .func (.func g) ⟨[]⟩ ⟨[]⟩:=by rw[<-hy.self];simp
 rw[i.gj,hy'];have B:X b:=a.cC b (eL _ _ _);obtain⟨hA,c',rest,fr,S,N,r3,r4,r5,r6⟩:=a.st.row B hb;have t:(c'.drop o).take (Y l*k)=l.flatMap enc:=by have h5:=((N.drop o).take (Y l*k)).self;rw[<-h5,hcs];exact(qo λx i=>E l x i ρ).trans (Cf _)
 have hH:HoldsK enc k w (ρ b).1 o l.toArray:=by
  intro j hj;rw[size_flatK] at hj;have G:j<Y l*k:=hj;have hoj:o+j<Y c':=by rw[r3];omega
  refine⟨?_,?_⟩;rw[sx S,tw hoj,Ew hp R];have h6:(c'.drop o).take (Y l*k)=l.flatMap enc:=t;(have h7:((c'.drop o).take (Y l*k))[j]?=c'[o+j]?:=by rw[xI,ai G,Cg]);rw[<-h7,h6];(have K:j<Y (l.flatMap enc):=by rwa[oQ R]);rw[c8 K];exact congrArg C (getElem!_pos (l.flatMap enc).toArray j K).symm;obtain⟨lo,hi⟩:=fr;show(match w.heap[(ρ b).1]? with|C (.cells _ _ (lo,hi))=>decide (lo<=o+j)&&decide (o+j<hi)|_=>U)=U;rw[S];rw[rh,mW,mW];obtain Q|Q:=r4;simp only[cu] at Q;omega;rw[dB] at Q;dsimp only at Q;omega
 refine(Z _ _ _ l w W.1 hH (tJ.1 S).1 hn1).mono λv' w' ⟨hv,m,os,hw⟩=>?_;subst hv hw;have y:=cg l;have V:o+Y (sort l)*k<=Y c':=by rw[y,r3];exact T
 obtain⟨s1,s2⟩:=Qs (m:=m) (l:=sort l) (os:=os) hp R S V;refine⟨ρ,VR.ground λρ=>by simp,Good.bz (o':=.cells (c.take o++(sort l).flatMap enc++c.drop (o+Y l*k)) e u) a.st a.dr B hb (λd=>?_) ?_ ?_ s1 ?_ s2⟩;rw[qs,eT];rw[dn,bh];exact ix _ _ _;have L:Y (c.take o++(sort l).flatMap enc++c.drop (o+Y l*k))=Y c:=by rw[dB,dB,de,fq,oQ R,y];omega
 refine⟨_,rest,fr,by rw[y],?_,λhu=>?_,λhu=>?_⟩;exact((N.take o).append (λer _=>(qo λx i=>E _ x i er).trans (Cf _))).append (N.drop _);rw[L];exact r5 hu;rw[L];exact r6 hu
end Go.Ev
namespace Go.Proofs
open Go Go.Shelf Go.RowKit Go.Lib Go.Sort Go.Ev
set_option maxHeartbeats 1000000 in
def abM (x y:Pl.cB)(W:World):Calls prog 89 #[.agg (pJ x).toArray,.agg (pJ y).toArray] W λe w'=>e= .returned (.int .i64 (Lib.compareBytes x.ar y.ar))/\∃q b,w'=grow (W.drewN q) b:=by have a:=λc=>Any.strings_Compare abI ⟨⟨x.ar⟩⟩ ⟨⟨y.ar⟩⟩ c;change ∀c,Calls prog 90 _ _ _ at a;change Calls prog 89 #[.agg #[.string ⟨⟨x.ar⟩⟩,.int .i64 x.id],.agg #[.string ⟨⟨y.ar⟩⟩,.int .i64 y.id]] W _;generalize Lib.compareBytes x.ar y.ar=r at a⊢;go_enter func89,ntmps89;go_wp2_with (go_at_call 90;refine(a _).mono ?_;rintro e w' ⟨rfl,rfl⟩);go_ret;exact⟨rfl,0,_,by rw[alloc_eq_grow,alloc_eq_grow,grow_grow];rfl⟩
def aet:∀a b:List UInt8,Lib.compareBytes a b=ya a b
 |[],[]=>rfl
 |[],_::_=>rfl
 |_::_,[]=>rfl
 |x::a,y::b=>by have ih:=aet a b;unfold ya at ih⊢;unfold Lib.compareBytes;rw[Pl.pK,Pl.pK,ih];by_cases c:x.toNat<y.toNat;rw[ai (Gs.2 c),ai c];rfl;rw[af (λh=>c (Gs.1 h)),af c];by_cases d:y.toNat<x.toNat;rw[ai (Gs.2 d),ai d,af c,ai d];rfl;rw[af (λh=>d (Gs.1 h)),af d,af d,af c]
def ltF (x y:Pl.cB):ltOf (λx y:Pl.cB=>Lib.compareBytes x.ar y.ar) x y=Pl.bP x.ar y.ar:=by
 show decide (Lib.compareBytes x.ar y.ar<0)=_;rw[aet];unfold ya;cases h:Pl.bP x.ar y.ar with
 |true=>rfl
 |false=>cases a:Pl.bP y.ar x.ar<;>rfl
def aiW:SWO (ltOf λx y:Pl.cB=>Lib.compareBytes x.ar y.ar) where
 irrefl x:=by rw[ltF];exact Pl.kg _
 trans x y z h1 h2:=by rw[ltF] at *;exact Pl.fW _ _ _ h1 h2
 ntrans x y z h1 h2:=by
  rw[ltF] at *
  cases h3:Pl.bP y.ar x.ar with
  |false=>rwa[Pl.mF _ _ h1 h3]
  |true=>
   cases h4:Pl.bP x.ar z.ar with
   |false=>rfl
   |true=>rw[Pl.fW _ _ _ h3 h4] at h2;cases h2
instance aj3:Inhabited Pl.cB:=⟨⟨[],0⟩⟩
def abN {α:Type}[Inhabited α]{l:List α}{d:Array α}(h:PermIn 0 l.toArray.size l.toArray d):d.size=Y l/\d.toList.Perm l:=by obtain⟨a,_,b⟩:=h;have a:d.size=Y l:=a;refine⟨a,?_⟩;rw[show(d.extract 0 l.toArray.size)=d by rw[show l.toArray.size=d.size from a.symm];exact Array.extract_size,show l.toArray.extract 0 l.toArray.size=l.toArray from Array.extract_size] at b;exact b
def abO {α:Type}[Inhabited α]{d:Array α}{n:Nat}(hn:d.size=n){lt:α->α->Bool}(h:SortedIn lt 0 n d):d.toList.Pairwise λx y=>lt y x=U:=by rw[Gm];intro i j hi e b;have a:i<d.size:=hi;have c:j<d.size:=e;have:=h i j (jl _) b aa;rwa[getElem!_pos d i a,getElem!_pos d j c] at this
def Ii {α β:Type}{key:α->β}{R S:α->α->Prop}:∀{l:List α},(l.map key).Nodup->l.Pairwise R->(∀x y,R x y->key x≠key y->S x y)->l.Pairwise S
 |[],_,_,_=>KM
 |x::l,hn,g,h=>by obtain⟨b,c⟩:=tM.1 hn;obtain⟨d,f⟩:=qQ.1 g;exact qQ.2 ⟨λy a=>h x y (d y a) λe=>b (by rw[e];exact List.mem_map_of_mem a),Ii c f h⟩
def abP {l:List Pl.cB}(ha:CN l=J){d:Array Pl.cB}(j:PermIn 0 l.toArray.size l.toArray d)(hs:SortedIn (ltOf λx y:Pl.cB=>Lib.compareBytes x.ar y.ar) 0 l.toArray.size d):d=(lW l).toArray:=by
 obtain⟨f,e⟩:=abN j;have hn:(l.map (·.ar)).Nodup:=vR ha;have b:(d.toList.map (·.ar)).Nodup:=(e.map _).nodup_iff.2 hn;have g:=abO (n:=l.toArray.size) f hs;have h:Pl.rI d.toList:=Ii (key:=λx:Pl.cB=>x.ar) b g λx y a c=>by
  rw[ltF] at a;cases i:Pl.bP x.ar y.ar with
  |true=>rfl
  |false=>exact absurd (Pl.mF _ _ i a) c
 have:=Pl.xj d.toList (lW l) h (Pl.sS l hn) λx=>by rw[Pl.lA];exact e.mem_iff
 rw[<-this]
def Ij (x:Pl.cB):∀l,Y (uo x l)=Y l+1
 |[]=>rfl
 |y::l=>by unfold uo;split;rfl;rw[fS,Ij x l,fS]
def Ey:∀l,Y (lW l)=Y l
 |[]=>rfl
 |x::l=>by show(uo x (lW l)).length=_;rw[Ij,Ey l,fS]
def abQ:∀(cs:aV)(l:List Pl.cB),Tt cs=C l->cs=l.flatMap pJ:=by
 intro cs;fun_induction Tt cs with
 |case1=>intro l h;cases h;rfl
 |case2 z i cs ih=>
  intro l h;obtain⟨b,a,rfl⟩:=Gy.1 h;rw[ih b a];rfl
 |case3=>intro l h;cases h
def abR (x:Pl.cB):∀v∈pJ x,∀ρ,bZ ρ v=v:=λv hv ρ=>by simp only[pJ,cA,k6,k7] at hv;obtain rfl|rfl:=hv<;>simp[bZ]
def aiX (x:Pl.cB):∀v∈pJ x,v.oneCell'=J:=λv hv=>by simp only[pJ,cA,k6,k7] at hv;obtain rfl|rfl:=hv<;>rfl
def mixed:prog.follows .mixedOrders=J:=by kernel_rfl
noncomputable def agM:fb:=⟨170,290,267,99999,5,[]⟩
def st0:St:=⟨.nil,16,0,0⟩
noncomputable def adm (f:Nat)(args:aV)(v:Value):Bool:=match qv aZ agM 100000 [] 200 f args st0 with
 |C (u,_)=>Fo u v
 |none=>U
def agN:dW prog (qv aZ agM 100000 [] 200):=CL adl (agL λ_ h=>by cases h) mixed 100000 (tab:=[]) (λe a=>by cases a) 200
def runs {f:Nat}{args:aV}{v:Value}(h:adm f args v=J)(hv:∀ρ,bZ ρ v=v)(ha:∀x∈args,∀ρ,bZ ρ x=x)(w:World):js prog f ⟨args⟩ w λv' w'=>v'=v/\Fr w w' λ_=>False:=by unfold adm at h;split at h;rename_i u a hc;have:=WL _ _ h;subst this;exact run_pure agN (fG _) hc hv ha w;cases h
def aeu (w:World):js prog 88 #[.slice O 0 0,.func (.func 89) #[] #[]] w λv w'=>v= .tuple #[]/\Fr w w' λ_=>False:=
 runs (args:=[.slice O 0 0,.func (.func 89) ⟨[]⟩ ⟨[]⟩]) (v:=.tuple ⟨[]⟩) bV (λρ=>by simp) (λx a ρ=>by simp only[cA,k6,k7] at a;obtain rfl|rfl:=a<;>simp) w
def aev (w:World):js prog 91 #[.slice O 0 0,.func (.func 92) #[] #[]] w λv w'=>v= .tuple #[]/\Fr w w' λ_=>False:=
 runs (args:=[.slice O 0 0,.func (.func 92) ⟨[]⟩ ⟨[]⟩]) (v:=.tuple ⟨[]⟩) bV (λρ=>by simp) (λx a ρ=>by simp only[cA,k6,k7] at a;obtain rfl|rfl:=a<;>simp) w
def U8:nT prog 88 (WT 89):=Y9 cx (λ_=>rfl) abQ abR Ey (λbC off cap l w ha a hb hl=>by have h:=AnyQ.slices_SortFunc lW 2 isAgg48 sizeOf48 pJ (λ_=>rfl) aiX (λx y=>Lib.compareBytes x.ar y.ar) aiW 89 #[] bC off cap l.toArray w (λargs w=>call89 args w) (λm os g hs x y=>abM x y _) a hb (by show Y l<_;omega);change Calls prog 88 _ _ _ at h;refine .inr ⟨88,_,w,call88 _ w,h.mono λe w' ⟨b,f,m,os,c,hs,d⟩=>⟨_,b,rfl,m,os,?_⟩⟩;rw[d,abP ha c hs]) aeu
def U9:nT prog 91 (Ph 92):=yx λargs s v s' h=>by unfold Ph at h;split at h;rotate_left;cases h;obtain⟨b,h⟩:=bw h;cases aF h;cases nN b;exact⟨rfl,λρ=>by simp,λx a ρ=>by simp only[cA,k6,k7] at a;obtain rfl|rfl:=a<;>simp,aev⟩
def yV {w w':World}(h:Below w.heap.size w w'):Fr w w' λ_=>False:=⟨h.os,h.tape,h.output,h.size,λr hr _=>h.block r hr⟩
def Ez (z:ByteArray)(ρ:iw):bZ ρ (.string z)= .string z:=by simp[bZ]
def NA:nT prog 151 CO:=yx λargs s v s' h=>by unfold CO at h;split at h;rotate_left;cases h;rename_i a b;cases aF h;refine⟨rfl,λρ=>ry _ _ _,λx d ρ=>?_,λw=>?_⟩;simp only[cA,k6,k7] at d;obtain rfl|rfl:=d<;>exact Ez _ _;have c:=Any.bytealg_CompareString abH ⟨⟨a⟩⟩ ⟨⟨b⟩⟩ w;change Calls prog 151 _ _ _ at c;refine .inr ⟨151,_,w,call151 _ w,c.mono λe w' ⟨f,g⟩=>⟨_,f,?_,by rw[g];exact Fr.refl _ _⟩⟩;exact congrArg (Value.int .i64) (aet a b)
def Za (z:List UInt8):∀n,Lib.repeatL z n=FH z n
 |0=>rfl
 |n+1=>by unfold Lib.repeatL FH;rw[Za z n]
def Qt:nT prog 108 Jd:=yx λargs s v s' h=>by unfold Jd at h;split at h;rotate_left;cases h;rename_i z n;obtain⟨h0,h⟩:=bw h;cases aF h;rw[ep] at h0;have f:Y z*n<=1000000:=xA h0.1;have g:n<=1000000:=xA h0.2;refine⟨rfl,λρ=>Ez _ _,λx b ρ=>?_,λw=>?_⟩;simp only[cA,k6,k7] at b;obtain rfl|rfl:=b;exact Ez _ _;exact ry _ _ _;have a:=Any.strings_Repeat yT Tryz.yU ⟨⟨z⟩⟩ n w aa (by show Y z*n<=_;omega);change Calls prog 108 _ _ _ at a;refine .inr ⟨108,_,w,call108 _ w,a.mono λe w' ⟨c,d⟩=>⟨_,c,?_,yV d⟩⟩;rw[show Lib.repeatL (⟨⟨z⟩⟩:ByteArray).data.toList n=FH z n from Za z n]
def Va:nT prog 270 Pj:=yx λargs s v s' h=>by
 unfold Pj at h;split at h;rotate_left;cases h;rename_i z c;obtain⟨h0,h⟩:=bw h;cases aF h;have hc:c<256:=xA h0;refine⟨rfl,λρ=>ry _ _ _,λx d ρ=>?_,λw=>?_⟩;simp only[cA,k6,k7] at d;obtain rfl|rfl:=d;exact Ez _ _;exact ry _ _ _;refine .inl ⟨_,w,?_,rfl,Fr.refl _ _⟩;rw[run_callFunc_extern func270 bV bV bV (e:=Extern.BytealgCount.count) bV,run_countString];have a:(UInt8.ofNat c).toNat=c:=by simp[xJ hc]
 have f:(toNat (Int.ofNat c)).toUInt8=UInt8.ofNat c:=rfl;have g:Lib.countByte z (UInt8.ofNat c)=dJ (z.filter λb=>beq b.toNat c):=by unfold Lib.countByte;rw[cR,List.count_eq_length_filter];congr 1;apply Rt;intro b _;rw[o6];simp only[rj,lH];rw[<-tz,a]
 show Result.andThen (Result.ok _ w) _=_;rw[f];show Result.ok (Next.value (.int .i64 ((Lib.countByte z (UInt8.ofNat c):Nat):Int))) w=_;rw[g];rfl
def EA (z:List UInt8):∀l:List (List UInt8),Lib.join l z=eQ z l
 |[]=>rfl
 |[x]=>by show(([x]:List (List UInt8)).intersperse z).flatten=x;simp
 |x::y::l=>by have ih:=EA z (y::l);show((x::y::l).intersperse z).flatten=x++(z++eQ z (y::l));rw[<-ih];show(x::z::(y::l).intersperse z).flatten=x++(z++((y::l).intersperse z).flatten);rw[GI,GI]
def abS:∀(cs:aV)(l:List Pl.aw),Lt cs=C l->cs=l.map λz=>.string ⟨⟨z⟩⟩:=by
 intro cs;fun_induction Lt cs with
 |case1=>intro l h;cases h;rfl
 |case2 z cs ih=>
  intro l h;obtain⟨b,a,rfl⟩:=Gy.1 h;rw[ih b a];rfl
 |case3=>intro l h;cases h
def abT (z:List UInt8)(w:World):js prog 99 #[.slice O 0 0,.string ⟨⟨z⟩⟩] w λv w'=>v= .string ⟨⟨[]⟩⟩/\Fr w w' λ_=>False:=by have h:=Any.strings_Join_none J5 Tryz.nB O 0 ⟨⟨z⟩⟩ w;change Calls prog 99 _ _ _ at h;exact .inr ⟨99,_,w,call99 _ w,h.mono λe w' ⟨a,b⟩=>⟨_,a,rfl,by rw[b];exact Fr.refl _ _⟩⟩
def Zb:nT prog 99 (WU 9):=by
 intro args s v s' h;unfold WU at h;split at h;rotate_left;rename_i z;cases aF h;refine⟨ay.refl _,λZ A ρ w i a Q hl=>?_⟩;have:=hl.ground (λx p ρ=>by simp only[cA,k6,k7] at p;obtain rfl|rfl:=p;simp[bZ];exact Ez _ _);subst this;exact(abT z w).mono λF w' ⟨hv,hf⟩=>by subst hv;exact⟨ρ,VR.ground λρ=>Ez _ _,Good.Pd a.st a.dr rfl rfl hf⟩
 cases h;rename_i b o n cap z;obtain⟨c,e,u,hb,h⟩:=mq h;obtain⟨h1,h⟩:=bw h;obtain⟨l,h3,h⟩:=aG h;obtain⟨G,h⟩:=bw h;cases aF h;rw[ep,ep,ep] at h1;obtain⟨⟨⟨k1,k2⟩,W⟩,k4⟩:=h1;have k1:o+n<=Y c:=xA k1;have W:1<=n:=xA W;have k4:n<=1000:=xA k4;have G:Y (eQ z l)<=1000000:=xA G;have B:=abS _ _ h3;have D:Y l=n:=by have:=congrArg List.length B;rw[de,fq,fH] at this;omega
 refine⟨ay.aL s b,λZ A ρ w i a Q hl=>?_⟩;obtain⟨x',r,rfl,p,hr⟩:=hl.iP;obtain⟨y',r2,rfl,hy,S⟩:=hr.iP;have:r2=[]:=jG (by simpa using S.akc);subst this;have V:y'= .string ⟨⟨z⟩⟩:=by rw[<-hy.self];exact Ez _ _
 rw[p.gj,V];have K:Z b:=a.cC b (eP s b);obtain⟨hA,c',rest,fr,r1,r2,r3,r4,r5,r6⟩:=a.st.row K hb;have k:(c'.drop o).take n=l.map λz=>.string ⟨⟨z⟩⟩:=by have h5:=((r2.drop o).take n).self;rw[<-h5,B];exact(qo λx p=>by obtain⟨q,_,rfl⟩:=qj.1 p;exact Ez _ _).trans (Cf _)
 have d:∀(j:Nat)(q:List UInt8),l[j]?=C q->w.cell? ⟨(ρ b).1,o+j,O⟩=C (.string ⟨⟨q⟩⟩):=λj q g=>by
  have R:j<n:=by rw[<-D];exact(qS.1 g).1
  have h7:((c'.drop o).take n)[j]?=c'[o+j]?:=by rw[xI,ai R,Cg]
  rw[sx r1,tw (by rw[r3];omega),<-h7,k,mP,g];rfl
 have y:n<=cj (ρ b) cap:=by
  unfold cj;rw[km,ep,ep,ep] at k2;obtain⟨t,E⟩|⟨⟨t,E⟩,X⟩:=k2;have t:cap<cl:=xA t;rw[af aa];exact xA E;have t:cl<=cap:=xA t;have E:=nN E;have X:=nN X;subst X;rw[ai t,<-E];have k8:prog.cellsOf 9=1:=by kernel_rfl
  cases u with
  |true=>have:=(r5 rfl).2.1;rw[k8] at this;omega
  |false=>have:=(r6 rfl).2;omega
 have L:(ρ b).1<w.heap.size:=(tJ.1 r1).1;have f:∀(F:Value)(w':World),F= .string ⟨⟨eQ z l⟩⟩->(Fr w w' λ_=>False)->oT prog Z A ρ s (s.aL b) w (.string ⟨⟨eQ z l⟩⟩) F w':=λF w' e hf=>by subst e;exact⟨ρ,VR.ground λρ=>Ez _ _,Good.Pd a.st a.dr (bh _ _) (eT _ _) hf⟩
 subst D;by_cases h2:2<=Y l;have g:(l.map λz=>(⟨⟨z⟩⟩:ByteArray)).map (·.data.toList)=l:=by rw[Gp];exact Cf _
 have m:=Any.strings_Join_many J5 Tryz.nB (ρ b).1 o (cj (ρ b) cap) (l.map λz=>⟨⟨z⟩⟩) ⟨⟨z⟩⟩ w (λj x g=>by
  rw[mP] at g;obtain⟨q,h8,rfl⟩:=Gy.1 g;exact d j q h8) L (by rwa[fH]) (by rw[fH];omega) (by rw[fH];exact y) (by
  rw[g,EA];exact jR G cx)
 rw[g,EA,fH] at m;change Calls prog 99 _ _ _ at m;exact .inr ⟨99,_,w,call99 _ w,m.mono λe w' ⟨N,T⟩=>⟨_,N,f _ _ rfl (yV T)⟩⟩;obtain⟨q,rfl⟩:∃q,l=[q]:=by
  cases l with
  |nil=>simp at W
  |cons q l=>cases l with
   |nil=>exact⟨q,rfl⟩
   |cons _ _=>simp at h2
 have m:=Any.strings_Join_one J5 Tryz.nB (ρ b).1 o (cj (ρ b) cap) ⟨⟨q⟩⟩ ⟨⟨z⟩⟩ w (d 0 q rfl);change Calls prog 99 _ _ _ at m;exact .inr ⟨99,_,w,call99 _ w,m.mono λe w' ⟨N,T⟩=>⟨_,N,f _ _ rfl (by rw[T];exact Fr.refl _ _)⟩⟩
end Go.Proofs
namespace Go.Pg
open Go.Pl
variable {s:aw}{n:Nat}
def EB:∀(n:Nat)(s:aw),Y s=n->s≠[]->(∀c∈s,gR c=J)->(1<Y s->s.headD 0≠48)->fu (numOf s)=s
 |0,s,h,hn,_,_=>absurd (jG h) hn
 |n+1,s,h,hn,hd,i=>by
  have a:=Ru hn;generalize hc:s.getLast hn=c at a;generalize ht:s.dropLast=t at a;have b:gR c=J:=hd c (by rw[<-a];simp);simp only[gR,ep,gv] at b;rw[<-a,zw];have d:Y t=n:=by have:=congrArg List.length a;simp at this;omega
  cases t with
  |nil=>have h0:numOf []=0:=rfl;rw[h0,qB aa];simp only[kG,Nat.mul_zero,kz];congr 1;apply tz.1;rw[PA aa];omega
  |cons x t=>(have e:x≠48:=by have:=i (by rw[<-a];simp);rw[<-a] at this;simpa using this);have hs:Y (x::t)=n:=d;have ih:=EB n (x::t) hs aq (λc hc=>hd c (by rw[<-a];exact im _ hc)) (λ_=>by simpa using e);(have j:1<=numOf (x::t):=by obtain h0|h0:=tG (numOf (x::t));rw[h0,qB aa] at ih;have:=(KU ih).1;exact absurd this.symm e;exact h0);rw[vm aa];(have f:(10*numOf (x::t)+(c.toNat-48))/ 10=numOf (x::t):=by omega);(have g:(10*numOf (x::t)+(c.toNat-48))% 10=c.toNat-48:=by omega);rw[f,g,ih];congr 1;congr 1;apply tz.1;rw[PA aa];omega
def Zc (p:UInt8->Bool):∀(s:aw)(c:UInt8),c∈s.takeWhile p->p c=J
 |[],c,h=>by cases h
 |x::s,c,h=>by rw[xL] at h;split at h;rename_i a;obtain rfl|h:=cA.1 h;exact a;exact Zc p s c h;cases h
def wh (p:UInt8->Bool):∀s:aw,∃r,s=s.takeWhile p++r
 |[]=>⟨[],rfl⟩
 |x::s=>by rw[xL];split;obtain⟨r,hr⟩:=wh p s;exact⟨r,by rw[jk,<-hr]⟩;exact⟨x::s,rfl⟩
def Vb (h:Y (lU s)=Y s):lU s=s/\Y s<=9/\∀c∈s,gR c=J:=by
 obtain⟨r,hr⟩:=wh gR (s.take 9);have a:Y (lU s)<=Y (s.take 9):=by unfold lU;exact(KV _).length_le
 have b:Y (s.take 9)<=9:=by rw[de];omega
 have d:Y (s.take 9)<=Y s:=by rw[de];omega
 have hs:s.take 9=s:=za aa;have hd:lU s=s:=by
  unfold lU;rw[hs] at hr⊢;have hl:=congrArg List.length hr;rw[dB] at hl;have e:Y (s.takeWhile gR)=Y s:=by unfold lU at h;rwa[hs] at h
  have:r=[]:=jG aa;rw[this,fT] at hr;exact hr.symm
 refine⟨hd,aa,λc hc=>?_⟩;rw[<-hd] at hc;unfold lU at hc;exact Zc gR _ c hc
def uM:∀(n:Nat)(s:aw),Y s=n->(∀c∈s,gR c=J)->numOf s<10^ n
 |0,s,h,_=>by rw[jG h];decide
 |n+1,s,h,hd=>by
  have hn:s≠[]:=by rintro rfl;cases h
  have a:=Ru hn;have hl:Y s.dropLast=n:=by rw[List.length_dropLast];omega
  have hc:=hd _ (List.getLast_mem hn);simp only[gR,ep,gv] at hc;have ih:=uM n s.dropLast hl λc hc=>hd c (List.dropLast_subset s hc);rw[<-a,zw,qm];omega
def hZ (h:aA s=C n):s=fu n/\n<1000000000:=by
 unfold aA kA at h;dsimp only at h;by_cases c:1<Y (lU s)/\s.headD 0=48;rw[ai c] at h;dsimp only at h;by_cases d:Y s=1;(have:Y (lU s)<=Y (s.take 9):=by unfold lU;exact(KV _).length_le);(have g:Y (s.take 9)<=Y s:=by rw[de];omega);omega;rw[ai (.inr aa)] at h;cases h;rw[af c] at h;dsimp only at h;split at h;cases h;rename_i hc;have hl:Y (lU s)=Y s:=by obtain b|b:=Nat.decEq (Y (lU s)) (Y s);exact absurd (.inr b) hc;exact b
 (have a:s≠[]:=by rintro rfl;exact hc (.inl (by rw[hl];rfl)));obtain⟨hd,f,ha⟩:=Vb hl;have:=dM h;subst this;rw[hd];refine⟨(EB (Y s) s rfl a ha λd e=>c ⟨aa,e⟩).symm,vF (uM (Y s) s rfl ha) (Rr aa f)⟩
def pZ:aA s=C n↔s=fu n/\n<1000000000:=⟨hZ,λ⟨h,a⟩=>h▸qC a⟩
def Zd (c:UInt8):∀s:aw,cut c s≠[]
 |[]=>by simp[cut]
 |x::s=>by unfold cut;split;simp;cases cut c s<;>simp
def EC (c:UInt8):∀s:aw,gp c (cut c s)=s
 |[]=>rfl
 |x::s=>by
  have ih:=EC c s;unfold cut;split;rename_i h;subst h;cases hs:cut x s with
  |nil=>exact absurd hs (Zd x s)
  |cons w r=>rw[hs] at ih;rw[gp,kG,ih];intro e;cases e
  cases hs:cut c s with
  |nil=>exact absurd hs (Zd c s)
  |cons w r=>
   rw[hs] at ih;cases r with
   |nil=>simp only[gp] at ih⊢;rw[ih]
   |cons y r=>simp only[gp] at ih⊢;rw[jk,ih]
def AX {a b c d e:aw}{f g i j k:Nat}(hs:s≠[45])(hc:cut 46 s=[a,b,c,d,e])(h1:aA a=C f)(h2:aA b=C g)(l:aA c=C i)(m:aA d=C j)(o:aA e=C k):
  cy s=if b9 ⟨f,g,i,j,k⟩=s then C ⟨f,g,i,j,k⟩ else O:=by
 unfold cy;rw[af hs,hc];dsimp only;rw[h1,h2,l,m,o];dsimp only;have q:=EC 46 s;rw[hc,(hZ h1).1,(hZ h2).1,(hZ l).1,(hZ m).1,(hZ o).1] at q;cases r:aQ ⟨f,g,i,j,k⟩ with
 |false=>
  have:b9 ⟨f,g,i,j,k⟩=[]:=by unfold b9;rw[r];rfl
  rw[this,ai aq,af];rintro rfl;simp[cut] at hc
 |true=>
  cases p:av ⟨f,g,i,j,k⟩ with
  |true=>rw[ai aq,af];have:=kP.1 p;rw[this,mG];exact λe=>hs e.symm
  |false=>rw[af aq,ai];rwa[rO p r]
def Qu (hs:s≠[45])(h:Y (cut 46 s)≠5):cy s=O:=by unfold cy;rw[af hs];split;rename_i a;rw[a] at h;exact absurd rfl h;rfl
def Qv (hs:s≠[45]){w:aw}(f:w∈cut 46 s)(h:aA w=O):cy s=O:=by unfold cy;rw[af hs];split;rename_i a b c d e g;rw[g] at f;simp only[cA,k6,k7] at f;split;rename_i i j k l m;obtain rfl|rfl|rfl|rfl|rfl:=f<;>simp_all;rfl;rfl
def zW {α β:Type}(f:α->Option β):([]:List α).mapM f=C []:=rfl
def od {α β:Type}(f:α->Option β)(x:α)(l:List α):(x::l).mapM f=match f x with
  |none=>O
  |some y=>match l.mapM f with
   |none=>O
   |some r=>C (y::r):=by
 rw[tR];cases f x with
 |none=>rfl
 |some y=>cases l.mapM f<;>rfl
def yW {α β:Type}(f:α->Option β):∀(a b:List α),(a++b).mapM f=match a.mapM f with
  |none=>O
  |some r=>match b.mapM f with
   |none=>O
   |some q=>C (r++q)
 |[],b=>by rw[kG,zW];cases b.mapM f<;>rfl
 |x::a,b=>by
  rw[jk,od,od,yW f a b];cases f x with
  |none=>rfl
  |some y=>
   cases a.mapM f with
   |none=>rfl
   |some r=>cases b.mapM f<;>rfl
def mapM_none {α β:Type}(f:α->Option β){l:List α}{x:α}(a:x∈l)(h:f x=O):l.mapM f=O:=by
 induction l with
 |nil=>cases a
 |cons y l ih=>rw[od];obtain rfl|a:=cA.1 a;rw[h];rw[ih a];cases f y<;>rfl
def oc {α β:Type}(f:α->Option β){l:List α}{i:Nat}{d:α}{r:List β}{y:β}(hi:i<Y l)(h:(l.take i).mapM f=C r)(a:f (l.getD i d)=C y):(l.take (i+1)).mapM f=C (r++[y]):=by
 have:l.take (i+1)=l.take i++[l.getD i d]:=by rw[vS,eX,c8 hi];rfl
 rw[this,yW,h,od,a,zW]
def l5 {α β:Type}(f:α->Option β){l:List α}{r:List β}(h:l.mapM f=C r):Y r=Y l:=(mapM_some f h).1
def mapM_map {α β:Type}(f:α->Option β)(g:β->α):∀{l:List α}{r:List β},l.mapM f=C r->(∀x y,x∈l->f x=C y->g y=x)->r.map g=l
 |[],r,h,_=>by rw[zW] at h;cases h;rfl
 |x::l,r,h,b=>by
  rw[od] at h;cases a:f x with
  |none=>rw[a] at h;cases h
  |some y=>
   cases hl:l.mapM f with
   |none=>rw[a,hl] at h;cases h
   |some q=>rw[a,hl] at h;(cases h);rw[lF,b x y aq a,mapM_map f g hl λx y c d=>b x y (by simp[c]) d]
def Qw {p:fm}(h:cy s=C p):b9 p=s:=by by_cases hs:s=[45];subst hs;have:cy [45]=C bp:=rfl;rw[this] at h;cases h;exact mG;have h0:=h;unfold cy at h;rw[af hs] at h;split at h;rename_i a b c d e hc;split at h;rename_i m o q r t f g i j k;rw[AX hs hc f g i j k] at h0;split at h0;rename_i l;cases h0;exact l;cases h0;cases h;cases h
def NB {s t:aw}(ht:t∈cut 44 s)(h:cy t=O):eY s=O:=by unfold eY;rw[mapM_none cy ht h]
def NC (h:4<Y (cut 44 s)):eY s=O:=by
 unfold eY;cases hm:(cut 44 s).mapM cy with
 |none=>rfl
 |some l=>have:=l5 cy hm;dsimp only;rw[ai (.inl aa)]
def ND {l:cc}(h:(cut 44 s).mapM cy=C l):eY s=if fM l=C s then C l else O:=by
 unfold eY;rw[h];dsimp only;have hm:=mapM_map cy b9 h λx y _ j=>Qw j;have f:=EC 44 s;rw[<-hm] at f;have c:∀p∈l,aQ p=J:=λp g=>by obtain⟨x,_,i⟩:=(mapM_some cy h).2 p g;exact Hh i
 by_cases b:Y l=4;cases d:l.all av with
 |true=>rw[ai (.inr rfl),af];intro e;have:=(uy e).2.2.1;rw[d] at this;cases this
 |false=>rw[af (λa=>a.elim (λa=>a b) λa=>nomatch a),zy b c d,f,ai rfl]
 rw[ai (.inl b),af];intro e;exact b (uy e).1
end Go.Pg
namespace Go.Pl
open Go
variable {z:aw}
def aiY (n:Nat):Lib.decDigits n=fu n:=by
 induction n using Nat.strongRecOn with
 |_ n ih=>unfold Lib.decDigits fu;split;rfl;rw[ih (n/ 10) aa]
def Ze {n:Int}(h:0<=n):Lib.itoa n=dec n:=by obtain⟨m,rfl⟩:=tI h;rw[Lib.itoa_nonneg,aiY];rfl
def AY (a:List UInt8):∀(l:List UInt8)(cC:Nat),Lib.decFrom cC (l++a)=(Lib.decFrom cC l).bind λm=>Lib.decFrom m a
 |[],_=>rfl
 |b::l,cC=>by
  rw[jk];simp only[Lib.decFrom];cases Lib.digitVal b with
  |none=>rfl
  |some d=>exact AY a l _
def NF {d:Nat}(h:d<10):Lib.digitVal (UInt8.ofNat (48+d))=C d:=by
 have:(UInt8.ofNat (48+d)).toNat=48+d:=by show(48+d)% 256=48+d;omega
 unfold Lib.digitVal;rw[this,ai aa];congr 1;omega
def AZ (n:Nat):Lib.decFrom 0 (fu n)=C n:=by
 induction n using Nat.strongRecOn with
 |_ n ih=>by_cases h:n<10;rw[Pg.qB h];unfold Lib.decFrom;rw[NF h];simp[Lib.decFrom];rw[Pg.vm h,AY,ih (n/ 10) aa];show Lib.decFrom (n/ 10) _=_;unfold Lib.decFrom;rw[NF (xG _ aa)];simp only[Lib.decFrom,o4];omega
def Qx {c:UInt8}{r:List UInt8}(h:48<=c.toNat):Lib.atoi (c::r)=(Lib.decFrom 0 (c::r)).map λ(m:Nat)=>(m:Int):=by
 have a:(c== 45)=U:=by rw[beq_eq_false_iff_ne];rintro rfl;exact absurd h cx
 have b:(c== 43)=U:=by rw[beq_eq_false_iff_ne];rintro rfl;exact absurd h cx
 simp only[Lib.atoi,a,b,Lib.decNat];rfl
def NG (n:Nat):Lib.atoi (fu n)=C (n:Int):=by
 have b:=AZ n;have a:=Pg.rL n;have d:=Pg.yj n;cases hd:fu n with
 |nil=>rw[hd] at a;simp at a
 |cons c r=>have hc:=d c (by rw[hd];exact ed);simp only[gR,ep,gv] at hc;rw[Qx hc.1,<-hd,b];rfl
def NH (c:Y z<=9){v:Int}(h:Lib.atoi z=C v):aA z=if 0<=v/\dec v=z then C v.toNat else O:=by
 split;rename_i hc;obtain⟨m,rfl⟩:=tI hc.1;have b:fu m=z:=hc.2;refine Pg.pZ.2 ⟨b.symm,?_⟩;have a:=AZ m;rw[b] at a;have d:=Lib.decFrom_lt _ _ _ a;have e:10^ Y z<=10^ 9:=Rr cx c;have f:(10:Nat)^ 9=1000000000:=by decide
 simp only[px];omega;rename_i hc;cases hn:aA z with
 |none=>rfl
 |some n=>obtain⟨rfl,_⟩:=Pg.pZ.1 hn;rw[NG] at h;(cases h);exact absurd ⟨vP _,rfl⟩ hc
def Vc (h:Lib.atoi z=O):aA z=O:=by
 cases hn:aA z with
 |none=>rfl
 |some n=>obtain⟨rfl,_⟩:=Pg.pZ.1 hn;rw[NG] at h;cases h
def NI (h:9<Y z):aA z=O:=by
 cases hn:aA z with
 |none=>rfl
 |some n=>obtain⟨rfl,a⟩:=Pg.pZ.1 hn;have:=Pg.gu n 9 aa aa;omega
end Go.Pl
namespace Go.Proofs
open Go Go.Shelf Go.RowKit Go.Lib Go.Sort Go.Ev
variable {w:World}{ρ:iw}
def kb:aV:=G8.map λn=>.int .u64 (.ofNat n)
def Zf:∀(l:List Nat)(c:aV),RO l c=J->c=l.map λn=>.int .u64 (.ofNat n):=by
 intro l c;fun_induction RO l c with
 |case1=>intro _;rfl
 |case2 n l m c ih=>
  intro h;rw[ep] at h;rw[ih h.2,nN h.1];rfl
 |case3=>intro h;cases h
def NJ {o:fa}(h:AB o=J):o= .mX [(0,kb),(20,[])]:=by unfold AB at h;split at h;rw[Zf _ _ h];rfl;cases h
def abU {o:fa}(h:Tu o=J):∃t b f,o= .mX [(0,[.iface t (.pointer (C ⟨b,f,O⟩))])]:=by unfold Tu at h;split at h;exact⟨_,_,_,rfl⟩;cases h
def ED (ρ:iw):kb.map (bZ ρ)=kb:=by unfold kb;rw[Gp];exact qo λn _=>ry _ _ _
def Zg (h:∃t fr,w.heap[5]?=C (.cells ⟨kb⟩ t fr)):TabIs prog w "internal/strconv.uint64pow10" .u64 pow10Tab:=by
 obtain⟨t,fr,h⟩:=h;unfold TabIs World.var?;rw[show prog.globalNamed "internal/strconv.uint64pow10" =C 5 by kernel_rfl];show(match w.heap[5]? with
  |C (Obj.cells cs _ _)=>C cs
  |_=>O)=_
 rw[h];exact congrArg C (show(⟨kb⟩:Array Value)=(pow10Tab.map λz=>Value.int .u64 z).toArray by kernel_rfl)
def Qy (w:World)(k:Nat)(os:Array Obj):Below w.heap.size w (grow (w.drewN k) os):=by have a:Below w.heap.size w (w.drewN k):=⟨rfl,rfl,rfl,fG _,λ_ _=>rfl⟩;have b:Below w.heap.size (w.drewN k) (grow (w.drewN k) os):=⟨rfl,rfl,rfl,by show w.heap.size<=(w.heap++os).size;rw[Array.size_append];omega,λr hr=>by show(w.heap++os)[r]?=_;rw[Rq hr];rfl⟩;exact a.trans b
def inB (n lo hi:Int):Bool:=decide (lo<=n)&&decide (n<=hi)
def EE (n lo hi:Int)(w:World):Calls prog 22 #[.int .i64 n,.int .i64 lo,.int .i64 hi] w λe w'=>e= .returned (.bool (inB n lo hi))/\w=w':=by
 by_cases a:lo<=n
 .go_enter func22,ntmps22;go_wp2;go_ret;exact⟨by simp[inB,a],rfl⟩
 go_enter func22,ntmps22;go_wp2;go_ret;exact⟨by simp[inB];omega,rfl⟩
def Ik (n:Int)(h0:0<=n)(hn:n<=999999999)(w:World)(a:TabIs prog w "internal/strconv.uint64pow10" .u64 pow10Tab):Calls prog 257 #[.int .i64 n] w λe w'=>e= .returned (.string ⟨⟨Pl.dec n⟩⟩)/\Below w.heap.size w w':=by have h:=Any.strconv_Itoa Y8 n aa aa w a;change Calls prog 257 _ _ _ at h;refine h.mono λe w' ⟨b,k,os,c⟩=>?_;subst c;exact⟨b.trans (by rw[Pl.Ze h0]),Qy _ _ _⟩
def NK (n:Int)(w:World)(b:TabIs prog w "internal/strconv.uint64pow10" .u64 pow10Tab):Calls prog 204 #[.int .i64 n] w λe w'=>e= .returned (.string ⟨⟨if 0<=n/\n<=999999999 then Pl.dec n else []⟩⟩)/\Below w.heap.size w w':=by
 by_cases h:0<=n/\n<=999999999
 .rw[ai h];have a:inB n 0 999999999=J:=by simp[inB,h.1,h.2]
  go_enter func204,ntmps204;go_wp2_with (first
   |(go_at_call 22;refine(EE _ _ _ _).mono ?_;rw[a];rintro e w' ⟨rfl,rfl⟩)
   |(go_at_call 257;refine(Ik _ h.1 h.2 _ b).mono ?_;rintro e w' ⟨rfl,c⟩))
  go_ret;exact⟨rfl,c⟩
 rw[af h];have a:inB n 0 999999999=U:=by unfold inB;rw[rh,mW,mW];omega
 go_enter func204,ntmps204;go_wp2_with (go_at_call 22;refine(EE _ _ _ _).mono ?_;rw[a];rintro e w' ⟨rfl,rfl⟩);go_ret;exact⟨rfl,Below.refl _ _⟩
def Il {w w':World}(hb:Below w.heap.size w w')(a:TabIs prog w "internal/strconv.uint64pow10" .u64 pow10Tab):TabIs prog w' "internal/strconv.uint64pow10" .u64 pow10Tab:=by
 unfold TabIs World.var? at a⊢;rw[show prog.globalNamed "internal/strconv.uint64pow10" =C 5 by kernel_rfl] at a⊢;change(match w.heap[5]? with
  |C (Obj.cells cs _ _)=>C cs
  |_=>O)=_ at a
 show(match w'.heap[5]? with
  |C (Obj.cells cs _ _)=>C cs
  |_=>O)=_
 have b:5<w.heap.size:=by obtain h|h:=jc 5 w.heap.size;exact h;rw[KP h] at a;cases a
 rwa[hb.block 5 b]
def NL (z:List UInt8)(w:World)(n:TabIs prog w "internal/strconv.uint64pow10" .u64 pow10Tab)(ev:Value)(hv:w.cell? ⟨1,0,O⟩=C ev)(q:∃A y,ev= .iface A y):
  Calls prog 146 #[.string ⟨⟨z⟩⟩] w λe w'=>e= .returned (.tuple #[.int .i64 (((Pl.aA z).getD 0:Nat):Int),.bool (Pl.aA z).isSome])/\Below w.heap.size w w':=by
 have k:(⟨⟨z⟩⟩:ByteArray).size=Y z:=rfl;by_cases p:9<Y z
 .rw[Pl.NI p];generalize hb:(⟨⟨z⟩⟩:ByteArray)=b at *
  have p:9<b.size:=by omega
  go_enter func146,ntmps146;go_wp2;go_ret2;exact⟨rfl,Below.refl _ _⟩
 have f:=atoiAll_short z aa;cases h:Lib.atoi z with
 |none=>
  rw[h] at f;have f:=f;rw[Pl.Vc h];have a:=λ(W:World) hv=>Any.strconv_Atoi_syntax Ny ⟨⟨z⟩⟩ (by rw[k];omega) f ev W hv (.inr q);change ∀W:World,W.cell? ⟨1,0,O⟩=C ev->Calls prog 203 _ _ _ at a;generalize hb:(⟨⟨z⟩⟩:ByteArray)=b at *
  have p:¬9<b.size:=by omega
  go_enter func146,ntmps146;go_wp2_with (go_at_call 203;refine(a _ ?_).mono ?_);exact hv;rintro e l ⟨N,rfl,-,-,hb⟩;go_wp2;go_ret2;exact⟨rfl,hb⟩
 |some v=>
  rw[h] at f;have f:atoiAll z= .ok v:=f;have i:=Pl.NH aa h;(have a:=λW=>Any.strconv_Atoi_ok Ny ⟨⟨z⟩⟩ (by rw[k];omega) v f W);change ∀W,Calls prog 203 _ _ _ at a;have d:=λW n=>NK v W n;have key:if(if 0<=v/\v<=999999999 then Pl.dec v else [])=z then 0<=v/\Pl.aA z=C v.toNat else Pl.aA z=O:=by by_cases hv:0<=v/\v<=999999999;rw[ai hv];by_cases ht:Pl.dec v=z;rw[ai ht,i,ai ⟨hv.1,ht⟩];exact⟨hv.1,rfl⟩;rw[af ht,i,af λh=>ht h.2];rw[af hv,af (λe:([]:Pl.aw)=z=>by subst e;cases h),i,af];rintro⟨h0,s⟩;obtain⟨m,rfl⟩:=tI h0;(have u:Pl.aA z=C m:=by rw[i,ai ⟨h0,s⟩];rfl);have:=(Pg.pZ.1 u).2;exact hv ⟨h0,aa⟩
  generalize(if 0<=v/\v<=999999999 then Pl.dec v else [])=t at d key;clear i;by_cases o:t=z
  .rw[ai o] at key;obtain⟨h0,key⟩:=key;obtain⟨m,rfl⟩:=tI h0;rw[key];subst o;go_enter func146,ntmps146;go_wp2_with (go_at_call 203;refine(a _).mono ?_;rintro e l ⟨rfl,j⟩);(have c:Below w.heap.size w l:=by obtain rfl|⟨t,rfl⟩:=j;exact Below.refl _ _;exact Lib.bytesWorld_below _ _ _);clear j;go_wp2_with (go_at_call 204;refine(d _ (Il c n)).mono ?_;rintro e r ⟨rfl,g⟩);go_ret2;exact⟨rfl,c.trans (g.mono c.size)⟩
  rw[af o] at key;rw[key];have x:(t== z)=U:=beq_eq_false_iff_ne.2 o;go_enter func146,ntmps146;go_wp2_with (go_at_call 203;refine(a _).mono ?_;rintro e l ⟨rfl,j⟩);have c:Below w.heap.size w l:=by obtain rfl|⟨t,rfl⟩:=j;exact Below.refl _ _;exact Lib.bytesWorld_below _ _ _
  clear j;go_wp2_with (go_at_call 204;refine(d _ (Il c n)).mono ?_;rintro e r ⟨rfl,g⟩);go_ret2;exact⟨rfl,c.trans (g.mono c.size)⟩
def Zh {Z:Nat->Prop}{A:Nat->Prop}{g:Nat->Option fa}(h:ez prog Z A ρ g w)(p:Z 5)(q:g 5=C (.mX [(0,kb),(20,[])]))(o:(ρ 5).1=5):∃t fr,w.heap[5]?=C (.cells ⟨kb⟩ t fr):=by
 obtain⟨_,x,m,cs,t,fr,rfl,l⟩:=h.iC 5 _ p q;obtain⟨pre,c',rest,j,r,hr,_⟩:=l (0,kb) ed;obtain⟨c,n,i,k,a,f,h0⟩:=l (20,[]) aq;obtain rfl:=jG r;have d:c'=kb:=by rw[<-hr.self];exact ED _
 subst d;have e:n=[]:=jG (by simpa using f.akc);subst e;rw[h0 rfl] at k;have b:rest=[]:=by
  have hl:=congrArg List.length j;rw[k] at hl;have a:Y c=20:=a;have hv:Y kb=20:=by kernel_rfl
  simp only[dB,jm,a,hv] at hl;exact jG aa
 subst b;rw[o,j] at m;exact⟨t,fr,by simpa using m⟩
def aew {Z:Nat->Prop}{A:Nat->Prop}{g:Nat->Option fa}(h:ez prog Z A ρ g w)(e:Z 1){q b f:Nat}(i:g 1=C (.mX [(0,[.iface q (.pointer (C ⟨b,f,O⟩))])]))(h1:(ρ 1).1=1):∃ev,w.cell? ⟨1,0,O⟩=C ev/\∃m l,ev= .iface m l:=by
 obtain⟨_,x,c,cs,t,fr,rfl,k⟩:=h.iC 1 _ e i;obtain⟨pre,c',rest,d,j,hr,_⟩:=k _ ed;obtain rfl:=jG j;have a:c'=[.iface q (.pointer (C ⟨(ρ b).1,f,O⟩))]:=by rw[<-hr.self];simp[bZ]
 subst a;rw[h1,d] at c;exact⟨.iface q (.pointer (C ⟨(ρ b).1,f,O⟩)),by unfold World.cell?;rw[c];rfl,_,_,rfl⟩
def Zi:nT prog 257 (WV 5):=by intro args s v s' h;unfold WV at h;split at h;rotate_left;cases h;rename_i n;obtain⟨h0,h⟩:=bw h;obtain⟨o,g,h⟩:=aG h;obtain⟨d,h⟩:=bw h;cases aF h;have hn:n<=999999999:=xA h0;obtain rfl:=NJ d;refine⟨ay.aL s 5,λZ A ρ w b a c hl=>?_⟩;have:=hl.ground (λx k ρ=>by rw[gI.1 k];exact ry _ _ _);subst this;have i:=Zh a.st (a.cC 5 (eP s 5)) g (c 5 cx).2;have hc:=Ik (.ofNat n) (vP n) (Int.ofNat_le.2 hn) w (Zg i);exact .inr ⟨257,_,w,call257 _ w,hc.mono λe w' ⟨f,j⟩=>⟨_,f,ρ,VR.ground λρ=>Ez _ _,Good.Pd a.st a.dr (bh _ _) (eT _ _) (yV j)⟩⟩
def Qz:nT prog 146 (Je 5 1):=by intro args s v s' h;unfold Je at h;split at h;rotate_left;cases h;rename_i z;obtain⟨o,l,h⟩:=aG h;obtain⟨i,h⟩:=bw h;obtain⟨q,n,h⟩:=aG h;obtain⟨j,h⟩:=bw h;cases aF h;obtain rfl:=NJ i;obtain⟨y,t,u,rfl⟩:=abU j;refine⟨(ay.aL s 5).trans (ay.aL _ 1),λZ A ρ w d a b hl=>?_⟩;have:=hl.ground (λx r ρ=>by rw[gI.1 r];exact Ez _ _);subst this;have c:In ((s.aL 5).aL 1).cC 5:=(ay.aL (s.aL 5) 1).cC _ (eP s 5);have m:=Zh a.st (a.cC 5 c) l (b 5 cx).2;obtain⟨ev,f,g⟩:=aew a.st (a.cC 1 (eP _ 1)) n (b 1 cx).2;have hc:=NL z w (Zg m) ev f g;exact .inr ⟨146,_,w,call146 _ w,hc.mono λe w' ⟨k,p⟩=>⟨_,k,ρ,VR.ground λρ=>by simp[bZ,xX],Good.Pd a.st a.dr (by rw[bh,bh]) (by rw[eT,eT]) (yV p)⟩⟩
def aex:∀p∈aW.vT,nT prog p.1 p.2:=λp a=>by simp only[aW,cA,k6,k7] at a;obtain rfl|rfl|rfl|rfl|rfl|rfl|rfl|rfl:=a;exact U8;exact U9;exact NA;exact Qt;exact Va;exact Zb;exact Zi;exact Qz
def agO:WJ aZ prog aW:=agL aex
end Go.Proofs
