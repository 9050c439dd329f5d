/- Functions of Go's library that the laws reach are shown to be those that the kit's contracts speak of. -/
import Derived.Shelf.Small.Strs
import Derived.Shelf.Strconv.Itoa3
import Derived.Shelf.Strings.OnBuilder
import Derived.Shelf.Strings.Repeat
import Derived.Test.YtloognjnfelgfaaDoorAmW
import Derived.Test.YtloognjnfelgfaaDoorProg
set_option linter.unusedSimpArgs false
set_option linter.unusedVariables false
set_option linter.unnecessarySimpa false
set_option linter.unusedSectionVars false
namespace Go.Am.SeatLib
open Go Go.Am Go.Proofs Go.Shelf
def w5:Go.Shelf.Ren:=⟨fun|156=>77|165=>105|166=>106|169=>107|240=>125|241=>126|276=>136|277=>137|n=>n,fun|31=>58|37=>73|70=>95|72=>97|75=>100|76=>101|80=>103|127=>118|164=>130|n=>n,fun|n=>n⟩
theorem um:Lays.n156 Tryd.prog w5 where
 mixed:=by kernel_rfl
 f156:=Tryd.func77.trans (congrArg some (by kernel_rfl))
 f165:=Tryd.func105.trans (congrArg some (by kernel_rfl))
 f166:=Tryd.func106.trans (congrArg some (by kernel_rfl))
 f169:=Tryd.func107.trans (congrArg some (by kernel_rfl))
 f240:=Tryd.func125.trans (congrArg some (by kernel_rfl))
 f241:=Tryd.func126.trans (congrArg some (by kernel_rfl))
 f276:=Tryd.func136.trans (congrArg some (by kernel_rfl))
 f277:=Tryd.func137.trans (congrArg some (by kernel_rfl))
 t0:=Tryd.underlying0
 a0:=Tryd.isAgg0
 z0:=Tryd.sizeOf0
 v0:=Tryd.zeroValue0
 t3:=Tryd.underlying3
 a3:=Tryd.isAgg3
 z3:=Tryd.sizeOf3
 v3:=Tryd.zeroValue3
 t4:=Tryd.underlying4
 a4:=Tryd.isAgg4
 z4:=Tryd.sizeOf4
 v4:=Tryd.zeroValue4
 t9:=Tryd.underlying9
 a9:=Tryd.isAgg9
 z9:=Tryd.sizeOf9
 v9:=Tryd.zeroValue9
 t20:=Tryd.underlying20
 a20:=Tryd.isAgg20
 z20:=Tryd.sizeOf20
 v20:=Tryd.zeroValue20
 t31:=Tryd.underlying58
 a31:=Tryd.isAgg58
 z31:=Tryd.sizeOf58
 v31:=Tryd.zeroValue58
 t37:=Tryd.underlying73
 a37:=Tryd.isAgg73
 z37:=Tryd.sizeOf73
 v37:=Tryd.zeroValue73
 t70:=Tryd.underlying95
 a70:=Tryd.isAgg95
 z70:=Tryd.sizeOf95
 v70:=Tryd.zeroValue95
 t72:=Tryd.underlying97
 a72:=Tryd.isAgg97
 z72:=Tryd.sizeOf97
 v72:=Tryd.zeroValue97
 t75:=Tryd.underlying100
 a75:=Tryd.isAgg100
 z75:=Tryd.sizeOf100
 v75:=Tryd.zeroValue100
 t76:=Tryd.underlying101
 a76:=Tryd.isAgg101
 z76:=Tryd.sizeOf101
 v76:=Tryd.zeroValue101
 t127:=Tryd.underlying118
 a127:=Tryd.isAgg118
 z127:=Tryd.sizeOf118
 v127:=Tryd.zeroValue118
 t164:=Tryd.underlying130
 a164:=Tryd.isAgg130
 z164:=Tryd.sizeOf130
 v164:=Tryd.zeroValue130
theorem rZ:Builder.Extra Tryd.prog w5 where
 sizeBuilder:=by kernel_rfl
 liesBuilder:=by kernel_rfl
 t5:=Tryd.underlying5
 a5:=Tryd.isAgg5
 z5:=Tryd.sizeOf5
 v5:=Tryd.zeroValue5
 infoByte:=by kernel_rfl
 cellsByte:=by kernel_rfl
 sizeByte:=by kernel_rfl
 neB5:=by decide
theorem CB:(∃fn,Tryd.prog.funcs[77]?=some fn∧fn.body.isSome=true)∧BR Tryd.prog 77 .join:=⟨⟨_,Tryd.func77,by kernel_rfl⟩,⟨fun a c sep w=>Any.strings_Join_none um rZ a c sep w,fun bk o c xs sep w h1 h2 h3 h4 h5=>Any.strings_Join um rZ bk o c xs sep w h1 h2 h3 h4 h5⟩⟩
def Bu:Go.Shelf.Ren:=⟨fun|129=>151|171=>84|243=>112|246=>130|283=>138|284=>139|285=>140|286=>141|317=>153|318=>154|319=>155|320=>156|337=>162|338=>163|n=>n,fun|37=>73|46=>105|51=>119|53=>122|171=>133|173=>136|212=>147|213=>148|232=>158|233=>159|n=>n,fun|17=>1|18=>2|19=>3|n=>n⟩
theorem Ax:Lays.n171 Tryd.prog Bu where
 mixed:=by kernel_rfl
 f129:=Tryd.func151.trans (congrArg some (by kernel_rfl))
 f171:=Tryd.func84.trans (congrArg some (by kernel_rfl))
 f243:=Tryd.func112.trans (congrArg some (by kernel_rfl))
 f246:=Tryd.func130.trans (congrArg some (by kernel_rfl))
 f283:=Tryd.func138.trans (congrArg some (by kernel_rfl))
 f284:=Tryd.func139.trans (congrArg some (by kernel_rfl))
 f285:=Tryd.func140.trans (congrArg some (by kernel_rfl))
 f286:=Tryd.func141.trans (congrArg some (by kernel_rfl))
 f317:=Tryd.func153.trans (congrArg some (by kernel_rfl))
 f318:=Tryd.func154.trans (congrArg some (by kernel_rfl))
 f319:=Tryd.func155.trans (congrArg some (by kernel_rfl))
 f320:=Tryd.func156.trans (congrArg some (by kernel_rfl))
 f337:=Tryd.func162.trans (congrArg some (by kernel_rfl))
 f338:=Tryd.func163.trans (congrArg some (by kernel_rfl))
 t0:=Tryd.underlying0
 a0:=Tryd.isAgg0
 z0:=Tryd.sizeOf0
 v0:=Tryd.zeroValue0
 t2:=Tryd.underlying2
 a2:=Tryd.isAgg2
 z2:=Tryd.sizeOf2
 v2:=Tryd.zeroValue2
 t3:=Tryd.underlying3
 a3:=Tryd.isAgg3
 z3:=Tryd.sizeOf3
 v3:=Tryd.zeroValue3
 t4:=Tryd.underlying4
 a4:=Tryd.isAgg4
 z4:=Tryd.sizeOf4
 v4:=Tryd.zeroValue4
 t5:=Tryd.underlying5
 a5:=Tryd.isAgg5
 z5:=Tryd.sizeOf5
 v5:=Tryd.zeroValue5
 t9:=Tryd.underlying9
 a9:=Tryd.isAgg9
 z9:=Tryd.sizeOf9
 v9:=Tryd.zeroValue9
 t20:=Tryd.underlying20
 a20:=Tryd.isAgg20
 z20:=Tryd.sizeOf20
 v20:=Tryd.zeroValue20
 t37:=Tryd.underlying73
 a37:=Tryd.isAgg73
 z37:=Tryd.sizeOf73
 v37:=Tryd.zeroValue73
 t46:=Tryd.underlying105
 a46:=Tryd.isAgg105
 z46:=Tryd.sizeOf105
 v46:=Tryd.zeroValue105
 t51:=Tryd.underlying119
 a51:=Tryd.isAgg119
 z51:=Tryd.sizeOf119
 v51:=Tryd.zeroValue119
 t53:=Tryd.underlying122
 a53:=Tryd.isAgg122
 z53:=Tryd.sizeOf122
 v53:=Tryd.zeroValue122
 t171:=Tryd.underlying133
 a171:=Tryd.isAgg133
 z171:=Tryd.sizeOf133
 v171:=Tryd.zeroValue133
 t173:=Tryd.underlying136
 a173:=Tryd.isAgg136
 z173:=Tryd.sizeOf136
 v173:=Tryd.zeroValue136
 t212:=Tryd.underlying147
 a212:=Tryd.isAgg147
 z212:=Tryd.sizeOf147
 v212:=Tryd.zeroValue147
 t213:=Tryd.underlying148
 a213:=Tryd.isAgg148
 z213:=Tryd.sizeOf148
 t232:=Tryd.underlying158
 a232:=Tryd.isAgg158
 z232:=Tryd.sizeOf158
 v232:=Tryd.zeroValue158
 t233:=Tryd.underlying159
 a233:=Tryd.isAgg159
 z233:=Tryd.sizeOf159
 v233:=Tryd.zeroValue159
 g17:=by kernel_rfl
 g18:=by kernel_rfl
 g19:=by kernel_rfl
theorem Ck:(∃fn,Tryd.prog.funcs[84]?=some fn∧fn.body.isSome=true)∧BR Tryd.prog 84 .itoa:=⟨⟨_,Tryd.func84,by kernel_rfl⟩,fun i hi w=>Any.strconv_Itoa_small Ax i hi w⟩
def Bb:Nat→Option Lk
 |77=>some .join
 |84=>some .itoa
 |79=>some .rep
 |119=>some .cmp
 |_=>none
end Go.Am.SeatLib
