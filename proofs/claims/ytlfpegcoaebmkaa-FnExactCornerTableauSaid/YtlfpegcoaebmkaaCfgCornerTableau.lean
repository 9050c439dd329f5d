/- Where the machine keeps loops and joins: a table; nothing is proved. -/
import Derived.Test.YtlfpegcoaebmkaaAmM
set_option linter.unusedSimpArgs false
set_option linter.unusedVariables false
set_option linter.unnecessarySimpa false
set_option linter.unusedSectionVars false
noncomputable section
namespace Go.Am.Seat
def zX:Nat→Nat→Option (List Nat)
 |8,16=>some [2,3,4,6,7,8]
 |8,28=>some [2,4,7,9]
 |27,10=>some [1,17,18,19]
 |27,16=>some [1,5,6,17,18,19,24,25,26]
 |59,10=>some [0,1,5]
 |61,10=>some [1,3,5]
 |61,16=>some [1,3,5,6]
 |62,6=>some [0,3,4]
 |63,6=>some [0,3,4]
 |66,6=>some [2,3,11,12,13]
 |67,6=>some [3,10,11,12]
 |67,12=>some [3,10,11,12,16,17,18]
 |68,16=>some [7,8]
 |69,8=>some [0,1,5]
 |70,8=>some [0,1,5]
 |71,4=>some [0,1,5]
 |72,4=>some [0,1,5]
 |73,4=>some [0,1,5]
 |74,4=>some [0,1,5]
 |81,6=>some [0,4,5,10,11,12]
 |85,10=>some [1,2,4,26,27,28]
 |87,10=>some [1,2,4,5]
 |92,6=>some [0,3,4]
 |121,10=>some [1,5,13,14,15]
 |142,6=>some [0,3,6,7,8]
 |143,2=>some [0]
 |144,6=>some [0,3,4]
 |177,8=>some [1,15,16,17]
 |178,8=>some [0,1,5]
 |186,4=>some [0,3,5]
 |188,2=>some [0,1,3]
 |189,2=>some [0,1,3]
 |_,_=>none
def zS:Nat→Nat→Option (List Nat)
 |3,28=>some [8,9,11,10,7,6,3,2]
 |3,46=>some [2,3,6,7,10]
 |3,68=>some [10,13]
 |8,6=>some [3,2,4]
 |8,12=>some [3,6,2,4]
 |8,24=>some [8,7,3,6,2,4]
 |10,6=>some [2,3,4]
 |10,14=>some [6,4]
 |27,24=>some [26,5,1,6,24,19,17,18,25]
 |51,6=>some [1,2]
 |61,28=>some [8,7,3,1,5,6]
 |61,18=>some [6,5,1,3]
 |67,20=>some [6,7,18,3,16,12,10,11,17]
 |68,6=>some [1,0]
 |68,12=>some [6,0]
 |81,14=>some [12,5,0,10,4,11]
 |85,6=>some [1,2]
 |87,8=>some [4,1,2]
 |92,10=>some [3,4,0]
 |92,12=>some [0,3]
 |134,6=>some [0,1]
 |135,6=>some [2,1,3]
 |135,12=>some [3,1,7]
 |136,6=>some [1,0]
 |142,14=>some [3,5,7,6,0,8]
 |143,4=>some [0]
 |144,14=>some [3,0,4]
 |172,6=>some [1,0]
 |177,6=>some [0,1]
 |178,6=>some [1,0]
 |186,6=>some [5,0,3]
 |186,8=>some [0,5,3]
 |_,_=>none
def AR:Nat→Nat
 |12=>3
 |51=>2
 |65=>5
 |71=>3
 |72=>3
 |81=>2
 |92=>1
 |121=>2
 |136=>2
 |143=>1
 |167=>1
 |172=>2
 |176=>1
 |182=>1
 |186=>2
 |188=>3
 |189=>3
 |_=>0
def cfg:Cfg:=⟨AR,zX,zS⟩
end Go.Am.Seat
