/- Where the machine keeps loops and joins: a table; nothing is proved. -/
import Derived.Test.YtloognjnfelgfaaDoorAmM
set_option linter.unusedSimpArgs false
set_option linter.unusedVariables false
set_option linter.unnecessarySimpa false
set_option linter.unusedSectionVars false
noncomputable section
namespace Go.Am.Seat
def Gu:Nat→Nat→Option (List Nat)
 |13,6=>some [0,3,4]
 |15,8=>some [0,1,5]
 |46,14=>some [1,3,17,18,19]
 |57,4=>some [0,3]
 |58,12=>some [1,2,3,9,10,11]
 |67,6=>some [0,3,4]
 |77,24=>some [0,1,5,39,40,41]
 |77,44=>some [1,8,63,64,65]
 |78,10=>some [1,17,18,19]
 |78,16=>some [1,5,6,17,18,19,24,25,26]
 |79,76=>some [7,8,9]
 |81,6=>some [1,5,9,10,11]
 |82,6=>some [0,3,6,7,8]
 |83,10=>some [1,2,4,26,27,28]
 |85,8=>some [0,1,5]
 |86,6=>some [0,3,4]
 |92,20=>some [0,1,2,3,9,10,11]
 |92,28=>some [0,1,2,3,9,10,11,12,13]
 |93,4=>some [0,3]
 |104,2=>some [0,1,3]
 |113,8=>some [1,15,16,17]
 |114,6=>some [3,6,7,8]
 |123,4=>some [0,1,7,8]
 |131,6=>some [2,3,11,12,13]
 |132,6=>some [1,2,3,4,7,10]
 |_,_=>none
def Gp:Nat→Nat→Option (List Nat)
 |21,6=>some [2,1]
 |59,6=>some [2,1]
 |65,6=>some [0,1]
 |67,14=>some [3,0,4]
 |77,20=>some [5,0,1]
 |77,22=>some [5,0,1]
 |77,32=>some [5,7,41,39,0,1,40]
 |78,24=>some [26,5,1,6,24,19,17,18,25]
 |79,16=>some [1,0]
 |79,22=>some [6,0]
 |79,60=>some [0,7]
 |79,70=>some [0,8,7]
 |82,14=>some [3,5,7,6,0,8]
 |83,6=>some [1,2]
 |85,6=>some [1,0]
 |92,18=>some [9,3,0,2,1,10]
 |92,24=>some [11,9,3,0,2,1,10]
 |93,6=>some [3,0]
 |93,8=>some [0,3]
 |113,6=>some [0,1]
 |132,16=>some [11,13,10,4,7,1,3,2]
 |132,18=>some [10,4,7,1,3,2]
 |132,8=>some [10,4,7,1,3,2]
 |_,_=>none
def Ho:Nat→Nat
 |76=>1
 |99=>4
 |104=>3
 |115=>3
 |116=>1
 |117=>8
 |122=>4
 |123=>4
 |132=>7
 |_=>0
def cfg:Cfg:=⟨Ho,Gu,Gp⟩
def EJ:Nat→Option Lk
 |77=>some .join
 |79=>some .rep
 |84=>some .itoa
 |119=>some .cmp
 |_=>none
def GZ:Nat→Option Nat
 |117=>some 2
 |_=>none
end Go.Am.Seat
