/- Where the machine keeps loops and joins: a table; nothing is proved. -/
import Derived.Test.YtloognjnfelgfaaDoorAmM
set_option linter.unusedSimpArgs false
set_option linter.unusedVariables false
set_option linter.unnecessarySimpa false
set_option linter.unusedSectionVars false
noncomputable section
namespace Go.Am.Seat
def Ce:Nat→Nat→Option (List Nat)
 |15,8=>some [0,1,5]
 |23,6=>some [0,4,5]
 |25,8=>some [0,4,10,11]
 |28,4=>some [0,1,5]
 |29,4=>some [0,1,5]
 |30,4=>some [0,3]
 |37,10=>some [0,3,4]
 |40,14=>some [0,3,4]
 |77,24=>some [0,1,5,39,40,41]
 |77,44=>some [1,8,63,64,65]
 |81,6=>some [1,5,9,10,11]
 |104,2=>some [0,1,3]
 |123,4=>some [0,1,7,8]
 |_,_=>none
def BV:Nat→Nat→Option (List Nat)
 |23,10=>some [4,5,0]
 |23,12=>some [0,4]
 |25,16=>some [0,4]
 |37,18=>some [5,4,0,3]
 |77,20=>some [5,0,1]
 |77,22=>some [5,0,1]
 |77,32=>some [5,7,41,39,0,1,40]
 |_,_=>none
def C3:Nat→Nat
 |10=>3
 |28=>3
 |76=>1
 |99=>4
 |100=>4
 |104=>3
 |123=>4
 |_=>0
def cfg:Cfg:=⟨C3,Ce,BV⟩
def Bb:Nat→Option Lk
 |77=>some .join
 |84=>some .itoa
 |_=>none
end Go.Am.Seat
