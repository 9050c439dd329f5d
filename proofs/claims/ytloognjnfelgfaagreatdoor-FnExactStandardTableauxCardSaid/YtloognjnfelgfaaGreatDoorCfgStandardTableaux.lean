/- Where the machine keeps loops and joins: a table; nothing is proved. -/
import Derived.Test.YtloognjnfelgfaaGreatDoorAmM
set_option linter.unusedSimpArgs false
set_option linter.unusedVariables false
set_option linter.unnecessarySimpa false
set_option linter.unusedSectionVars false
noncomputable section
namespace Go.Am.Seat
def HB:Nat→Nat→Option (List Nat)
 |18,12=>some [3,4,5]
 |21,8=>some [0,1,5]
 |24,4=>some [0,1,5]
 |25,4=>some [0,1,5]
 |27,6=>some [0,3,4]
 |29,8=>some [0,1,5]
 |30,4=>some [0,1,5]
 |33,6=>some [0,3,4]
 |42,14=>some [1,3,17,18,19]
 |53,14=>some [1,3,4]
 |53,22=>some [1,3,4,5,6]
 |53,30=>some [1,3,4,5,7]
 |56,10=>some [0,3,4]
 |61,12=>some [0,1,5,6,7]
 |62,4=>some [0,3,5]
 |63,8=>some [0,2,3,4,5]
 |63,16=>some [0,2,3,4,5,6,7]
 |69,4=>some [0,1,5]
 |70,4=>some [0,1,5]
 |71,4=>some [0,1,5]
 |84,24=>some [0,1,5,39,40,41]
 |84,44=>some [1,8,63,64,65]
 |85,10=>some [1,17,18,19]
 |85,16=>some [1,5,6,17,18,19,24,25,26]
 |86,76=>some [7,8,9]
 |88,6=>some [1,5,9,10,11]
 |89,6=>some [0,3,6,7,8]
 |90,10=>some [1,2,4,26,27,28]
 |95,10=>some [1,3,5]
 |95,16=>some [1,3,5,6]
 |97,6=>some [0,1,5,6]
 |98,6=>some [0,3,4]
 |101,10=>some [1,2,4,5]
 |103,8=>some [0,1,5]
 |104,6=>some [0,3,4]
 |106,8=>some [1,15,16,17]
 |107,6=>some [3,6,7,8]
 |113,16=>some [7,8]
 |114,8=>some [0,1,5]
 |125,2=>some [0,1,3]
 |138,6=>some [2,3,11,12,13]
 |139,6=>some [1,2,3,4,7,10]
 |_,_=>none
def Hk:Nat→Nat→Option (List Nat)
 |5,32=>some [1,4,6]
 |33,10=>some [3,4,0]
 |33,12=>some [0,3]
 |56,18=>some [5,4,0,3]
 |61,14=>some [7,1,0,6,5]
 |62,6=>some [5,0,3]
 |62,8=>some [0,5,3]
 |63,18=>some [7,6,5,0,3,2,4]
 |84,20=>some [5,0,1]
 |84,22=>some [5,0,1]
 |84,32=>some [5,7,41,39,0,1,40]
 |85,24=>some [26,5,1,6,24,19,17,18,25]
 |86,16=>some [1,0]
 |86,22=>some [6,0]
 |86,60=>some [0,7]
 |86,70=>some [0,8,7]
 |89,14=>some [3,5,7,6,0,8]
 |90,6=>some [1,2]
 |95,28=>some [8,7,3,1,5,6]
 |95,18=>some [6,5,1,3]
 |96,6=>some [0,1]
 |97,14=>some [5,6,0,1]
 |98,14=>some [3,0,4]
 |101,8=>some [4,1,2]
 |103,6=>some [1,0]
 |105,6=>some [0,1]
 |105,12=>some [1,6]
 |106,6=>some [0,1]
 |113,6=>some [1,0]
 |113,12=>some [6,0]
 |137,6=>some [2,1,3]
 |137,12=>some [3,1,7]
 |139,16=>some [11,13,10,4,7,1,3,2]
 |139,18=>some [10,4,7,1,3,2]
 |139,8=>some [10,4,7,1,3,2]
 |_,_=>none
def Iq:Nat→Nat
 |23=>3
 |24=>3
 |30=>3
 |33=>1
 |61=>6
 |62=>2
 |69=>3
 |83=>1
 |108=>3
 |109=>1
 |110=>8
 |125=>3
 |139=>7
 |_=>0
def cfg:Cfg:=⟨Iq,HB,Hk⟩
def GL:Nat→Option Lk
 |84=>some .join
 |86=>some .rep
 |91=>some .itoa
 |112=>some .cmp
 |_=>none
def H4:Nat→Option Nat
 |110=>some 2
 |_=>none
end Go.Am.Seat
