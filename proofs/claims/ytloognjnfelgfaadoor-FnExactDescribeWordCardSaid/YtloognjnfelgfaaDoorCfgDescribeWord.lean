/- Where the machine keeps loops and joins: a table; nothing is proved. -/
import Derived.Test.YtloognjnfelgfaaDoorAmM
set_option linter.unusedSimpArgs false
set_option linter.unusedVariables false
set_option linter.unnecessarySimpa false
set_option linter.unusedSectionVars false
noncomputable section
namespace Go.Am.Seat
def Ei:Nat→Nat→Option (List Nat)
 |13,6=>some [0,3,4]
 |15,8=>some [0,1,5]
 |30,4=>some [0,3]
 |31,8=>some [0,2,3,4,5,6]
 |32,6=>some [0,3,4]
 |33,10=>some [4,5]
 |34,14=>some [1,3,4]
 |34,22=>some [1,3,4,5,6]
 |34,30=>some [1,3,4,5,7]
 |37,10=>some [0,3,4]
 |38,10=>some [0,3,4]
 |38,16=>some [0,3,4,5]
 |39,10=>some [0,3,4]
 |40,14=>some [0,3,4]
 |43,10=>some [4,5]
 |44,1000012=>some [2,3,11]
 |46,14=>some [1,3,17,18,19]
 |50,10=>some [0,3,10,11]
 |50,16=>some [0,3,4,10,11,14,15]
 |51,10=>some [0,3,4]
 |62,6=>some [1,4,6,7]
 |62,12=>some [1,4,6,7,8]
 |64,10=>some [1,3,5]
 |64,16=>some [1,3,5,6]
 |66,6=>some [0,1,5,6]
 |67,6=>some [0,3,4]
 |68,6=>some [0,3,4]
 |70,10=>some [1,2,4,5]
 |73,6=>some [1,4,5,6,7,13,14,15]
 |74,6=>some [3,6,7]
 |77,24=>some [0,1,5,39,40,41]
 |77,44=>some [1,8,63,64,65]
 |78,10=>some [1,17,18,19]
 |78,16=>some [1,5,6,17,18,19,24,25,26]
 |79,76=>some [7,8,9]
 |81,6=>some [1,5,9,10,11]
 |82,6=>some [0,3,6,7,8]
 |83,10=>some [1,2,4,26,27,28]
 |85,8=>some [0,1,5]
 |95,6=>some [1,2,3,4]
 |97,8=>some [0,1,6,7,8]
 |101,4=>some [0,3,11,12,13]
 |102,10=>some [1,7,8,21,22,23]
 |104,2=>some [0,1,3]
 |113,8=>some [1,15,16,17]
 |123,4=>some [0,1,7,8]
 |_,_=>none
def D8:Nat→Nat→Option (List Nat)
 |12,14=>some [3,4,0,5]
 |14,18=>some [3,5,0,9,7]
 |31,20=>some [8,6,5,4,0,2,3]
 |32,10=>some [3,0,4]
 |32,8=>some [4,0,3]
 |37,18=>some [5,4,0,3]
 |43,12=>some [5,4]
 |50,24=>some [15,3,4,0,11,10,14]
 |51,12=>some [4,3,0]
 |62,14=>some [8,1,6,7,4]
 |62,16=>some [8,1,6,7,4]
 |64,28=>some [8,7,3,1,5,6]
 |64,18=>some [6,5,1,3]
 |65,6=>some [0,1]
 |66,14=>some [5,6,0,1]
 |67,14=>some [3,0,4]
 |70,8=>some [4,1,2]
 |73,16=>some [10,8,15,1,7,6,13,4,5,14]
 |77,20=>some [5,0,1]
 |77,22=>some [5,0,1]
 |77,32=>some [5,7,41,39,0,1,40]
 |78,24=>some [26,5,1,6,24,19,17,18,25]
 |79,16=>some [1,0]
 |79,22=>some [6,0]
 |79,60=>some [0,7]
 |79,70=>some [0,8,7]
 |82,14=>some [3,5,7,6,0,8]
 |83,6=>some [1,2]
 |85,6=>some [1,0]
 |97,10=>some [8,7,6,1,0]
 |98,6=>some [2,1,3]
 |98,12=>some [3,1,7]
 |102,6=>some [0,1]
 |102,26=>some [23,8,7,1,21,22]
 |113,6=>some [0,1]
 |_,_=>none
def EV:Nat→Nat
 |76=>1
 |99=>4
 |100=>4
 |101=>3
 |104=>3
 |123=>4
 |124=>4
 |_=>0
def cfg:Cfg:=⟨EV,Ei,D8⟩
def Dl:Nat→Option Lk
 |77=>some .join
 |79=>some .rep
 |84=>some .itoa
 |_=>none
end Go.Am.Seat
