/- Where the machine keeps loops and joins: a table; nothing is proved. -/
import Derived.Test.YtloognjnfelgfaaGreatDoorAmM
set_option linter.unusedSimpArgs false
set_option linter.unusedVariables false
set_option linter.unnecessarySimpa false
set_option linter.unusedSectionVars false
noncomputable section
namespace Go.Am.Seat
def Ec:Nat→Nat→Option (List Nat)
 |12,6=>some [0,4,5]
 |31,8=>some [0,4,10,11]
 |33,6=>some [0,3,4]
 |35,14=>some [0,3,4]
 |39,10=>some [4,5]
 |40,1000012=>some [2,3,11]
 |42,14=>some [1,3,17,18,19]
 |46,10=>some [0,3,10,11]
 |46,16=>some [0,3,4,10,11,14,15]
 |47,10=>some [0,3,4]
 |49,4=>some [0,3]
 |50,8=>some [0,2,3,4,5,6]
 |51,6=>some [0,3,4]
 |52,10=>some [4,5]
 |53,14=>some [1,3,4]
 |53,22=>some [1,3,4,5,6]
 |53,30=>some [1,3,4,5,7]
 |56,10=>some [0,3,4]
 |57,10=>some [0,3,4]
 |57,16=>some [0,3,4,5]
 |58,10=>some [0,3,4]
 |62,4=>some [0,3,5]
 |79,6=>some [1,4,5,6,7,13,14,15]
 |80,6=>some [3,6,7]
 |84,24=>some [0,1,5,39,40,41]
 |84,44=>some [1,8,63,64,65]
 |85,10=>some [1,17,18,19]
 |85,16=>some [1,5,6,17,18,19,24,25,26]
 |86,76=>some [7,8,9]
 |88,6=>some [1,5,9,10,11]
 |89,6=>some [0,3,6,7,8]
 |90,10=>some [1,2,4,26,27,28]
 |93,6=>some [1,4,6,7]
 |93,12=>some [1,4,6,7,8]
 |95,10=>some [1,3,5]
 |95,16=>some [1,3,5,6]
 |97,6=>some [0,1,5,6]
 |98,6=>some [0,3,4]
 |99,6=>some [0,3,4]
 |101,10=>some [1,2,4,5]
 |103,8=>some [0,1,5]
 |106,8=>some [1,15,16,17]
 |122,4=>some [0,3,11,12,13]
 |123,10=>some [1,7,8,21,22,23]
 |125,2=>some [0,1,3]
 |134,6=>some [1,2,3,4]
 |136,8=>some [0,1,6,7,8]
 |145,4=>some [0,1,7,8]
 |_,_=>none
def Eu:Nat→Nat→Option (List Nat)
 |12,10=>some [4,5,0]
 |12,12=>some [0,4]
 |15,18=>some [3,5,0,9,7]
 |16,14=>some [3,4,0,5]
 |31,16=>some [0,4]
 |33,10=>some [3,4,0]
 |33,12=>some [0,3]
 |39,12=>some [5,4]
 |46,24=>some [15,3,4,0,11,10,14]
 |47,12=>some [4,3,0]
 |50,20=>some [8,6,5,4,0,2,3]
 |51,10=>some [3,0,4]
 |51,8=>some [4,0,3]
 |56,18=>some [5,4,0,3]
 |62,6=>some [5,0,3]
 |62,8=>some [0,5,3]
 |79,16=>some [10,8,15,1,7,6,13,4,5,14]
 |84,20=>some [5,0,1]
 |84,22=>some [5,0,1]
 |84,32=>some [5,7,41,39,0,1,40]
 |85,24=>some [26,5,1,6,24,19,17,18,25]
 |86,16=>some [1,0]
 |86,22=>some [6,0]
 |86,60=>some [0,7]
 |86,70=>some [0,8,7]
 |89,14=>some [3,5,7,6,0,8]
 |90,6=>some [1,2]
 |93,14=>some [8,1,6,7,4]
 |93,16=>some [8,1,6,7,4]
 |95,28=>some [8,7,3,1,5,6]
 |95,18=>some [6,5,1,3]
 |96,6=>some [0,1]
 |97,14=>some [5,6,0,1]
 |98,14=>some [3,0,4]
 |101,8=>some [4,1,2]
 |103,6=>some [1,0]
 |106,6=>some [0,1]
 |123,6=>some [0,1]
 |123,26=>some [23,8,7,1,21,22]
 |136,10=>some [8,7,6,1,0]
 |137,6=>some [2,1,3]
 |137,12=>some [3,1,7]
 |_,_=>none
def Fe:Nat→Nat
 |33=>1
 |62=>2
 |83=>1
 |116=>4
 |121=>4
 |122=>3
 |125=>3
 |145=>4
 |146=>4
 |_=>0
def cfg:Cfg:=⟨Fe,Ec,Eu⟩
def CZ:Nat→Option Lk
 |84=>some .join
 |86=>some .rep
 |91=>some .itoa
 |_=>none
end Go.Am.Seat
