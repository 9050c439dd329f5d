/- Where the machine keeps loops and joins: a table; nothing is proved. -/
import Derived.Test.YtcpijhganagenaaAmM
set_option linter.unusedSimpArgs false
set_option linter.unusedVariables false
set_option linter.unnecessarySimpa false
set_option linter.unusedSectionVars false
noncomputable section
namespace Go.Am.Seat
def loopsAt : Nat → Nat → Option (List Nat)
  | 16, 8 => some [2, 4]
  | 17, 8 => some [2, 4]
  | 20, 8 => some [0, 1, 5]
  | 21, 4 => some [0, 1, 5]
  | 22, 4 => some [0, 1, 5]
  | 30, 10 => some [0, 1, 5]
  | 32, 10 => some [1, 2, 4, 5]
  | 36, 6 => some [0, 3, 4]
  | 37, 6 => some [0, 3, 4]
  | 38, 10 => some [1, 2, 4, 26, 27, 28]
  | 41, 10 => some [0, 3, 10, 11, 12]
  | 42, 6 => some [2, 3, 11, 12, 13]
  | 44, 8 => some [0, 1, 5]
  | 45, 4 => some [0, 1, 5]
  | 46, 4 => some [0, 1, 5]
  | 47, 10 => some [1, 3, 5]
  | 47, 16 => some [1, 3, 5, 6]
  | 48, 6 => some [1, 2, 3, 4]
  | 49, 12 => some [4, 6, 8, 10, 11, 12]
  | 50, 10 => some [1, 17, 18, 19]
  | 50, 16 => some [1, 5, 6, 17, 18, 19, 24, 25, 26]
  | 51, 12 => some [4, 7, 9, 10, 11]
  | 67, 6 => some [0, 3, 4]
  | 70, 6 => some [0, 3, 6, 7, 8]
  | 74, 4 => some [0, 1, 7, 8]
  | 79, 6 => some [1, 3, 4]
  | 79, 14 => some [1, 3, 4, 5, 6]
  | 80, 6 => some [0, 1, 2, 6, 7, 8]
  | 80, 14 => some [0, 1, 2, 6, 7, 8, 9, 10]
  | 84, 6 => some [1, 3, 8, 9, 10]
  | 86, 6 => some [0, 4, 5, 10, 11, 12]
  | 89, 6 => some [0, 3, 9, 10, 11]
  | 89, 22 => some [6, 25, 26, 27]
  | 96, 8 => some [0, 1, 5]
  | 97, 8 => some [1, 15, 16, 17]
  | 98, 2 => some [0, 1, 3]
  | 99, 2 => some [0]
  | 101, 2 => some [0, 1, 3]
  | _, _ => none
def joinsAt : Nat → Nat → Option (List Nat)
  | 4, 20 => some [1, 4, 5, 7, 8, 6]
  | 4, 32 => some [1, 4, 5, 7]
  | 4, 54 => some [7, 10]
  | 32, 8 => some [4, 1, 2]
  | 38, 6 => some [1, 2]
  | 41, 18 => some [12, 3, 0, 10, 11]
  | 47, 28 => some [8, 7, 3, 1, 5, 6]
  | 47, 18 => some [6, 5, 1, 3]
  | 49, 14 => some [11, 12, 10, 6, 8, 4]
  | 49, 28 => some [12, 10, 11, 6, 8, 4]
  | 49, 30 => some [6, 10, 8, 11, 4]
  | 50, 24 => some [26, 5, 1, 6, 24, 19, 17, 18, 25]
  | 51, 6 => some [2, 1, 4]
  | 51, 16 => some [12, 13, 10, 4, 9, 7, 11]
  | 51, 26 => some [11, 7, 9, 10, 4]
  | 67, 14 => some [3, 0, 4]
  | 68, 6 => some [0, 1]
  | 70, 14 => some [3, 5, 7, 6, 0, 8]
  | 76, 6 => some [2, 1, 3]
  | 76, 12 => some [3, 1, 7]
  | 78, 6 => some [0, 1]
  | 86, 14 => some [12, 5, 0, 10, 4, 11]
  | 89, 16 => some [11, 3, 9, 0, 10]
  | 96, 6 => some [1, 0]
  | 97, 6 => some [0, 1]
  | 99, 4 => some [0]
  | 100, 6 => some [1, 0]
  | _, _ => none
def modeAt : Nat → Nat
  | 14 => 3
  | 21 => 3
  | 45 => 3
  | 75 => 1
  | 86 => 2
  | 93 => 1
  | 98 => 3
  | 99 => 1
  | 100 => 2
  | 101 => 3
  | 102 => 1
  | _ => 0
def cfg : Cfg := ⟨modeAt, loopsAt, joinsAt⟩
end Go.Am.Seat
