/- Where the machine keeps loops and joins: a table; nothing is proved. -/
import Derived.Test.YtcpijhganagenaaAmM
set_option linter.unusedSimpArgs false
set_option linter.unusedVariables false
set_option linter.unnecessarySimpa false
set_option linter.unusedSectionVars false
noncomputable section
namespace Go.Am.Seat
def loopsAt : Nat → Nat → Option (List Nat)
  | 20, 8 => some [0, 1, 5]
  | 21, 4 => some [0, 1, 5]
  | 22, 4 => some [0, 1, 5]
  | 30, 10 => some [0, 1, 5]
  | 32, 10 => some [1, 2, 4, 5]
  | 33, 4 => some [0, 1, 5]
  | 34, 10 => some [0, 3, 4]
  | 35, 16 => some [4, 6, 8, 9]
  | 35, 22 => some [4, 6, 8, 9, 10]
  | 36, 6 => some [0, 3, 4]
  | 37, 6 => some [0, 3, 4]
  | 38, 10 => some [1, 2, 4, 26, 27, 28]
  | 41, 10 => some [0, 3, 10, 11, 12]
  | 42, 6 => some [2, 3, 11, 12, 13]
  | 43, 14 => some [2, 6, 7]
  | 43, 1000024 => some [2, 6, 7, 68]
  | 44, 8 => some [0, 1, 5]
  | 45, 4 => some [0, 1, 5]
  | 46, 4 => some [0, 1, 5]
  | 47, 10 => some [1, 3, 5]
  | 47, 16 => some [1, 3, 5, 6]
  | 48, 6 => some [1, 2, 3, 4]
  | 50, 10 => some [1, 17, 18, 19]
  | 50, 16 => some [1, 5, 6, 17, 18, 19, 24, 25, 26]
  | 67, 6 => some [0, 3, 4]
  | 70, 6 => some [0, 3, 6, 7, 8]
  | 74, 4 => some [0, 1, 7, 8]
  | 96, 8 => some [0, 1, 5]
  | 97, 8 => some [1, 15, 16, 17]
  | 98, 2 => some [0, 1, 3]
  | 99, 2 => some [0]
  | 101, 2 => some [0, 1, 3]
  | _, _ => none
def joinsAt : Nat → Nat → Option (List Nat)
  | 3, 20 => some [2, 1, 6, 7, 8, 10, 12, 11, 9]
  | 3, 32 => some [2, 1, 6, 7, 8, 10]
  | 3, 54 => some [10, 14]
  | 12, 8 => some [2, 1, 4]
  | 32, 8 => some [4, 1, 2]
  | 34, 12 => some [4, 3, 0]
  | 35, 14 => some [1, 8, 6, 4]
  | 38, 6 => some [1, 2]
  | 41, 18 => some [12, 3, 0, 10, 11]
  | 43, 12 => some [1, 6, 2]
  | 43, 28 => some [7, 6, 2]
  | 47, 28 => some [8, 7, 3, 1, 5, 6]
  | 47, 18 => some [6, 5, 1, 3]
  | 50, 24 => some [26, 5, 1, 6, 24, 19, 17, 18, 25]
  | 67, 14 => some [3, 0, 4]
  | 68, 6 => some [0, 1]
  | 70, 14 => some [3, 5, 7, 6, 0, 8]
  | 76, 6 => some [2, 1, 3]
  | 76, 12 => some [3, 1, 7]
  | 96, 6 => some [1, 0]
  | 97, 6 => some [0, 1]
  | 99, 4 => some [0]
  | 100, 6 => some [1, 0]
  | _, _ => none
def modeAt : Nat → Nat
  | 14 => 3
  | 21 => 3
  | 43 => 3
  | 45 => 3
  | 75 => 1
  | 93 => 1
  | 98 => 3
  | 99 => 1
  | 100 => 2
  | 101 => 3
  | 102 => 1
  | _ => 0
def cfg : Cfg := ⟨modeAt, loopsAt, joinsAt⟩
end Go.Am.Seat
