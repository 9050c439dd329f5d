/- Where the machine keeps loops and joins: a table; nothing is proved. -/
import Derived.Test.YtklldllgbbkjbaaAmM
set_option linter.unusedSimpArgs false
set_option linter.unusedVariables false
set_option linter.unnecessarySimpa false
set_option linter.unusedSectionVars false
noncomputable section
namespace Go.Am.Seat
def loopsAt : Nat → Nat → Option (List Nat)
  | 12, 10 => some [1, 2, 4, 6, 7]
  | 12, 16 => some [1, 2, 4, 6, 7, 8]
  | 12, 26 => some [4, 6, 9, 10]
  | 12, 32 => some [4, 6, 9, 10, 11]
  | 13, 6 => some [0, 3, 4]
  | 14, 10 => some [1, 4, 6, 19, 20, 21]
  | 14, 16 => some [1, 4, 6, 8, 19, 20, 21, 25, 26, 27]
  | 15, 8 => some [0, 1, 5]
  | 16, 4 => some [0, 1, 5]
  | 18, 10 => some [0, 1, 5]
  | 19, 10 => some [1, 3, 5]
  | 19, 16 => some [1, 3, 5, 6]
  | 20, 6 => some [1, 2, 3, 4]
  | 22, 6 => some [0, 3, 4]
  | 23, 10 => some [1, 17, 18, 19]
  | 23, 16 => some [1, 5, 6, 17, 18, 19, 24, 25, 26]
  | 24, 6 => some [2, 3, 11, 12, 13]
  | 26, 8 => some [0, 1, 5]
  | 27, 4 => some [0, 1, 5]
  | 28, 4 => some [0, 1, 5]
  | 29, 4 => some [0, 1, 5]
  | 30, 12 => some [1, 2, 5, 6, 7]
  | 30, 24 => some [6, 8, 9]
  | 31, 8 => some [1, 25, 26, 27]
  | 32, 4 => some [0, 1, 7, 8]
  | 33, 6 => some [3, 7, 8, 9]
  | 35, 10 => some [1, 2, 4, 5]
  | 42, 10 => some [1, 2, 4, 26, 27, 28]
  | 53, 12 => some [3, 4, 5]
  | 54, 4 => some [0, 3]
  | 55, 6 => some [0, 3, 4]
  | 56, 6 => some [1, 3, 4]
  | 57, 12 => some [1, 3, 4, 5]
  | 60, 6 => some [3, 6, 7, 8]
  | 61, 6 => some [0, 3, 9, 10, 11]
  | 61, 22 => some [6, 25, 26, 27]
  | 62, 10 => some [1, 3, 4]
  | 65, 6 => some [0, 3, 4]
  | 67, 6 => some [0, 3, 6, 7, 8]
  | 69, 4 => some [0, 1, 7, 8]
  | 71, 8 => some [1, 2, 5]
  | 71, 14 => some [1, 2, 5, 6]
  | 72, 4 => some [0, 3]
  | 76, 8 => some [0, 1, 5]
  | 77, 8 => some [1, 15, 16, 17]
  | 79, 4 => some [0, 1, 7, 8]
  | _, _ => none
def joinsAt : Nat → Nat → Option (List Nat)
  | 4, 26 => some [8, 9, 11, 10, 7, 6, 1, 2]
  | 4, 44 => some [2, 1, 6, 7, 10]
  | 4, 66 => some [10, 13]
  | 19, 28 => some [8, 7, 3, 1, 5, 6]
  | 19, 18 => some [6, 5, 1, 3]
  | 23, 24 => some [26, 5, 1, 6, 24, 19, 17, 18, 25]
  | 30, 6 => some [1, 2]
  | 31, 6 => some [2, 1]
  | 35, 8 => some [4, 1, 2]
  | 36, 6 => some [0, 1]
  | 37, 6 => some [2, 1, 3]
  | 37, 12 => some [3, 1, 7]
  | 42, 6 => some [1, 2]
  | 53, 20 => some [5, 4, 3]
  | 57, 14 => some [5, 3, 1, 4]
  | 61, 16 => some [11, 3, 9, 0, 10]
  | 62, 12 => some [4, 3, 1]
  | 65, 14 => some [3, 0, 4]
  | 67, 14 => some [3, 5, 7, 6, 0, 8]
  | 74, 6 => some [1, 0]
  | 76, 6 => some [1, 0]
  | 77, 6 => some [0, 1]
  | _, _ => none
def modeAt : Nat → Nat
  | 10 => 3
  | 16 => 3
  | 27 => 3
  | 32 => 4
  | 34 => 4
  | 63 => 4
  | 64 => 4
  | 73 => 4
  | 74 => 2
  | 79 => 4
  | 80 => 4
  | _ => 0
def cfg : Cfg := ⟨modeAt, loopsAt, joinsAt⟩
end Go.Am.Seat
