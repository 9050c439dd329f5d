/- Where the machine keeps loops and joins: a table; nothing is proved. -/
import Derived.Test.YtelfgomnakpfmaaAmM
set_option linter.unusedSimpArgs false
set_option linter.unusedVariables false
set_option linter.unnecessarySimpa false
set_option linter.unusedSectionVars false
noncomputable section
namespace Go.Am.Seat
def loopsAt : Nat → Nat → Option (List Nat)
  | 29, 6 => some [0, 3, 4]
  | 31, 8 => some [0, 1, 5]
  | 32, 10 => some [0, 1, 5]
  | 35, 6 => some [1, 3, 4]
  | 36, 6 => some [1, 4, 6, 7]
  | 36, 12 => some [1, 4, 6, 7, 8]
  | 37, 6 => some [0, 3, 4]
  | 39, 6 => some [0, 3, 9, 10, 11]
  | 39, 22 => some [6, 25, 26, 27]
  | 40, 6 => some [2, 3, 11, 12, 13]
  | 41, 4 => some [0, 3, 11, 12, 13]
  | 42, 8 => some [0, 1, 5]
  | 43, 4 => some [0, 1, 5]
  | 44, 4 => some [0, 1, 5]
  | 45, 4 => some [0, 1, 5]
  | 46, 4 => some [0, 1, 5]
  | 47, 10 => some [1, 2, 4, 5]
  | 51, 10 => some [1, 2, 4, 26, 27, 28]
  | 55, 10 => some [1, 3, 5]
  | 55, 16 => some [1, 3, 5, 6]
  | 59, 10 => some [1, 17, 18, 19]
  | 59, 16 => some [1, 5, 6, 17, 18, 19, 24, 25, 26]
  | 60, 6 => some [1, 2, 3, 4]
  | 63, 4 => some [0, 1, 7, 8]
  | 65, 6 => some [0, 3, 4]
  | 68, 6 => some [0, 3, 6, 7, 8]
  | 77, 8 => some [0, 1, 5]
  | 78, 8 => some [1, 15, 16, 17]
  | _, _ => none
def joinsAt : Nat → Nat → Option (List Nat)
  | 5, 20 => some [2, 1, 6, 7, 8, 10, 12, 11, 9]
  | 5, 32 => some [2, 1, 6, 7, 8, 10]
  | 5, 54 => some [10, 14]
  | 16, 6 => some [2, 1, 4]
  | 18, 6 => some [2, 1, 4]
  | 36, 14 => some [8, 1, 6, 7, 4]
  | 36, 16 => some [8, 1, 6, 7, 4]
  | 39, 16 => some [11, 3, 9, 0, 10]
  | 47, 8 => some [4, 1, 2]
  | 51, 6 => some [1, 2]
  | 55, 28 => some [8, 7, 3, 1, 5, 6]
  | 55, 18 => some [6, 5, 1, 3]
  | 59, 24 => some [26, 5, 1, 6, 24, 19, 17, 18, 25]
  | 61, 6 => some [1, 0]
  | 65, 14 => some [3, 0, 4]
  | 66, 6 => some [0, 1]
  | 68, 14 => some [3, 5, 7, 6, 0, 8]
  | 73, 6 => some [2, 1, 3]
  | 73, 12 => some [3, 1, 7]
  | 74, 6 => some [1, 0]
  | 77, 6 => some [1, 0]
  | 78, 6 => some [0, 1]
  | _, _ => none
def modeAt : Nat → Nat
  | 20 => 3
  | 41 => 3
  | 43 => 3
  | 44 => 3
  | 61 => 2
  | 63 => 4
  | 64 => 4
  | 72 => 1
  | 74 => 2
  | _ => 0
def cfg : Cfg := ⟨modeAt, loopsAt, joinsAt⟩
end Go.Am.Seat
