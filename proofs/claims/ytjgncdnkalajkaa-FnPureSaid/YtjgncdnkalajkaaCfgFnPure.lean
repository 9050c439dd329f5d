/- Where the machine keeps loops and joins: a table; nothing is proved. -/
import Derived.Test.YtjgncdnkalajkaaAmM
set_option linter.unusedSimpArgs false
set_option linter.unusedVariables false
set_option linter.unnecessarySimpa false
set_option linter.unusedSectionVars false
noncomputable section
namespace Go.Am.Seat
def loopsAt : Nat → Nat → Option (List Nat)
  | 3, 22 => some [3, 4, 5, 6, 7, 8, 9, 11, 12, 13, 14, 15]
  | 3, 28 => some [3, 4, 5, 6, 7, 8, 9, 11, 12, 13, 14, 15, 16]
  | 3, 36 => some [3, 4, 5, 6, 7, 8, 11, 12, 13, 14, 17]
  | 3, 44 => some [3, 4, 5, 6, 7, 8, 11, 13, 14, 18]
  | 6, 14 => some [1, 3, 4]
  | 6, 22 => some [1, 3, 4, 5, 6]
  | 6, 30 => some [1, 3, 4, 5, 7]
  | 11, 10 => some [0, 3, 4]
  | 14, 8 => some [2, 3, 5]
  | 15, 8 => some [0, 1, 5]
  | 17, 6 => some [0, 3, 4]
  | 23, 10 => some [1, 3, 5]
  | 23, 16 => some [1, 3, 5, 6]
  | 25, 10 => some [0, 3, 4]
  | 26, 6 => some [0, 1, 5, 6]
  | 28, 6 => some [0, 3, 4]
  | 29, 6 => some [0, 3, 4]
  | 32, 6 => some [0, 3, 9, 10, 11]
  | 32, 22 => some [6, 25, 26, 27]
  | 33, 6 => some [2, 3, 11, 12, 13]
  | 34, 4 => some [0, 3, 11, 12, 13]
  | 35, 6 => some [0, 3, 6, 7, 8]
  | 37, 6 => some [1, 5, 8, 9, 10]
  | 40, 6 => some [1, 3, 4]
  | 41, 6 => some [1, 4, 6, 7]
  | 41, 12 => some [1, 4, 6, 7, 8]
  | 42, 8 => some [0, 1, 5]
  | 43, 6 => some [0, 3, 4]
  | 43, 14 => some [0, 3, 4, 5, 6]
  | 44, 6 => some [0, 3, 4, 5, 6]
  | 44, 16 => some [0, 3, 4, 5, 6, 7, 8, 9]
  | 48, 10 => some [1, 2, 4, 5]
  | 50, 10 => some [1, 17, 18, 19]
  | 50, 16 => some [1, 5, 6, 17, 18, 19, 24, 25, 26]
  | 52, 4 => some [0, 1, 7, 8]
  | 54, 6 => some [1, 2, 3, 4]
  | 58, 10 => some [0, 5, 6]
  | 58, 18 => some [0, 5, 6, 7, 8]
  | 59, 8 => some [0, 4, 5, 6, 7]
  | 61, 10 => some [1, 2, 4, 26, 27, 28]
  | 64, 8 => some [0, 1, 5]
  | 66, 8 => some [1, 15, 16, 17]
  | _, _ => none
def joinsAt : Nat → Nat → Option (List Nat)
  | 5, 10 => some [5, 4, 2]
  | 9, 6 => some [2, 1, 4]
  | 10, 6 => some [0, 1]
  | 10, 12 => some [1, 6]
  | 12, 6 => some [2, 1, 4]
  | 13, 6 => some [0, 1]
  | 13, 12 => some [1, 6]
  | 14, 6 => some [3, 2]
  | 17, 10 => some [3, 4, 0]
  | 17, 12 => some [0, 3]
  | 23, 28 => some [8, 7, 3, 1, 5, 6]
  | 23, 18 => some [6, 5, 1, 3]
  | 24, 6 => some [0, 1]
  | 25, 18 => some [5, 4, 0, 3]
  | 26, 14 => some [5, 6, 0, 1]
  | 28, 14 => some [3, 0, 4]
  | 32, 16 => some [11, 3, 9, 0, 10]
  | 35, 14 => some [3, 5, 7, 6, 0, 8]
  | 37, 14 => some [10, 5, 1, 8, 9]
  | 41, 14 => some [8, 1, 6, 7, 4]
  | 41, 16 => some [8, 1, 6, 7, 4]
  | 43, 10 => some [4, 0, 3]
  | 48, 8 => some [4, 1, 2]
  | 49, 6 => some [2, 1, 3]
  | 49, 12 => some [3, 1, 7]
  | 50, 24 => some [26, 5, 1, 6, 24, 19, 17, 18, 25]
  | 51, 6 => some [1, 0]
  | 59, 18 => some [7, 4, 5, 0, 6]
  | 61, 6 => some [1, 2]
  | 64, 6 => some [1, 0]
  | 66, 6 => some [0, 1]
  | _, _ => none
def modeAt : Nat → Nat
  | 17 => 1
  | 18 => 4
  | 19 => 4
  | 20 => 4
  | 21 => 4
  | 22 => 4
  | 27 => 4
  | 34 => 3
  | 44 => 4
  | 45 => 4
  | 46 => 4
  | 47 => 4
  | 51 => 2
  | 52 => 4
  | 53 => 4
  | 59 => 4
  | _ => 0
def cfg : Cfg := ⟨modeAt, loopsAt, joinsAt⟩
end Go.Am.Seat
