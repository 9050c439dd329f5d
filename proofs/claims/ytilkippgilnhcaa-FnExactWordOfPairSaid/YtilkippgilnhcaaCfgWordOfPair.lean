/- Where the machine keeps loops and joins: a table; nothing is proved. -/
import Derived.Test.YtilkippgilnhcaaAmM
set_option linter.unusedSimpArgs false
set_option linter.unusedVariables false
set_option linter.unnecessarySimpa false
set_option linter.unusedSectionVars false
noncomputable section
namespace Go.Am.Seat
def xZ : Nat → Nat → Option (List Nat)
  | 15, 18 => some [3, 11, 12, 13]
  | 16, 10 => some [6, 31, 32, 33]
  | 17, 8 => some [0, 1, 5]
  | 18, 4 => some [0, 1, 5]
  | 19, 4 => some [0, 1, 5]
  | 22, 8 => some [0, 1, 5]
  | 23, 4 => some [0, 1, 5]
  | 38, 10 => some [1, 17, 18, 19]
  | 38, 16 => some [1, 5, 6, 17, 18, 19, 24, 25, 26]
  | 46, 10 => some [0, 1, 5]
  | 48, 10 => some [1, 3, 5]
  | 48, 16 => some [1, 3, 5, 6]
  | 49, 6 => some [0, 3, 4]
  | 50, 6 => some [0, 3, 4]
  | 53, 6 => some [2, 3, 11, 12, 13]
  | 56, 10 => some [1, 2, 4, 5]
  | 57, 12 => some [3, 4, 5]
  | 59, 6 => some [0, 3, 4]
  | 60, 16 => some [4, 6, 8, 9]
  | 60, 22 => some [4, 6, 8, 9, 10]
  | 61, 8 => some [1, 2, 5]
  | 61, 14 => some [1, 2, 5, 6]
  | 63, 6 => some [2, 3, 5]
  | 66, 6 => some [1, 3, 4]
  | 70, 6 => some [0, 3, 4]
  | 76, 6 => some [0, 3, 9, 10, 11]
  | 76, 22 => some [6, 25, 26, 27]
  | 84, 8 => some [0, 1, 5]
  | 85, 10 => some [1, 2, 4, 26, 27, 28]
  | 90, 4 => some [0, 3]
  | 91, 6 => some [1, 2, 3, 4]
  | 99, 6 => some [0, 3, 4]
  | 102, 6 => some [1, 3, 10, 11, 12]
  | 103, 14 => some [2, 6, 7]
  | 103, 1000024 => some [2, 6, 7, 68]
  | 104, 2 => some [0, 2, 3]
  | 117, 6 => some [0, 3, 6, 7, 8]
  | 122, 2 => some [0, 1, 3]
  | 126, 8 => some [0, 1, 5]
  | 127, 8 => some [0, 1, 12, 13]
  | 135, 8 => some [1, 15, 16, 17]
  | 136, 4 => some [0, 1, 7, 8]
  | 139, 2 => some [0, 1, 3]
  | _, _ => none
def yg : Nat → Nat → Option (List Nat)
  | 4, 28 => some [8, 9, 11, 10, 7, 6, 3, 2]
  | 4, 46 => some [2, 3, 6, 7, 10]
  | 4, 68 => some [10, 13]
  | 15, 10 => some [6, 2, 3]
  | 16, 6 => some [2, 3]
  | 38, 24 => some [26, 5, 1, 6, 24, 19, 17, 18, 25]
  | 48, 28 => some [8, 7, 3, 1, 5, 6]
  | 48, 18 => some [6, 5, 1, 3]
  | 56, 8 => some [4, 1, 2]
  | 57, 20 => some [5, 4, 3]
  | 60, 14 => some [1, 8, 6, 4]
  | 63, 20 => some [5, 8, 6, 2, 3]
  | 70, 10 => some [3, 4, 0]
  | 70, 12 => some [0, 3]
  | 76, 16 => some [11, 3, 9, 0, 10]
  | 85, 6 => some [1, 2]
  | 92, 6 => some [2, 1, 3]
  | 92, 12 => some [3, 1, 7]
  | 93, 6 => some [0, 1]
  | 96, 6 => some [1, 0]
  | 99, 14 => some [3, 0, 4]
  | 102, 18 => some [12, 3, 1, 10, 11]
  | 103, 12 => some [1, 6, 2]
  | 103, 28 => some [7, 6, 2]
  | 111, 6 => some [1, 0]
  | 117, 14 => some [3, 5, 7, 6, 0, 8]
  | 126, 6 => some [1, 0]
  | 135, 6 => some [0, 1]
  | _, _ => none
def yE : Nat → Nat
  | 13 => 3
  | 18 => 3
  | 23 => 3
  | 70 => 1
  | 89 => 1
  | 96 => 2
  | 103 => 3
  | 104 => 3
  | 111 => 2
  | 122 => 3
  | 128 => 1
  | 139 => 3
  | _ => 0
def cfg : Cfg := ⟨yE, xZ, yg⟩
end Go.Am.Seat
