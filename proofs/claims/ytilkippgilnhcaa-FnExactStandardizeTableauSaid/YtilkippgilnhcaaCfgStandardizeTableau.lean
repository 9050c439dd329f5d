/- Where the machine keeps loops and joins: a table; nothing is proved. -/
import Derived.Test.YtilkippgilnhcaaAmM
set_option linter.unusedSimpArgs false
set_option linter.unusedVariables false
set_option linter.unnecessarySimpa false
set_option linter.unusedSectionVars false
noncomputable section
namespace Go.Am.Seat
def yN : Nat → Nat → Option (List Nat)
  | 17, 8 => some [0, 1, 5]
  | 18, 4 => some [0, 1, 5]
  | 19, 4 => some [0, 1, 5]
  | 22, 8 => some [0, 1, 5]
  | 23, 4 => some [0, 1, 5]
  | 24, 4 => some [0, 1, 5]
  | 38, 10 => some [1, 17, 18, 19]
  | 38, 16 => some [1, 5, 6, 17, 18, 19, 24, 25, 26]
  | 43, 14 => some [1, 2, 4, 5, 7, 8]
  | 43, 20 => some [1, 2, 4, 5, 7, 8, 9]
  | 43, 26 => some [1, 2, 4, 5, 7, 8, 9, 10]
  | 46, 10 => some [0, 1, 5]
  | 48, 10 => some [1, 3, 5]
  | 48, 16 => some [1, 3, 5, 6]
  | 49, 6 => some [0, 3, 4]
  | 50, 6 => some [0, 3, 4]
  | 53, 6 => some [2, 3, 11, 12, 13]
  | 56, 10 => some [1, 2, 4, 5]
  | 70, 6 => some [0, 3, 4]
  | 85, 10 => some [1, 2, 4, 26, 27, 28]
  | 91, 6 => some [1, 2, 3, 4]
  | 94, 6 => some [1, 2, 4, 5, 15, 16, 17]
  | 94, 12 => some [1, 2, 4, 5, 6, 15, 16, 17, 22, 23, 24]
  | 94, 28 => some [2, 4, 10, 48, 49, 50]
  | 99, 6 => some [0, 3, 4]
  | 117, 6 => some [0, 3, 6, 7, 8]
  | 122, 2 => some [0, 1, 3]
  | 126, 8 => some [0, 1, 5]
  | 135, 8 => some [1, 15, 16, 17]
  | 137, 4 => some [0, 1, 2, 3, 4, 10, 11]
  | 139, 2 => some [0, 1, 3]
  | 140, 2 => some [0, 1, 2, 3, 8]
  | 140, 8 => some [0, 1, 2, 3, 8, 9]
  | _, _ => none
def yR : Nat → Nat → Option (List Nat)
  | 7, 20 => some [1, 4, 5, 7, 8, 6]
  | 7, 32 => some [1, 4, 5, 7]
  | 7, 54 => some [7, 10]
  | 38, 24 => some [26, 5, 1, 6, 24, 19, 17, 18, 25]
  | 43, 28 => some [10, 5, 9, 4, 7, 8, 1, 2]
  | 48, 28 => some [8, 7, 3, 1, 5, 6]
  | 48, 18 => some [6, 5, 1, 3]
  | 56, 8 => some [4, 1, 2]
  | 70, 10 => some [3, 4, 0]
  | 70, 12 => some [0, 3]
  | 85, 6 => some [1, 2]
  | 92, 6 => some [2, 1, 3]
  | 92, 12 => some [3, 1, 7]
  | 93, 6 => some [0, 1]
  | 96, 6 => some [1, 0]
  | 99, 14 => some [3, 0, 4]
  | 111, 6 => some [1, 0]
  | 117, 14 => some [3, 5, 7, 6, 0, 8]
  | 126, 6 => some [1, 0]
  | 135, 6 => some [0, 1]
  | 137, 20 => some [3, 10, 11, 0, 2, 4, 1, 12]
  | 137, 30 => some [14, 3, 10, 11, 0, 2, 4, 13, 1, 12]
  | 137, 34 => some [12, 1, 13, 4, 2, 0, 11, 10, 3]
  | 137, 40 => some [13, 12, 1, 4, 2, 0, 3]
  | 140, 12 => some [9, 0, 8, 1, 3, 2]
  | 140, 4 => some [8, 1, 3, 0, 2]
  | 149, 8 => some [0, 2]
  | 149, 14 => some [0, 2]
  | 149, 20 => some [2, 0]
  | _, _ => none
def y8 : Nat → Nat
  | 13 => 3
  | 18 => 3
  | 23 => 3
  | 70 => 1
  | 89 => 1
  | 94 => 4
  | 95 => 4
  | 96 => 2
  | 111 => 2
  | 122 => 3
  | 123 => 3
  | 128 => 1
  | 137 => 3
  | 139 => 3
  | 140 => 3
  | _ => 0
def cfg : Cfg := ⟨y8, yN, yR⟩
end Go.Am.Seat
