/- Where the machine keeps loops and joins: a table; nothing is proved. -/
import Derived.Test.YtjembjngimmfmaaAmM
set_option linter.unusedSimpArgs false
set_option linter.unusedVariables false
set_option linter.unnecessarySimpa false
set_option linter.unusedSectionVars false
noncomputable section
namespace Go.Am.Seat
def zU : Nat → Nat → Option (List Nat)
  | 18, 22 => some [2, 5, 7]
  | 18, 28 => some [2, 5, 7, 8]
  | 25, 8 => some [1, 3]
  | 26, 8 => some [0, 1, 5]
  | 27, 4 => some [0, 1, 5]
  | 28, 4 => some [0, 1, 5]
  | 30, 10 => some [0, 1, 5]
  | 32, 12 => some [3, 4, 5]
  | 33, 6 => some [1, 2, 3, 4]
  | 34, 6 => some [1, 3, 4]
  | 36, 6 => some [0, 3, 4]
  | 37, 6 => some [0, 3, 4]
  | 39, 6 => some [2, 3, 11, 12, 13]
  | 40, 1000012 => some [3, 12]
  | 42, 8 => some [0, 1, 5]
  | 43, 8 => some [0, 1, 5]
  | 44, 4 => some [0, 1, 5]
  | 45, 4 => some [0, 1, 5]
  | 46, 4 => some [0, 1, 5]
  | 47, 4 => some [0, 1, 5]
  | 48, 8 => some [2, 3, 5]
  | 50, 4 => some [1, 8, 9, 10]
  | 50, 10 => some [1, 5, 8, 9, 10, 15, 16]
  | 51, 4 => some [1, 3]
  | 54, 10 => some [1, 3, 5]
  | 54, 16 => some [1, 3, 5, 6]
  | 55, 12 => some [4, 6, 8, 10, 11, 12]
  | 59, 10 => some [1, 17, 18, 19]
  | 59, 16 => some [1, 5, 6, 17, 18, 19, 24, 25, 26]
  | 61, 12 => some [4, 7, 9, 10, 11]
  | 62, 8 => some [0, 1, 5]
  | 63, 8 => some [0, 1, 12, 13]
  | 64, 8 => some [1, 2, 15, 16, 17]
  | 68, 10 => some [1, 2, 4, 26, 27, 28]
  | 70, 6 => some [1, 3, 8, 9, 10]
  | 72, 6 => some [0, 4, 5, 10, 11, 12]
  | 73, 10 => some [1, 2, 4, 5]
  | 78, 6 => some [1, 3, 4]
  | 78, 14 => some [1, 3, 4, 5, 6]
  | 79, 6 => some [0, 1, 2, 6, 7, 8]
  | 79, 14 => some [0, 1, 2, 6, 7, 8, 9, 10]
  | 80, 4 => some [0, 3]
  | 81, 6 => some [0, 3, 9, 10, 11]
  | 81, 22 => some [6, 25, 26, 27]
  | 85, 2 => some [0, 1, 3]
  | 86, 10 => some [0, 3, 10, 11, 12]
  | 88, 4 => some [0, 1, 7, 8]
  | 89, 6 => some [0, 3, 6, 7, 8]
  | 91, 6 => some [0, 3, 4]
  | 94, 2 => some [0]
  | 95, 8 => some [1, 15, 16, 17]
  | 96, 8 => some [0, 1, 5]
  | _, _ => none
def Ah : Nat → Nat → Option (List Nat)
  | 8, 32 => some [1, 4, 6]
  | 18, 6 => some [1, 2]
  | 18, 18 => some [6, 4, 5, 2]
  | 19, 20 => some [6, 4, 5, 2]
  | 22, 6 => some [1, 2]
  | 32, 20 => some [5, 4, 3]
  | 48, 6 => some [3, 2]
  | 54, 28 => some [8, 7, 3, 1, 5, 6]
  | 54, 18 => some [6, 5, 1, 3]
  | 55, 14 => some [11, 12, 10, 6, 8, 4]
  | 55, 28 => some [12, 10, 11, 6, 8, 4]
  | 55, 30 => some [6, 10, 8, 11, 4]
  | 59, 24 => some [26, 5, 1, 6, 24, 19, 17, 18, 25]
  | 61, 6 => some [2, 1, 4]
  | 61, 16 => some [12, 13, 10, 4, 9, 7, 11]
  | 61, 26 => some [11, 7, 9, 10, 4]
  | 68, 6 => some [1, 2]
  | 72, 14 => some [12, 5, 0, 10, 4, 11]
  | 73, 8 => some [4, 1, 2]
  | 74, 6 => some [0, 1]
  | 75, 6 => some [2, 1, 3]
  | 75, 12 => some [3, 1, 7]
  | 77, 6 => some [0, 1]
  | 81, 16 => some [11, 3, 9, 0, 10]
  | 86, 18 => some [12, 3, 0, 10, 11]
  | 89, 14 => some [3, 5, 7, 6, 0, 8]
  | 91, 14 => some [3, 0, 4]
  | 93, 6 => some [1, 0]
  | 94, 4 => some [0]
  | 95, 6 => some [0, 1]
  | 96, 6 => some [1, 0]
  | _, _ => none
def AJ : Nat → Nat
  | 14 => 3
  | 22 => 2
  | 27 => 3
  | 44 => 3
  | 45 => 3
  | 50 => 3
  | 60 => 1
  | 64 => 4
  | 72 => 2
  | 85 => 3
  | 93 => 2
  | 94 => 1
  | 97 => 1
  | _ => 0
def cfg : Cfg := ⟨AJ, zU, Ah⟩
end Go.Am.Seat
