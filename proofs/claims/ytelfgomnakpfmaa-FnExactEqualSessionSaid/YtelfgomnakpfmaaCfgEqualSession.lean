/- Where the machine keeps loops and joins: a table; nothing is proved. -/
import Derived.Test.YtelfgomnakpfmaaAmM
set_option linter.unusedSimpArgs false
set_option linter.unusedVariables false
set_option linter.unnecessarySimpa false
set_option linter.unusedSectionVars false
noncomputable section
namespace Go.Am.Seat
def loopsAt : Nat → Nat → Option (List Nat)
  | 28, 8 => some [0, 1, 5]
  | 29, 6 => some [0, 3, 4]
  | 30, 8 => some [0, 1, 12, 13]
  | 31, 8 => some [0, 1, 5]
  | _, _ => none
def joinsAt : Nat → Nat → Option (List Nat)
  | _, _ => none
def modeAt : Nat → Nat
  | _ => 0
def cfg : Cfg := ⟨modeAt, loopsAt, joinsAt⟩
end Go.Am.Seat
