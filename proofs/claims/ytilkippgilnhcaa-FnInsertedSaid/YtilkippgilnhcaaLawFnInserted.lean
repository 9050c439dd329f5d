/- The law FnInserted answers true whatever it is given, and the arguments read as they did. -/
import Derived.Test.YtilkippgilnhcaaRows
import Derived.Test.YtilkippgilnhcaaPureFnInserted
import Derived.Test.YtilkippgilnhcaaAmW
import Derived.WalkKit
import Derived.ProofKit
import Derived.OpenShut
import Derived.SizedLaws
set_option linter.unusedSimpArgs false
set_option linter.unusedVariables false
set_option linter.unnecessarySimpa false
set_option linter.unusedSectionVars false
namespace Go.Proofs.Ytilkippgilnhcaa.fnInserted
open Go.Am
attribute [local instance] D.real
set_option maxRecDepth 100000
theorem own : ownKnob Try.prog.godebug = none := by kernel_rfl
theorem laid : laidOutB Try.prog = true := by kernel_rfl
def Aw (P : Program) : Bool := P.funcs.toList.all fun fn => !(fn.name == "runtime.NumGoroutine")
theorem zb : Aw Try.prog = true := by kernel_rfl
theorem yP : Go.Am.Good Try.prog := ⟨fun f fn hf _ => by
  have h := List.all_eq_true.1 zb fn (by
    have := Array.mem_of_getElem? hf
    simpa using this)
  simpa using h, by kernel_rfl⟩
theorem pure : ∀ x : den (gJ Try.prog 6), WfD (gJ Try.prog 6) x → ∃ k y, uk Try.prog Seat.cfg Seat.ext k 6 x = some y ∧ ta (resTy Try.prog 6) y := by
  have key : ∀ x : den (.sl (.int .u8)), WfD (.sl (.int .u8)) x →
      ∃ k, ∃ y : den .bool, Seat.au k x = some y ∧ ta .bool y := fun x h =>
    let ⟨k, hk⟩ := Seat.au.is (p := x) h.1
    ⟨k, true, hk, rfl⟩
  exact key
theorem zX : xo Try.prog Seat.ext := fun f gf x y h => (by cases h)
theorem lifted (os : Os) (started : os.Started) (H : Type) (enc : TypeId × Value → H) :
    ReturnsInHanded {} Try.checked os 6 .any (Rows.fnInsertedSpec.pre6 enc Try.prog Try.f6 Rows.fnInsertedRow.domain false) (Rows.fnInsertedSpec.post enc Try.prog Try.f6 false true false false) := by
  refine returnsInHanded_of_change_sized (C := Try.checked) own started (by kernel_rfl) Try.func6
    (ChangeSpec.witness6 (enc := enc) (C := Try.checked) false ⟨#[], #[.slice none 0 0], []⟩ 8 (by kernel_rfl) (by kernel_rfl) (by kernel_rfl) (by kernel_rfl)) ?_
  intro W base args ds gs before hval hW _ _ _
  exact tR yP zX laid Try.func6 rfl (fun ds h => by match ds, h with | [_], _ => rfl) (by kernel_rfl) (by kernel_rfl) Try.underlying4 pure hval hW
theorem AY : Rows.fnInsertedRow.holds Try.pinned (OpenSpec.ofChange Rows.fnInsertedSpec) :=
  OpenClaim.holds_of_wide 6 Try.f6 rfl rfl rfl rfl rfl rfl rfl ⟨rfl, rfl, rfl, rfl, rfl⟩ rfl rfl rfl rfl rfl (by kernel_rfl) Try.func6 (by kernel_rfl)
    (of_decide_eq_true (by kernel_rfl)) (by unfold Func.isWrapper; first | (rw [if_pos (by decide +kernel)]; kernel_rfl) | (rw [if_neg (by decide +kernel)]; exact ⟨rfl, rfl⟩))
    (fun os started H enc _ => lifted os started H enc)
end Go.Proofs.Ytilkippgilnhcaa.fnInserted
namespace Go.Proofs.Ytilkippgilnhcaa
theorem fnInserted_holds : Rows.FnInsertedSaid := fnInserted.AY
#print axioms fnInserted_holds
end Go.Proofs.Ytilkippgilnhcaa
