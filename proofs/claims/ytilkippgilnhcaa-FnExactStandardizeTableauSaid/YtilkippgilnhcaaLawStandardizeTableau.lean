/- The law FnExactStandardizeTableau answers true whatever it is given, and the arguments read as they did. -/
import Derived.Test.YtilkippgilnhcaaRows
import Derived.Test.YtilkippgilnhcaaPureStandardizeTableau
import Derived.Test.YtilkippgilnhcaaAmW
import Derived.WalkKit
import Derived.ProofKit
import Derived.OpenShut
import Derived.SizedLaws
set_option linter.unusedSimpArgs false
set_option linter.unusedVariables false
set_option linter.unnecessarySimpa false
set_option linter.unusedSectionVars false
namespace Go.Proofs.Ytilkippgilnhcaa.fnExactStandardizeTableau
open Go.Am
attribute [local instance] D.real
set_option maxRecDepth 100000
theorem own : ownKnob Try.prog.godebug = none := by kernel_rfl
theorem laid : laidOutB Try.prog = true := by kernel_rfl
def zv (P : Program) : Bool := P.funcs.toList.all fun fn => !(fn.name == "runtime.NumGoroutine")
theorem xR : zv Try.prog = true := by kernel_rfl
theorem xH : Go.Am.Good Try.prog := ⟨fun f fn hf _ => by
  have h := List.all_eq_true.1 xR fn (by
    have := Array.mem_of_getElem? hf
    simpa using this)
  simpa using h, by kernel_rfl⟩
theorem pure : ∀ x : den (fE Try.prog 7), WfD (fE Try.prog 7) x → ∃ k y, th Try.prog Seat.cfg Seat.ext k 7 x = some y ∧ sq (resTy Try.prog 7) y := by
  have key : ∀ x : den (.pair (.sl (.int .i64)) (.sl (.sl (.int .i64)))), WfD (.pair (.sl (.int .i64)) (.sl (.sl (.int .i64)))) x →
      ∃ k, ∃ y : den .bool, Seat.aq k x = some y ∧ sq .bool y := fun x h =>
    let ⟨k, hk⟩ := Seat.aq.is (t := x) h.1.1 h.2.1 (fun r hr => (h.2.2 r hr).1)
    ⟨k, true, hk, rfl⟩
  exact key
theorem zg : wj Try.prog Seat.ext := fun f gf x y h => (by cases h)
theorem lifted (os : Os) (started : os.Started) (H : Type) (enc : TypeId × Value → H) :
    ReturnsInHanded {} Try.checked os 7 .any (Rows.fnExactStandardizeTableauSpec.pre6 enc Try.prog Try.f7 Rows.fnExactStandardizeTableauRow.domain false) (Rows.fnExactStandardizeTableauSpec.post enc Try.prog Try.f7 false true false false) := by
  refine returnsInHanded_of_change_sized (C := Try.checked) own started (by kernel_rfl) Try.func7
    (ChangeSpec.witness6 (enc := enc) (C := Try.checked) false ⟨#[], #[.agg #[.slice none 0 0, .slice none 0 0]], []⟩ 8 (by kernel_rfl) (by kernel_rfl) (by kernel_rfl) (by kernel_rfl)) ?_
  intro W base args ds gs before hval hW _ _ _
  exact sH xH zg laid Try.func7 rfl (fun ds h => by match ds, h with | [_], _ => rfl) (by kernel_rfl) (by kernel_rfl) Try.underlying4 pure hval hW
theorem zy : Rows.fnExactStandardizeTableauRow.holds Try.pinned (OpenSpec.ofChange Rows.fnExactStandardizeTableauSpec) :=
  OpenClaim.holds_of_wide 7 Try.f7 rfl rfl rfl rfl rfl rfl rfl ⟨rfl, rfl, rfl, rfl, rfl⟩ rfl rfl rfl rfl rfl (by kernel_rfl) Try.func7 (by kernel_rfl)
    (of_decide_eq_true (by kernel_rfl)) (by unfold Func.isWrapper; first | (rw [if_pos (by decide +kernel)]; kernel_rfl) | (rw [if_neg (by decide +kernel)]; exact ⟨rfl, rfl⟩))
    (fun os started H enc _ => lifted os started H enc)
end Go.Proofs.Ytilkippgilnhcaa.fnExactStandardizeTableau
namespace Go.Proofs.Ytilkippgilnhcaa
theorem fnExactStandardizeTableau_holds : Rows.FnExactStandardizeTableauSaid := fnExactStandardizeTableau.zy
#print axioms fnExactStandardizeTableau_holds
end Go.Proofs.Ytilkippgilnhcaa
