/- The law FnExactPromotionOrbit answers true whatever it is given, and the arguments read as they did. -/
import Derived.Test.YtjembjngimmfmaaRows
import Derived.Test.YtjembjngimmfmaaPurePromotionOrbit
import Derived.Test.YtjembjngimmfmaaAmW
import Derived.WalkKit
import Derived.ProofKit
import Derived.OpenShut
import Derived.SizedLaws
set_option linter.unusedSimpArgs false
set_option linter.unusedVariables false
set_option linter.unnecessarySimpa false
set_option linter.unusedSectionVars false
namespace Go.Proofs.Ytjembjngimmfmaa.fnExactPromotionOrbit
open Go.Am
attribute [local instance] D.real
set_option maxRecDepth 100000
theorem own : ownKnob Try.prog.godebug = none := by kernel_rfl
theorem laid : laidOutB Try.prog = true := by kernel_rfl
def AU (P : Program) : Bool := P.funcs.toList.all fun fn => !(fn.name == "runtime.NumGoroutine")
theorem zI : AU Try.prog = true := by kernel_rfl
theorem zL : Go.Am.Good Try.prog := ⟨fun f fn hf _ => by
  have h := List.all_eq_true.1 zI fn (by
    have := Array.mem_of_getElem? hf
    simpa using this)
  simpa using h, by kernel_rfl⟩
theorem pure : ∀ x : den (gL Try.prog 8), WfD (gL Try.prog 8) x → ∃ k y, uL Try.prog Seat.cfg Seat.ext k 8 x = some y ∧ tp (resTy Try.prog 8) y := by
  have key : ∀ x : den (.pair (.sl (.int .i64)) (.sl (.sl (.int .i64)))), WfD (.pair (.sl (.int .i64)) (.sl (.sl (.int .i64)))) x →
      ∃ k, ∃ y : den .bool, Seat.a8 k x = some y ∧ tp .bool y := fun x h =>
    let ⟨k, hk⟩ := Seat.a8.is (t := x) h.1.1 h.2.1 (fun r hr => (h.2.2 r hr).1)
    ⟨k, true, hk, rfl⟩
  exact key
theorem AH : xD Try.prog Seat.ext := fun f gf x y h => (by cases h)
theorem lifted (os : Os) (started : os.Started) (H : Type) (enc : TypeId × Value → H) :
    ReturnsInHanded {} Try.checked os 8 .any (Rows.fnExactPromotionOrbitSpec.pre6 enc Try.prog Try.f8 Rows.fnExactPromotionOrbitRow.domain false) (Rows.fnExactPromotionOrbitSpec.post enc Try.prog Try.f8 false true false false) := by
  refine returnsInHanded_of_change_sized (C := Try.checked) own started (by kernel_rfl) Try.func8
    (ChangeSpec.witness6 (enc := enc) (C := Try.checked) false ⟨#[], #[.agg #[.slice none 0 0, .slice none 0 0]], []⟩ 8 (by kernel_rfl) (by kernel_rfl) (by kernel_rfl) (by kernel_rfl)) ?_
  intro W base args ds gs before hval hW _ _ _
  exact uu zL AH laid Try.func8 rfl (fun ds h => by match ds, h with | [_], _ => rfl) (by kernel_rfl) (by kernel_rfl) Try.underlying4 pure hval hW
theorem BA : Rows.fnExactPromotionOrbitRow.holds Try.pinned (OpenSpec.ofChange Rows.fnExactPromotionOrbitSpec) :=
  OpenClaim.holds_of_wide 8 Try.f8 rfl rfl rfl rfl rfl rfl rfl ⟨rfl, rfl, rfl, rfl, rfl⟩ rfl rfl rfl rfl rfl (by kernel_rfl) Try.func8 (by kernel_rfl)
    (of_decide_eq_true (by kernel_rfl)) (by unfold Func.isWrapper; first | (rw [if_pos (by decide +kernel)]; kernel_rfl) | (rw [if_neg (by decide +kernel)]; exact ⟨rfl, rfl⟩))
    (fun os started H enc _ => lifted os started H enc)
end Go.Proofs.Ytjembjngimmfmaa.fnExactPromotionOrbit
namespace Go.Proofs.Ytjembjngimmfmaa
theorem fnExactPromotionOrbit_holds : Rows.FnExactPromotionOrbitSaid := fnExactPromotionOrbit.BA
#print axioms fnExactPromotionOrbit_holds
end Go.Proofs.Ytjembjngimmfmaa
