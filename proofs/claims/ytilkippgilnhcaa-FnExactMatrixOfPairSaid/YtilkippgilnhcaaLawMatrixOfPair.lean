/- The law FnExactMatrixOfPair answers true whatever it is given, and the arguments read as they did. -/
import Derived.Test.YtilkippgilnhcaaRows
import Derived.Test.YtilkippgilnhcaaPureMatrixOfPair
import Derived.Test.YtilkippgilnhcaaAmW
import Derived.WalkKit
import Derived.ProofKit
import Derived.OpenShut
import Derived.SizedLaws
set_option linter.unusedSimpArgs false
set_option linter.unusedVariables false
set_option linter.unnecessarySimpa false
set_option linter.unusedSectionVars false
namespace Go.Proofs.Ytilkippgilnhcaa.fnExactMatrixOfPair
open Go.Am
attribute [local instance] D.real
set_option maxRecDepth 100000
theorem own : ownKnob Try.prog.godebug = none := by kernel_rfl
theorem laid : laidOutB Try.prog = true := by kernel_rfl
def AP (P : Program) : Bool := P.funcs.toList.all fun fn => !(fn.name == "runtime.NumGoroutine")
theorem yU : AP Try.prog = true := by kernel_rfl
theorem yN : Go.Am.Good Try.prog := ⟨fun f fn hf _ => by
  have h := List.all_eq_true.1 yU fn (by
    have := Array.mem_of_getElem? hf
    simpa using this)
  simpa using h, by kernel_rfl⟩
theorem pure : ∀ x : den (gn Try.prog 5), WfD (gn Try.prog 5) x → ∃ k y, uc Try.prog Seat.cfg Seat.ext k 5 x = some y ∧ sC (resTy Try.prog 5) y := by
  have key : ∀ x : den (.pair (.pair (.sl (.int .i64)) (.sl (.sl (.int .i64)))) (.pair (.pair (.sl (.int .i64)) (.sl (.sl (.int .i64)))) (.pair (.int .i64) (.int .i64)))), WfD (.pair (.pair (.sl (.int .i64)) (.sl (.sl (.int .i64)))) (.pair (.pair (.sl (.int .i64)) (.sl (.sl (.int .i64)))) (.pair (.int .i64) (.int .i64)))) x →
      ∃ k, ∃ y : den .bool, Seat.az k x.1 x.2.1 x.2.2.1 x.2.2.2 = some y ∧ sC .bool y := fun x h =>
    let ⟨k, hk⟩ := Seat.az.is (p := x.1) (q := x.2.1) (r0 := x.2.2.1) (c0 := x.2.2.2) h.1.1.1 h.1.2.1 (fun r hr => (h.1.2.2 r hr).1) h.2.1.1.1 h.2.1.2.1 (fun r hr => (h.2.1.2.2 r hr).1)
    ⟨k, true, hk, rfl⟩
  exact key
theorem Aj : w8 Try.prog Seat.ext := fun f gf x y h => (by cases h)
theorem lifted (os : Os) (started : os.Started) (H : Type) (enc : TypeId × Value → H) :
    ReturnsInHanded {} Try.checked os 5 .any (Rows.fnExactMatrixOfPairSpec.pre6 enc Try.prog Try.f5 Rows.fnExactMatrixOfPairRow.domain false) (Rows.fnExactMatrixOfPairSpec.post enc Try.prog Try.f5 false true false false) := by
  refine returnsInHanded_of_change_sized (C := Try.checked) own started (by kernel_rfl) Try.func5
    (ChangeSpec.witness6 (enc := enc) (C := Try.checked) false ⟨#[], #[.agg #[.slice none 0 0, .slice none 0 0], .agg #[.slice none 0 0, .slice none 0 0], .int .i64 0, .int .i64 0], []⟩ 8 (by kernel_rfl) (by kernel_rfl) (by kernel_rfl) (by kernel_rfl)) ?_
  intro W base args ds gs before hval hW _ _ _
  exact tv yN Aj laid Try.func5 rfl (fun ds h => by match ds, h with | [_, _, _, _], _ => rfl) (by kernel_rfl) (by kernel_rfl) Try.underlying4 pure hval hW
theorem Bj : Rows.fnExactMatrixOfPairRow.holds Try.pinned (OpenSpec.ofChange Rows.fnExactMatrixOfPairSpec) :=
  OpenClaim.holds_of_wide 5 Try.f5 rfl rfl rfl rfl rfl rfl rfl ⟨rfl, rfl, rfl, rfl, rfl⟩ rfl rfl rfl rfl rfl (by kernel_rfl) Try.func5 (by kernel_rfl)
    (of_decide_eq_true (by kernel_rfl)) (by unfold Func.isWrapper; first | (rw [if_pos (by decide +kernel)]; kernel_rfl) | (rw [if_neg (by decide +kernel)]; exact ⟨rfl, rfl⟩))
    (fun os started H enc _ => lifted os started H enc)
end Go.Proofs.Ytilkippgilnhcaa.fnExactMatrixOfPair
namespace Go.Proofs.Ytilkippgilnhcaa
theorem fnExactMatrixOfPair_holds : Rows.FnExactMatrixOfPairSaid := fnExactMatrixOfPair.Bj
#print axioms fnExactMatrixOfPair_holds
end Go.Proofs.Ytilkippgilnhcaa
