/- The program's ExampleText returns what the reference's returns, for every int: the pure law behind the printed row. -/
import Derived.Test.YtelfgomnakpfmaaPFnExactExampleTextx1
namespace Go.Proofs.Ytelfgomnakpfmaa.Pure
open Go.RowKit Go.Proofs.Ytelfgomnakpfmaa.PFnExactExampleText Go.Proofs.YtelfgomnakpfmaaW.PrintWords Go.Proofs.YtelfgomnakpfmaaW.PrintLast

/-- YOURS: ∀ (a0 : Int), (Lit.int .i64 a0).wf = true → laws_FnExactExampleText.f a0 = some true
What it reaches (each with k first where it has rounds; `.mono`: more rounds tell the same; `.l0`, ..: its loops, with `.mono_l`): spec_ExampleText.f, impl_within.f, impl_ExampleText.f, laws_FnExactExampleText.f -/
theorem FnExactExampleText : laws_FnExactExampleText.Pure := by
  intro a0 _
  unfold laws_FnExactExampleText.f spec_ExampleText.f impl_ExampleText.f impl_within.f
  by_cases h1 : a0 = 1
  · subst h1; kernel_rfl
  by_cases h2 : a0 = 2
  · subst h2; kernel_rfl
  by_cases h3 : a0 = 3
  · subst h3; kernel_rfl
  by_cases h4 : a0 = 4
  · subst h4; kernel_rfl
  by_cases h5 : a0 = 5
  · subst h5; kernel_rfl
  by_cases h6 : a0 = 6
  · subst h6; kernel_rfl
  rw [if_neg h1, if_neg h2, if_neg h3, if_neg h4, if_neg h5, if_neg h6]
  by_cases g1 : 1 ≤ a0
  · rw [if_pos g1]
    have g2 : ¬ a0 ≤ 6 := by omega
    simp [g2]
  · rw [if_neg g1]
    simp

end Go.Proofs.Ytelfgomnakpfmaa.Pure
