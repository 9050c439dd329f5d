/-
  No cell of these rows narrows 'for every input' (looked for: loops, veiled, ifaces, maps, wideKeys, modest, calm, conditions, laid).
  DERIVED. THE GIVEN ROWS OF THIS SEAT. 5 by the template 'for every input the law returns true; each argument reads behind the call as it read before'; 0 by the template 'total and deterministic' (their statements: YtelfgomnakpfmaaTotals.lean).
  GIVEN WITH THE SEED: the statements are not yours to turn. If you find one false, say at which input.
  Laid BY PROGRAM, IN A SANDBOX (cutbox-rows.mjs): the forced cells as the released guide's own fill.sh prints them over the translation 096b8df3963f6f18… (all of the seat's roots in one cut). By AI agents, Wed Nov 11 2026. No macro, syntax, notation, axiom, sorry.
-/
import Derived.Test.YtelfgomnakpfmaaChecked
import GoSem.Claim
import GoSem.ClaimJoined
import GoSem.ClaimMapViews
import Derived.JoinedTies
import Derived.KernelRfl
namespace Go.Proofs.Ytelfgomnakpfmaa
/- THE CELL 'sum', in the pinned program and in every row, IS THE sha256 OF THE DUMP (.gsa) THAT YtelfgomnakpfmaaProg.lean LOADS. Nothing in Lean hashes anything: it is a label: what it is worth is what the hold of that sum in a sandbox is worth. -/
noncomputable def Try.pinned : Pinned := { name := "ytelfgomnakpfmaa", sum := "096b8df3963f6f1806bf752d639cc3c41f8c90cb4e628a2e320db93036217cfd", checked := Try.checked }
namespace Rows
def none {H : Type} : Left H := { results := [], args := [] }

/-- 'laws.FnExactExampleText': WHATEVER THE INPUT: true; the input reads as it did. -/
def fnExactExampleTextSpec : ChangeSpec := { name := "fnExactExampleText", fn := fun _ => fun
  | [d] => { results := [.lit (.bool true)], args := [d] }
  | _ => none }
def fnExactExampleTextRow : OpenClaim := { program := "ytelfgomnakpfmaa", sum := "096b8df3963f6f1806bf752d639cc3c41f8c90cb4e628a2e320db93036217cfd", func := "loop.example/g00598/laws.FnExactExampleText", spec := "fnExactExampleText", apart := false }
def FnExactExampleTextSaid : Prop := fnExactExampleTextRow.holds Try.pinned (OpenSpec.ofChange fnExactExampleTextSpec)

/-- ITS FALSE NEIGHBOUR: 'it returns false'. Refute it at one input. -/
def fnExactExampleTextWrong : ChangeSpec := { name := "fnExactExampleText", fn := fun _ => fun
  | [d] => { results := [.lit (.bool false)], args := [d] }
  | _ => none }
def FnExactExampleTextWrongFalsely : Prop := fnExactExampleTextRow.holds Try.pinned (OpenSpec.ofChange fnExactExampleTextWrong)

/-- 'laws.FnExactEqualSession': WHATEVER THE INPUT: true; the input reads as it did. -/
def fnExactEqualSessionSpec : ChangeSpec := { name := "fnExactEqualSession", fn := fun _ => fun
  | [d1, d2] => { results := [.lit (.bool true)], args := [d1, d2] }
  | _ => none }
def fnExactEqualSessionRow : OpenClaim := { program := "ytelfgomnakpfmaa", sum := "096b8df3963f6f1806bf752d639cc3c41f8c90cb4e628a2e320db93036217cfd", func := "loop.example/g00598/laws.FnExactEqualSession", spec := "fnExactEqualSession", apart := false }
def FnExactEqualSessionSaid : Prop := fnExactEqualSessionRow.holds Try.pinned (OpenSpec.ofChange fnExactEqualSessionSpec)

/-- ITS FALSE NEIGHBOUR: 'it returns false'. Refute it at one input. -/
def fnExactEqualSessionWrong : ChangeSpec := { name := "fnExactEqualSession", fn := fun _ => fun
  | [d1, d2] => { results := [.lit (.bool false)], args := [d1, d2] }
  | _ => none }
def FnExactEqualSessionWrongFalsely : Prop := fnExactEqualSessionRow.holds Try.pinned (OpenSpec.ofChange fnExactEqualSessionWrong)

/-- 'laws.FnExactInsertNumber': WHATEVER THE INPUT: true; the input reads as it did. -/
def fnExactInsertNumberSpec : ChangeSpec := { name := "fnExactInsertNumber", fn := fun _ => fun
  | [d1, d2] => { results := [.lit (.bool true)], args := [d1, d2] }
  | _ => none }
def fnExactInsertNumberRow : OpenClaim := { program := "ytelfgomnakpfmaa", sum := "096b8df3963f6f1806bf752d639cc3c41f8c90cb4e628a2e320db93036217cfd", func := "loop.example/g00598/laws.FnExactInsertNumber", spec := "fnExactInsertNumber", unfollowed := true, recurses := true, apart := false }
def FnExactInsertNumberSaid : Prop := fnExactInsertNumberRow.holds Try.pinned (OpenSpec.ofChange fnExactInsertNumberSpec)

/-- ITS FALSE NEIGHBOUR: 'it returns false'. Refute it at one input. -/
def fnExactInsertNumberWrong : ChangeSpec := { name := "fnExactInsertNumber", fn := fun _ => fun
  | [d1, d2] => { results := [.lit (.bool false)], args := [d1, d2] }
  | _ => none }
def FnExactInsertNumberWrongFalsely : Prop := fnExactInsertNumberRow.holds Try.pinned (OpenSpec.ofChange fnExactInsertNumberWrong)

/-- 'laws.FnExactRemoveCell': WHATEVER THE INPUT: true; the input reads as it did. -/
def fnExactRemoveCellSpec : ChangeSpec := { name := "fnExactRemoveCell", fn := fun _ => fun
  | [d1, d2] => { results := [.lit (.bool true)], args := [d1, d2] }
  | _ => none }
def fnExactRemoveCellRow : OpenClaim := { program := "ytelfgomnakpfmaa", sum := "096b8df3963f6f1806bf752d639cc3c41f8c90cb4e628a2e320db93036217cfd", func := "loop.example/g00598/laws.FnExactRemoveCell", spec := "fnExactRemoveCell", unfollowed := true, recurses := true, apart := false }
def FnExactRemoveCellSaid : Prop := fnExactRemoveCellRow.holds Try.pinned (OpenSpec.ofChange fnExactRemoveCellSpec)

/-- ITS FALSE NEIGHBOUR: 'it returns false'. Refute it at one input. -/
def fnExactRemoveCellWrong : ChangeSpec := { name := "fnExactRemoveCell", fn := fun _ => fun
  | [d1, d2] => { results := [.lit (.bool false)], args := [d1, d2] }
  | _ => none }
def FnExactRemoveCellWrongFalsely : Prop := fnExactRemoveCellRow.holds Try.pinned (OpenSpec.ofChange fnExactRemoveCellWrong)

/-- 'laws.FnExactCornerTableau': WHATEVER THE INPUT: true; the input reads as it did. -/
def fnExactCornerTableauSpec : ChangeSpec := { name := "fnExactCornerTableau", fn := fun _ => fun
  | [d1, d2] => { results := [.lit (.bool true)], args := [d1, d2] }
  | _ => none }
def fnExactCornerTableauRow : OpenClaim := { program := "ytelfgomnakpfmaa", sum := "096b8df3963f6f1806bf752d639cc3c41f8c90cb4e628a2e320db93036217cfd", func := "loop.example/g00598/laws.FnExactCornerTableau", spec := "fnExactCornerTableau", apart := false }
def FnExactCornerTableauSaid : Prop := fnExactCornerTableauRow.holds Try.pinned (OpenSpec.ofChange fnExactCornerTableauSpec)

/-- ITS FALSE NEIGHBOUR: 'it returns false'. Refute it at one input. -/
def fnExactCornerTableauWrong : ChangeSpec := { name := "fnExactCornerTableau", fn := fun _ => fun
  | [d1, d2] => { results := [.lit (.bool false)], args := [d1, d2] }
  | _ => none }
def FnExactCornerTableauWrongFalsely : Prop := fnExactCornerTableauRow.holds Try.pinned (OpenSpec.ofChange fnExactCornerTableauWrong)

/- THE SECOND FORM. 'bulk': how many values and letters a reading holds, each counted each time it is reached (what is shared counts as often as it is met; a slice's spare places count too). A statement '..UptoSaid' is the law's where the arguments, and the package variables that the reading takes, are together of bulk at most 1048576: NARROWER than '..Said'. Prove '..Said' where nothing that the law and all that it calls make is longer than what came in: it says more and counts as full. Else prove '..UptoSaid'. A law counts once. -/
mutual
def uptoBulk {H : Type} : DataW H → Nat
  | .lit (.string bytes) => bytes.length + 1
  | .lit _ => 1
  | .nil => 1
  | .ptr d => uptoBulk d + 1
  | .slice elems spare => uptoBulkAll elems + uptoBulkAll spare + 1
  | .agg parts => uptoBulkAll parts + 1
  | .iface _ d => uptoBulk d + 1
  | .map entries => uptoBulkEntries entries + 1
  | .held _ => 1
def uptoBulkAll {H : Type} : List (DataW H) → Nat
  | [] => 0
  | d :: r => uptoBulk d + uptoBulkAll r
def uptoBulkEntries {H : Type} : List (Lit × DataW H) → Nat
  | [] => 0
  | x :: r => uptoBulkEntry x + uptoBulkEntries r
def uptoBulkEntry {H : Type} : Lit × DataW H → Nat
  | (.string bytes, d) => bytes.length + uptoBulk d + 1
  | (_, d) => uptoBulk d + 1
 end
def uptoSmall : (H : Type) → List (DataW H) → Bool := fun _ ds => decide (uptoBulkAll ds ≤ 1048576)
def OpenSpec.upto (s : _root_.Go.ChangeSpec) : _root_.Go.OpenSpec := { _root_.Go.OpenSpec.ofChange s with cond := some uptoSmall }

/-- 'laws.FnExactExampleText', WHERE WHAT IT READS IS OF BULK AT MOST 1048576: true; the input reads as it did. -/
def fnExactExampleTextUptoRow : OpenClaim := { program := "ytelfgomnakpfmaa", sum := "096b8df3963f6f1806bf752d639cc3c41f8c90cb4e628a2e320db93036217cfd", func := "loop.example/g00598/laws.FnExactExampleText", spec := "fnExactExampleText", apart := false, narrowed := true }
def FnExactExampleTextUptoSaid : Prop := fnExactExampleTextUptoRow.holds Try.pinned (OpenSpec.upto fnExactExampleTextSpec)

/-- 'laws.FnExactEqualSession', WHERE WHAT IT READS IS OF BULK AT MOST 1048576: true; the input reads as it did. -/
def fnExactEqualSessionUptoRow : OpenClaim := { program := "ytelfgomnakpfmaa", sum := "096b8df3963f6f1806bf752d639cc3c41f8c90cb4e628a2e320db93036217cfd", func := "loop.example/g00598/laws.FnExactEqualSession", spec := "fnExactEqualSession", apart := false, narrowed := true }
def FnExactEqualSessionUptoSaid : Prop := fnExactEqualSessionUptoRow.holds Try.pinned (OpenSpec.upto fnExactEqualSessionSpec)

/-- 'laws.FnExactInsertNumber', WHERE WHAT IT READS IS OF BULK AT MOST 1048576: true; the input reads as it did. -/
def fnExactInsertNumberUptoRow : OpenClaim := { program := "ytelfgomnakpfmaa", sum := "096b8df3963f6f1806bf752d639cc3c41f8c90cb4e628a2e320db93036217cfd", func := "loop.example/g00598/laws.FnExactInsertNumber", spec := "fnExactInsertNumber", unfollowed := true, recurses := true, apart := false, narrowed := true }
def FnExactInsertNumberUptoSaid : Prop := fnExactInsertNumberUptoRow.holds Try.pinned (OpenSpec.upto fnExactInsertNumberSpec)

/-- 'laws.FnExactRemoveCell', WHERE WHAT IT READS IS OF BULK AT MOST 1048576: true; the input reads as it did. -/
def fnExactRemoveCellUptoRow : OpenClaim := { program := "ytelfgomnakpfmaa", sum := "096b8df3963f6f1806bf752d639cc3c41f8c90cb4e628a2e320db93036217cfd", func := "loop.example/g00598/laws.FnExactRemoveCell", spec := "fnExactRemoveCell", unfollowed := true, recurses := true, apart := false, narrowed := true }
def FnExactRemoveCellUptoSaid : Prop := fnExactRemoveCellUptoRow.holds Try.pinned (OpenSpec.upto fnExactRemoveCellSpec)

/-- 'laws.FnExactCornerTableau', WHERE WHAT IT READS IS OF BULK AT MOST 1048576: true; the input reads as it did. -/
def fnExactCornerTableauUptoRow : OpenClaim := { program := "ytelfgomnakpfmaa", sum := "096b8df3963f6f1806bf752d639cc3c41f8c90cb4e628a2e320db93036217cfd", func := "loop.example/g00598/laws.FnExactCornerTableau", spec := "fnExactCornerTableau", apart := false, narrowed := true }
def FnExactCornerTableauUptoSaid : Prop := fnExactCornerTableauUptoRow.holds Try.pinned (OpenSpec.upto fnExactCornerTableauSpec)

end Rows
end Go.Proofs.Ytelfgomnakpfmaa
