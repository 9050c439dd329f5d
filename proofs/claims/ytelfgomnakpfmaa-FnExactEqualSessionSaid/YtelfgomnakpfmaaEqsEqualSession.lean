/- The machine's equations for the functions that the law reaches, each checked by the kernel; no conditions. -/
import Derived.Test.YtelfgomnakpfmaaCfgEqualSession
import Derived.Test.YtelfgomnakpfmaaProg
set_option linter.unusedSimpArgs false
set_option linter.unusedVariables false
set_option linter.unnecessarySimpa false
set_option linter.unusedSectionVars false
noncomputable section
namespace Go.Am.Seat
open Go Go.Am Go.Proofs
set_option linter.unusedVariables false
set_option linter.unusedSectionVars false
variable [D] [DJ]
def ext : Ext Go.Proofs.Try.prog := fun _ => none
noncomputable def X {R : Type} (k f : Nat) (c : Code) : St → Kont R → Option R := exec Go.Proofs.Try.prog cfg (envAt Go.Proofs.Try.prog cfg ext k) k f c
noncomputable abbrev call (k f : Nat) (x : den (argTy Go.Proofs.Try.prog f)) : Option (den (resTy Go.Proofs.Try.prog f)) := amcall Go.Proofs.Try.prog cfg ext k f x
/-! 27: laws_szIntS -/
noncomputable def laws_szIntS (k : Nat) (a0 : (List Int)) (a1 : Int) : Option Int := call k 27 (a0, a1)
theorem laws_szIntS.eq (k : Nat) (a0 : (List Int)) (a1 : Int) : laws_szIntS (k + 1) a0 a1 = D.test (D.lt (D.wrap .i64 (D.sub a1 (D.ofN (D.len a0)))) 0) (some (-1)) (some (D.wrap .i64 (D.sub a1 (D.ofN (D.len a0))))) := by kernel_rfl
/-! 10: laws_szSession -/
noncomputable def laws_szSession (k : Nat) (a0 : ((List Int) × (List Int))) (a1 : Int) : Option Int := call k 10 (a0, a1)
theorem laws_szSession.eq (k : Nat) (a0 : ((List Int) × (List Int))) (a1 : Int) : laws_szSession (k + 1) a0 a1 = D.bnd (laws_szIntS k a0.1 a1) fun r0 => D.test (D.lt r0 0) (some (-1)) (D.bnd (laws_szIntS k a0.2 r0) fun r1 => D.test (D.lt r1 0) (some (-1)) (some r1)) := by kernel_rfl
noncomputable def laws_toIntS.c0 : Code := bodyOf Go.Proofs.Try.prog 29
noncomputable def laws_toIntS.c1 : Code := Code.cB laws_toIntS.c0
noncomputable def laws_toIntS.c2 : Code := Code.cB laws_toIntS.c1
noncomputable def laws_toIntS.c3 : Code := Code.cA laws_toIntS.c2
noncomputable def laws_toIntS.c4 : Code := Code.cB laws_toIntS.c3
noncomputable def laws_toIntS.c5 : Code := Code.cC laws_toIntS.c4
noncomputable def laws_toIntS.c6 : Code := Code.cC laws_toIntS.c5
noncomputable def laws_toIntS.c7 : Code := Code.cB laws_toIntS.c2
noncomputable def laws_toIntS.K0 : Kont (den (resTy Go.Proofs.Try.prog 29)) := (retC (finish Go.Proofs.Try.prog 29 (fnOf Go.Proofs.Try.prog 29)))
noncomputable def laws_toIntS.K1 (k : Nat) : Kont (den (resTy Go.Proofs.Try.prog 29)) := (seqC (fun z3 => (fun z4 => (headC (Cfg.joins cfg 29 (key laws_toIntS.c7)) (fun z5 => (X k 29 laws_toIntS.c7 z5 z4)) z3))) laws_toIntS.K0)
noncomputable def laws_toIntS.K2 (k : Nat) : Kont (den (resTy Go.Proofs.Try.prog 29)) := (blockC 0 (laws_toIntS.K1 k))
/-! 29: laws_toIntS -/
noncomputable def laws_toIntS (k : Nat) (a0 : (List Int)) : Option (List Int) := call k 29 (a0)
noncomputable def laws_toIntS.L0 (k : Nat) (j : Nat) (x0 : Int) (x1 : (List Int)) (x2 : (List Int)) : Option (List Int) := D.jn (fun z0 => (loopN (fun z1 => (fun z2 => (X k 29 laws_toIntS.c6 z1 z2))) (Cfg.loops cfg 29 (key laws_toIntS.c6)) j z0 (laws_toIntS.K2 k))) (St.mk [(frm 22 [(0, (.sl 0 [] (Option.none))), (3, (.sl 1 [] (Option.none))), (4, (.int .i64 x0))])] [(.row Bool.false (.int .i64) x1), (.row Bool.true (.int .i64) x2)])
theorem laws_toIntS.eq (k : Nat) (a0 : (List Int)) : laws_toIntS (k + 1) a0 = D.test (D.le 0 (D.ofN (D.len a0))) (D.test (D.le (D.ofN (D.len a0)) (D.ofN (D.len a0))) (D.test (D.leN (D.nat (D.ofN (D.len a0))) 1099511627776) (laws_toIntS.L0 k k 0 a0 (D.rep (D.nat (D.ofN (D.len a0))) 0)) (none)) (none)) (none) := by kernel_rfl
theorem laws_toIntS.L0_eq (k : Nat) (j : Nat) (x0 : Int) (x1 : (List Int)) (x2 : (List Int)) : laws_toIntS.L0 k (j + 1) x0 x1 x2 = D.test (D.lt x0 (D.ofN (D.len x1))) (D.test (D.le 0 x0) (D.test (D.ltN (D.nat x0) (D.len x1)) (D.test (D.ltN (D.nat x0) (D.len x1)) (D.test (D.le 0 x0) (D.test (D.ltN (D.nat x0) (D.len x2)) (D.test (D.ltN (D.nat x0) (D.len x2)) (laws_toIntS.L0 k j (D.wrap .i64 (D.add x0 1)) x1 (D.set x2 (D.nat x0) (D.rd x1 (D.nat x0) 0))) (none)) (none)) (none)) (none)) (none)) (none)) (some x2) := by refine (DJ.jn_eq _ _).trans ?_; kernel_rfl
/-! 12: laws_toSession -/
noncomputable def laws_toSession (k : Nat) (a0 : ((List Int) × (List Int))) : Option ((List Int) × (List Int)) := call k 12 (a0)
theorem laws_toSession.eq (k : Nat) (a0 : ((List Int) × (List Int))) : laws_toSession (k + 1) a0 = D.bnd (laws_toIntS k a0.1) fun r0 => D.bnd (laws_toIntS k a0.2) fun r1 => some (r0, r1) := by kernel_rfl
noncomputable def spec_l2Same.c0 : Code := bodyOf Go.Proofs.Try.prog 28
noncomputable def spec_l2Same.c1 : Code := Code.cB spec_l2Same.c0
noncomputable def spec_l2Same.c2 : Code := Code.cB spec_l2Same.c1
noncomputable def spec_l2Same.c3 : Code := Code.cA spec_l2Same.c2
noncomputable def spec_l2Same.c4 : Code := Code.cB spec_l2Same.c3
noncomputable def spec_l2Same.c5 : Code := Code.cC spec_l2Same.c4
noncomputable def spec_l2Same.c6 : Code := Code.cC spec_l2Same.c5
noncomputable def spec_l2Same.c7 : Code := Code.cB spec_l2Same.c2
noncomputable def spec_l2Same.K0 : Kont (den (resTy Go.Proofs.Try.prog 28)) := (retC (finish Go.Proofs.Try.prog 28 (fnOf Go.Proofs.Try.prog 28)))
noncomputable def spec_l2Same.K1 (k : Nat) : Kont (den (resTy Go.Proofs.Try.prog 28)) := (seqC (fun z3 => (fun z4 => (headC (Cfg.joins cfg 28 (key spec_l2Same.c7)) (fun z5 => (X k 28 spec_l2Same.c7 z5 z4)) z3))) spec_l2Same.K0)
noncomputable def spec_l2Same.K2 (k : Nat) : Kont (den (resTy Go.Proofs.Try.prog 28)) := (blockC 0 (spec_l2Same.K1 k))
/-! 28: spec_l2Same -/
noncomputable def spec_l2Same (k : Nat) (a0 : (List Int)) (a1 : (List Int)) : Option Bool := call k 28 (a0, a1)
noncomputable def spec_l2Same.L0 (k : Nat) (j : Nat) (x0 : Int) (x1 : (List Int)) (x2 : (List Int)) : Option Bool := D.jn (fun z0 => (loopN (fun z1 => (fun z2 => (X k 28 spec_l2Same.c6 z1 z2))) (Cfg.loops cfg 28 (key spec_l2Same.c6)) j z0 (spec_l2Same.K2 k))) (St.mk [(frm 26 [(0, (.sl 0 [] (Option.none))), (1, (.sl 1 [] (Option.none))), (5, (.int .i64 x0))])] [(.row Bool.false (.int .i64) x1), (.row Bool.false (.int .i64) x2)])
theorem spec_l2Same.eq (k : Nat) (a0 : (List Int)) (a1 : (List Int)) : spec_l2Same (k + 1) a0 a1 = D.test (D.no (D.eq (D.ofN (D.len a0)) (D.ofN (D.len a1)))) (some false) (spec_l2Same.L0 k k 0 a0 a1) := by kernel_rfl
theorem spec_l2Same.L0_eq (k : Nat) (j : Nat) (x0 : Int) (x1 : (List Int)) (x2 : (List Int)) : spec_l2Same.L0 k (j + 1) x0 x1 x2 = D.test (D.lt x0 (D.ofN (D.len x1))) (D.test (D.le 0 x0) (D.test (D.ltN (D.nat x0) (D.len x1)) (D.test (D.ltN (D.nat x0) (D.len x1)) (D.test (D.le 0 x0) (D.test (D.ltN (D.nat x0) (D.len x2)) (D.test (D.ltN (D.nat x0) (D.len x2)) (D.test (D.no (D.eq (D.rd x1 (D.nat x0) 0) (D.rd x2 (D.nat x0) 0))) (some false) (spec_l2Same.L0 k j (D.wrap .i64 (D.add x0 1)) x1 x2)) (none)) (none)) (none)) (none)) (none)) (none)) (some true) := by refine (DJ.jn_eq _ _).trans ?_; kernel_rfl
/-! 11: spec_EqualSession -/
noncomputable def spec_EqualSession (k : Nat) (a0 : ((List Int) × (List Int))) (a1 : ((List Int) × (List Int))) : Option Bool := call k 11 (a0, a1)
theorem spec_EqualSession.eq (k : Nat) (a0 : ((List Int) × (List Int))) (a1 : ((List Int) × (List Int))) : spec_EqualSession (k + 1) a0 a1 = D.bnd (spec_l2Same k a0.1 a1.1) fun r0 => D.test r0 (D.bnd (spec_l2Same k a0.2 a1.2) fun r1 => some r1) (some false) := by kernel_rfl
noncomputable def slices_Equal__int_int.c0 : Code := bodyOf Go.Proofs.Try.prog 30
noncomputable def slices_Equal__int_int.c1 : Code := Code.cB slices_Equal__int_int.c0
noncomputable def slices_Equal__int_int.c2 : Code := Code.cB slices_Equal__int_int.c1
noncomputable def slices_Equal__int_int.c3 : Code := Code.cA slices_Equal__int_int.c2
noncomputable def slices_Equal__int_int.c4 : Code := Code.cB slices_Equal__int_int.c3
noncomputable def slices_Equal__int_int.c5 : Code := Code.cC slices_Equal__int_int.c4
noncomputable def slices_Equal__int_int.c6 : Code := Code.cC slices_Equal__int_int.c5
noncomputable def slices_Equal__int_int.c7 : Code := Code.cB slices_Equal__int_int.c2
noncomputable def slices_Equal__int_int.K0 : Kont (den (resTy Go.Proofs.Try.prog 30)) := (retC (finish Go.Proofs.Try.prog 30 (fnOf Go.Proofs.Try.prog 30)))
noncomputable def slices_Equal__int_int.K1 (k : Nat) : Kont (den (resTy Go.Proofs.Try.prog 30)) := (seqC (fun z3 => (fun z4 => (headC (Cfg.joins cfg 30 (key slices_Equal__int_int.c7)) (fun z5 => (X k 30 slices_Equal__int_int.c7 z5 z4)) z3))) slices_Equal__int_int.K0)
noncomputable def slices_Equal__int_int.K2 (k : Nat) : Kont (den (resTy Go.Proofs.Try.prog 30)) := (blockC 0 (slices_Equal__int_int.K1 k))
/-! 30: slices_Equal__int_int -/
noncomputable def slices_Equal__int_int (k : Nat) (a0 : (List Int)) (a1 : (List Int)) : Option Bool := call k 30 (a0, a1)
noncomputable def slices_Equal__int_int.L0 (k : Nat) (j : Nat) (x0 : Int) (x1 : Int) (x2 : (List Int)) (x3 : (List Int)) : Option Bool := D.jn (fun z0 => (loopN (fun z1 => (fun z2 => (X k 30 slices_Equal__int_int.c6 z1 z2))) (Cfg.loops cfg 30 (key slices_Equal__int_int.c6)) j z0 (slices_Equal__int_int.K2 k))) (St.mk [(frm 26 [(0, (.sl 0 [] (Option.none))), (1, (.sl 1 [] (Option.none))), (12, (.int .i64 x0)), (13, (.int .i64 x1))])] [(.row Bool.false (.int .i64) x2), (.row Bool.false (.int .i64) x3)])
theorem slices_Equal__int_int.eq (k : Nat) (a0 : (List Int)) (a1 : (List Int)) : slices_Equal__int_int (k + 1) a0 a1 = D.test (D.no (D.eq (D.ofN (D.len a0)) (D.ofN (D.len a1)))) (some false) (slices_Equal__int_int.L0 k k (D.ofN (D.len a0)) 0 a0 a1) := by kernel_rfl
theorem slices_Equal__int_int.L0_eq (k : Nat) (j : Nat) (x0 : Int) (x1 : Int) (x2 : (List Int)) (x3 : (List Int)) : slices_Equal__int_int.L0 k (j + 1) x0 x1 x2 x3 = D.test (D.lt x1 x0) (D.test (D.le 0 x1) (D.test (D.ltN (D.nat x1) (D.len x2)) (D.test (D.ltN (D.nat x1) (D.len x2)) (D.test (D.le 0 x1) (D.test (D.ltN (D.nat x1) (D.len x3)) (D.test (D.ltN (D.nat x1) (D.len x3)) (D.test (D.no (D.eq (D.rd x2 (D.nat x1) 0) (D.rd x3 (D.nat x1) 0))) (some false) (slices_Equal__int_int.L0 k j x0 (D.wrap .i64 (D.add x1 1)) x2 x3)) (none)) (none)) (none)) (none)) (none)) (none)) (some true) := by refine (DJ.jn_eq _ _).trans ?_; kernel_rfl
/-! 13: impl_EqualSession -/
noncomputable def impl_EqualSession (k : Nat) (a0 : ((List Int) × (List Int))) (a1 : ((List Int) × (List Int))) : Option Bool := call k 13 (a0, a1)
theorem impl_EqualSession.eq (k : Nat) (a0 : ((List Int) × (List Int))) (a1 : ((List Int) × (List Int))) : impl_EqualSession (k + 1) a0 a1 = D.bnd (slices_Equal__int_int k a0.1 a1.1) fun r0 => D.test r0 (D.bnd (slices_Equal__int_int k a0.2 a1.2) fun r1 => some r1) (some false) := by kernel_rfl
noncomputable def laws_eqIntS.c0 : Code := bodyOf Go.Proofs.Try.prog 31
noncomputable def laws_eqIntS.c1 : Code := Code.cB laws_eqIntS.c0
noncomputable def laws_eqIntS.c2 : Code := Code.cB laws_eqIntS.c1
noncomputable def laws_eqIntS.c3 : Code := Code.cA laws_eqIntS.c2
noncomputable def laws_eqIntS.c4 : Code := Code.cB laws_eqIntS.c3
noncomputable def laws_eqIntS.c5 : Code := Code.cC laws_eqIntS.c4
noncomputable def laws_eqIntS.c6 : Code := Code.cC laws_eqIntS.c5
noncomputable def laws_eqIntS.c7 : Code := Code.cB laws_eqIntS.c2
noncomputable def laws_eqIntS.K0 : Kont (den (resTy Go.Proofs.Try.prog 31)) := (retC (finish Go.Proofs.Try.prog 31 (fnOf Go.Proofs.Try.prog 31)))
noncomputable def laws_eqIntS.K1 (k : Nat) : Kont (den (resTy Go.Proofs.Try.prog 31)) := (seqC (fun z3 => (fun z4 => (headC (Cfg.joins cfg 31 (key laws_eqIntS.c7)) (fun z5 => (X k 31 laws_eqIntS.c7 z5 z4)) z3))) laws_eqIntS.K0)
noncomputable def laws_eqIntS.K2 (k : Nat) : Kont (den (resTy Go.Proofs.Try.prog 31)) := (blockC 0 (laws_eqIntS.K1 k))
/-! 31: laws_eqIntS -/
noncomputable def laws_eqIntS (k : Nat) (a0 : (List Int)) (a1 : (List Int)) : Option Bool := call k 31 (a0, a1)
noncomputable def laws_eqIntS.L0 (k : Nat) (j : Nat) (x0 : Int) (x1 : (List Int)) (x2 : (List Int)) : Option Bool := D.jn (fun z0 => (loopN (fun z1 => (fun z2 => (X k 31 laws_eqIntS.c6 z1 z2))) (Cfg.loops cfg 31 (key laws_eqIntS.c6)) j z0 (laws_eqIntS.K2 k))) (St.mk [(frm 26 [(0, (.sl 0 [] (Option.none))), (1, (.sl 1 [] (Option.none))), (5, (.int .i64 x0))])] [(.row Bool.false (.int .i64) x1), (.row Bool.false (.int .i64) x2)])
theorem laws_eqIntS.eq (k : Nat) (a0 : (List Int)) (a1 : (List Int)) : laws_eqIntS (k + 1) a0 a1 = D.test (D.no (D.eq (D.ofN (D.len a0)) (D.ofN (D.len a1)))) (some false) (laws_eqIntS.L0 k k 0 a0 a1) := by kernel_rfl
theorem laws_eqIntS.L0_eq (k : Nat) (j : Nat) (x0 : Int) (x1 : (List Int)) (x2 : (List Int)) : laws_eqIntS.L0 k (j + 1) x0 x1 x2 = D.test (D.lt x0 (D.ofN (D.len x1))) (D.test (D.le 0 x0) (D.test (D.ltN (D.nat x0) (D.len x1)) (D.test (D.ltN (D.nat x0) (D.len x1)) (D.test (D.le 0 x0) (D.test (D.ltN (D.nat x0) (D.len x2)) (D.test (D.ltN (D.nat x0) (D.len x2)) (D.test (D.no (D.eq (D.rd x1 (D.nat x0) 0) (D.rd x2 (D.nat x0) 0))) (some false) (laws_eqIntS.L0 k j (D.wrap .i64 (D.add x0 1)) x1 x2)) (none)) (none)) (none)) (none)) (none)) (none)) (some true) := by refine (DJ.jn_eq _ _).trans ?_; kernel_rfl

/-! 14: laws_eqSession -/
noncomputable def laws_eqSession (k : Nat) (a0 : ((List Int) × (List Int))) (a1 : ((List Int) × (List Int))) : Option Bool := call k 14 (a0, a1)
theorem laws_eqSession.eq (k : Nat) (a0 : ((List Int) × (List Int))) (a1 : ((List Int) × (List Int))) : laws_eqSession (k + 1) a0 a1 = D.bnd (laws_eqIntS k a0.1 a1.1) fun r0 => D.test (D.no r0) (some false) (D.bnd (laws_eqIntS k a0.2 a1.2) fun r1 => D.test (D.no r1) (some false) (some true)) := by kernel_rfl
/-! 4: laws_FnExactEqualSession -/
noncomputable def laws_FnExactEqualSession (k : Nat) (a0 : ((List Int) × (List Int))) (a1 : ((List Int) × (List Int))) : Option Bool := call k 4 (a0, a1)
theorem laws_FnExactEqualSession.eq (k : Nat) (a0 : ((List Int) × (List Int))) (a1 : ((List Int) × (List Int))) : laws_FnExactEqualSession (k + 1) a0 a1 = D.bnd (laws_szSession k (a0.1, a0.2) 1048576) fun r0 => D.test (D.lt r0 0) (some true) (D.bnd (laws_szSession k (a1.1, a1.2) r0) fun r1 => D.test (D.lt r1 0) (some true) (D.bnd (laws_toSession k (a0.1, a0.2)) fun r2 => D.bnd (laws_toSession k (a1.1, a1.2)) fun r3 => D.bnd (spec_EqualSession k (r2.1, r2.2) (r3.1, r3.2)) fun r4 => D.bnd (laws_toSession k (a0.1, a0.2)) fun r5 => D.bnd (laws_toSession k (a1.1, a1.2)) fun r6 => D.bnd (impl_EqualSession k (r5.1, r5.2) (r6.1, r6.2)) fun r7 => D.test (D.no (D.eqB r7 r4)) (some false) (D.bnd (laws_toSession k (a0.1, a0.2)) fun r8 => D.bnd (laws_eqSession k (r5.1, r5.2) (r8.1, r8.2)) fun r9 => D.test (D.no r9) (some false) (D.bnd (laws_toSession k (a1.1, a1.2)) fun r10 => D.bnd (laws_eqSession k (r6.1, r6.2) (r10.1, r10.2)) fun r11 => D.test (D.no r11) (some false) (some true))))) := by kernel_rfl
end Go.Am.Seat
