/- The machine's equations for the functions that the law reaches, each checked by the kernel; no conditions. -/
import Derived.Test.YtilkippgilnhcaaCfgStandardizeTableau
import Derived.Test.YtilkippgilnhcaaProg
set_option linter.unusedSimpArgs false
set_option linter.unusedVariables false
set_option linter.unnecessarySimpa false
set_option linter.unusedSectionVars false
noncomputable section
namespace Go.Am.Seat
open Go Go.Am Go.Proofs
set_option linter.unusedVariables false
set_option linter.unusedSectionVars false
set_option maxRecDepth 100000
variable [D] [DJ]
abbrev P : Program := Go.Proofs.Try.prog
def ext : Ext P := fun _ => none
def X {R : Type} (k f : Nat) (c : Code) : St → cx R → Option R := exec P cfg (oE P cfg ext k) k f c
abbrev call (k f : Nat) (x : den (fE P f)) : Option (den (resTy P f)) := th P cfg ext k f x
def R0 (f : Nat) : cx (den (resTy P f)) := nR (finish P f (vI P f))
def JK {T : Type} (k f : Nat) (c : Code) (K : cx T) : cx T := mO (fun a b => eW (Cfg.joins cfg f (key c)) (fun s => X k f c s b) a) K
def LK {T : Type} (k f : Nat) (c : Code) (j : Nat) (K : cx T) : cx T := mO (fun a b => eW (Cfg.loops cfg f (key c)) (fun s => gK (fun x y => X k f c x y) (Cfg.loops cfg f (key c)) j s b) a) K
def trN : Nat → List (Nat × Touch)
  | 0 => []
  | n + 1 => (n, ep) :: trN n
def LL {T : Type} (k f : Nat) (c : Code) (j : Nat) (K : cx T) (fr : List (List AV)) (rs : List au) : Option T := D.jn (fun a => gK (fun x y => X k f c x y) (Cfg.loops cfg f (key c)) j a K) (St.mk fr rs)
def JJ {T : Type} (k f : Nat) (c : Code) (K : cx T) (fr : List (List AV)) (rs : List au) : Option T := D.jn (fun a => X k f c a K) (St.mk fr rs)
abbrev IO_ (k f nV nD n : Nat) (rs0 : List au) (fr : List (List AV)) (rs : List au) : Option (den (resTy P f) × den (qY nV nD n rs0)) := lk (oE P cfg ext k) f nV nD n rs0 (St.mk fr rs)
def Sl (n : Nat) : AV := .sl n [] none
def In (n : Int) : AV := .int .i64 n
def Rw (x : List Int) : au := .row Bool.true (.int .i64) x
def Rww (x : List (List Int)) : au := .row Bool.true (.sl (.int .i64)) x
def Ro (x : List Int) : au := .row Bool.false (.int .i64) x
def Roo (x : List (List Int)) : au := .row Bool.false (.sl (.int .i64)) x
open Go.Am.D renaming test → T, bnd → B, len → N, nat → V, ltN → U, rd → E, ofN → O, wrap → Z, add → A, sub → M
open Go.Am.DJ renaming jn_eq → jn
open Go.Am.Code (cA cB cC cT)
def dO (k : Nat) (a0 : List Int) (a1 : Int) : Option Int := call k 45 (a0, a1)
theorem dO.eq (k : Nat) (a0 a1) : dO (k + 1) a0 a1 = T (D.lt (Z .i64 (M a1 (O (N a0)))) 0) (some (-1)) (some (Z .i64 (M a1 (O (N a0))))) := by kernel_rfl
def c1 : Code := cB (cB (cB (di P 46)))
def bT (k : Nat) (a0 : List (List Int)) (a1 : Int) : Option Int := call k 46 (a0, a1)
def bT.L0 (k j : Nat) (x0 x1 : Int) (x2 : List (List Int)) : Option Int := LL k 46 (cC (cC (cB (cA c1)))) j (bO 0 (JK k 46 (cB c1) (R0 46))) [frm 27 [(0, Sl 0), (1, In x0), (5, In x1)]] [Roo x2]
theorem bT.eq (k : Nat) (a0 a1) : bT (k + 1) a0 a1 = T (D.lt (Z .i64 (M a1 (O (N a0)))) 0) (some (-1)) (bT.L0 k k (Z .i64 (M a1 (O (N a0)))) 0 a0) := by kernel_rfl
theorem bT.cf (k j : Nat) (x0 x1 x2) : bT.L0 k (j + 1) x0 x1 x2 = T (D.lt x1 (O (N x2))) (T (D.le 0 x1) (T (U (V x1) (N x2)) (T (U (V x1) (N x2)) (T (U (V x1) (N x2)) (B (dO k (E x2 (V x1) []) x0) fun r0 => T (D.lt r0 0) (some (-1)) (bT.L0 k j r0 (Z .i64 (A x1 1)) x2)) none) none) none) none) (some x0) := (jn _ _).trans (by kernel_rfl)
def dC (k : Nat) (a0 : (List Int) × (List (List Int))) (a1 : Int) : Option Int := call k 8 (a0, a1)
theorem dC.eq (k : Nat) (a0 a1) : dC (k + 1) a0 a1 = B (dO k a0.1 a1) fun r0 => T (D.lt r0 0) (some (-1)) (B (bT k a0.2 r0) fun r1 => T (D.lt r1 0) (some (-1)) (some r1)) := by kernel_rfl
def c2 : Code := cB (cB (di P 49))
def bW (k : Nat) (a0 : List Int) : Option (List Int) := call k 49 a0
def bW.L0 (k j : Nat) (x0 : Int) (x1 x2 : List Int) : Option (List Int) := LL k 49 (cC (cC (cB (cA c2)))) j (bO 0 (JK k 49 (cB c2) (R0 49))) [frm 22 [(0, Sl 0), (3, Sl 1), (4, In x0)]] [Ro x1, Rw x2]
theorem bW.eq (k : Nat) (a0) : bW (k + 1) a0 = T (D.le 0 (O (N a0))) (T (D.le (O (N a0)) (O (N a0))) (T (D.leN (V (O (N a0))) 1099511627776) (bW.L0 k k 0 a0 (D.rep (V (O (N a0))) (0 : Int))) none) none) none := by kernel_rfl
theorem bW.cf (k j : Nat) (x0 x1 x2) : bW.L0 k (j + 1) x0 x1 x2 = T (D.lt x0 (O (N x1))) (T (D.le 0 x0) (T (U (V x0) (N x1)) (T (U (V x0) (N x1)) (T (D.le 0 x0) (T (U (V x0) (N x2)) (T (U (V x0) (N x2)) (bW.L0 k j (Z .i64 (A x0 1)) x1 (D.set x2 (V x0) (E x1 (V x0) 0))) none) none) none) none) none) none) (some x2) := (jn _ _).trans (by kernel_rfl)
def c3 : Code := cB (cB (di P 50))
def bU (k : Nat) (a0 : List (List Int)) : Option (List (List Int)) := call k 50 a0
def bU.L0 (k j : Nat) (x0 : Int) (x1 x2 : List (List Int)) : Option (List (List Int)) := LL k 50 (cC (cC (cB (cA c3)))) j (bO 0 (JK k 50 (cB c3) (R0 50))) [frm 23 [(0, Sl 0), (3, Sl 1), (4, In x0)]] [Roo x1, Rww x2]
theorem bU.eq (k : Nat) (a0) : bU (k + 1) a0 = T (D.le 0 (O (N a0))) (T (D.le (O (N a0)) (O (N a0))) (T (D.leN (V (O (N a0))) 1099511627776) (bU.L0 k k 0 a0 (D.rep (V (O (N a0))) ([] : List Int))) none) none) none := by kernel_rfl
theorem bU.cf (k j : Nat) (x0 x1 x2) : bU.L0 k (j + 1) x0 x1 x2 = T (D.lt x0 (O (N x1))) (T (D.le 0 x0) (T (U (V x0) (N x1)) (T (U (V x0) (N x1)) (T (U (V x0) (N x1)) (B (bW k (E x1 (V x0) [])) fun r0 => T (D.le 0 x0) (T (U (V x0) (N x2)) (T (U (V x0) (N x2)) (bU.L0 k j (Z .i64 (A x0 1)) x1 (D.set x2 (V x0) r0)) none) none) none) none) none) none) none) (some x2) := (jn _ _).trans (by kernel_rfl)
def cJ (k : Nat) (a0 : (List Int) × (List (List Int))) : Option ((List Int) × (List (List Int))) := call k 10 a0
theorem cJ.eq (k : Nat) (a0) : cJ (k + 1) a0 = B (bW k a0.1) fun r0 => B (bU k a0.2) fun r1 => some (r0, r1) := by kernel_rfl
def fu (k : Nat) (a0 a1 a2 : Int) : Option Bool := call k 64 (a0, a1, a2)
theorem fu.eq (k : Nat) (a0 a1 a2) : fu (k + 1) a0 a1 a2 = T (D.le a1 a0) (some (D.le a0 a2)) (some false) := by kernel_rfl
def c4 : Code := cB (cB (di P 99))
def c5 : Code := cC (cC (cB (cA c4)))
def K6 (k : Nat) : cx (den (resTy P 99)) := bO 0 (JK k 99 (cB c4) (R0 99))
def c7 : Code := cB c5
def aH (k : Nat) (a0 : List Int) : Option Bool := call k 99 a0
def aH.L0 (k j : Nat) (x0 x1 : Int) (x2 : List Int) : Option Bool := LL k 99 c5 j (K6 k) [frm 41 [(0, Sl 0), (3, In x0), (4, In x1)]] [Ro x2]
def aH.J1 (k k1 : Nat) (x0 x1 : Int) (x2 : List Int) : Option Bool := JJ k 99 (cB (cC (cA c7))) (bO 1 (JK k 99 (cB c7) (LK k 99 c5 k1 (K6 k)))) [frm 41 [(0, Sl 0), (3, In x0), (4, In x1)]] [Ro x2]
theorem aH.eq (k : Nat) (a0) : aH (k + 1) a0 = aH.L0 k k 0 0 a0 := by kernel_rfl
theorem aH.cf (k j : Nat) (x0 x1 x2) : aH.L0 k (j + 1) x0 x1 x2 = T (D.lt x1 (O (N x2))) (T (D.le 0 x1) (T (U (V x1) (N x2)) (T (U (V x1) (N x2)) (B (fu k (E x2 (V x1) 0) 1 9) fun r0 => T (D.no r0) (some false) (T (D.lt 0 x1) (T (D.le 0 x1) (T (U (V x1) (N x2)) (T (U (V x1) (N x2)) (T (D.le 0 (Z .i64 (M x1 1))) (T (U (V (Z .i64 (M x1 1))) (N x2)) (T (U (V (Z .i64 (M x1 1))) (N x2)) (T (D.lt (E x2 (V (Z .i64 (M x1 1))) 0) (E x2 (V x1) 0)) (some false) (aH.J1 k j x0 x1 x2)) none) none) none) none) none) none) (aH.J1 k j x0 x1 x2))) none) none) none) (some true) := (jn _ _).trans (by kernel_rfl)
theorem aH.nB (k k1 : Nat) (x0 x1 x2) : aH.J1 k k1 x0 x1 x2 = T (D.le 0 x1) (T (U (V x1) (N x2)) (T (U (V x1) (N x2)) (T (D.lt 9 (Z .i64 (A x0 (E x2 (V x1) 0)))) (some false) (aH.L0 k k1 (Z .i64 (A x0 (E x2 (V x1) 0))) (Z .i64 (A x1 1)) x2)) none) none) none := (jn _ _).trans (by kernel_rfl)
def cI (k : Nat) (a0 : List Int) (a1 : Int) : Option Int := call k 93 (a0, a1)
def cI.J0 (k : Nat) (x0 : Int) (x1 : List Int) : Option Int := JJ k 93 (cB (cB (di P 93))) (R0 93) [frm 17 [(0, Sl 0), (1, In x0)]] [Ro x1]
theorem cI.eq (k : Nat) (a0 a1) : cI (k + 1) a0 a1 = T (D.lt a1 0) (some 0) (T (D.le (O (N a0)) a1) (some 0) (cI.J0 k a1 a0)) := by kernel_rfl
theorem cI.je (k : Nat) (x0 x1) : cI.J0 k x0 x1 = T (D.le 0 x0) (T (U (V x0) (N x1)) (T (U (V x0) (N x1)) (some (E x1 (V x0) 0)) none) none) none := (jn _ _).trans (by kernel_rfl)
def c8 : Code := cB (cB (di P 126))
def bj (k : Nat) (a0 a1 : List Int) : Option Bool := call k 126 (a0, a1)
def bj.J0 (k : Nat) (x0 x1 : List Int) : Option Bool := JJ k 126 c8 (R0 126) [frm 36 [(0, Sl 0), (1, Sl 1)]] [Ro x0, Ro x1]
def bj.L1 (k j : Nat) (x0 : Int) (x1 x2 : List Int) : Option Bool := LL k 126 (cC (cC (cB (cA c8)))) j (bO 0 (JK k 126 (cB c8) (R0 126))) [frm 36 [(0, Sl 0), (1, Sl 1), (5, In x0)]] [Ro x1, Ro x2]
theorem bj.eq (k : Nat) (a0 a1) : bj (k + 1) a0 a1 = B (aH k a0) fun r0 => T (D.no r0) (some false) (B (aH k a1) fun r1 => T (D.no r1) (some false) (T (D.lt (O (N a1)) (O (N a0))) (some false) (bj.J0 k a0 a1))) := by kernel_rfl
theorem bj.je (k : Nat) (x0 x1) : bj.J0 k x0 x1 = bj.L1 k k 0 x0 x1 := (jn _ _).trans (by kernel_rfl)
theorem bj.dS (k j : Nat) (x0 x1 x2) : bj.L1 k (j + 1) x0 x1 x2 = T (D.lt x0 (O (N x1))) (T (D.le 0 x0) (T (U (V x0) (N x1)) (T (U (V x0) (N x1)) (T (D.le 0 x0) (T (U (V x0) (N x2)) (T (U (V x0) (N x2)) (T (D.lt (E x2 (V x0) 0) (E x1 (V x0) 0)) (some false) (bj.L1 k j (Z .i64 (A x0 1)) x1 x2)) none) none) none) none) none) none) (some true) := (jn _ _).trans (by kernel_rfl)
def eN (k : Nat) (a0 : (List Int) × (List Int)) : Option Bool := call k 100 a0
theorem eN.eq (k : Nat) (a0) : eN (k + 1) a0 = B (bj k a0.2 a0.1) fun r0 => some r0 := by kernel_rfl
def c9 : Code := cB (cB (cB (di P 56)))
def bm (k : Nat) (a0 : (List Int) × (List (List Int))) : Option (((List Int) × (List Int)) × Bool) := call k 56 a0
def bm.J0 (k : Nat) (x0 : List Int) (x1 : List (List Int)) (x2 x3 x4 x5 : List Int) : Option (((List Int) × (List Int)) × Bool) := JJ k 56 c9 (R0 56) [frm 59 [(1, .pv 0 0), (2, .pv 1 0), (4, .pv 2 0)]] [.var [Sl 3, Sl 4], .var [Sl 5, Sl 6], .var [Sl 7, Sl 8], Ro x0, Roo x1, Rw x2, Rw x3, Rw x4, Rw x5]
def bm.L1 (k j : Nat) (x0 : Int) (x1 : List Int) (x2 : List (List Int)) (x3 x4 x5 x6 : List Int) : Option (((List Int) × (List Int)) × Bool) := LL k 56 (cC (cC (cB (cA c9)))) j (bO 0 (JK k 56 (cB c9) (R0 56))) [frm 59 [(1, .pv 0 0), (2, .pv 1 0), (4, .pv 2 0), (5, In x0)]] [.var [Sl 3, Sl 4], .var [Sl 5, Sl 6], .var [Sl 7, Sl 8], Ro x1, Roo x2, Rw x3, Rw x4, Rw x5, Rw x6]
theorem bm.eq (k : Nat) (a0) : bm (k + 1) a0 = T (D.leN (N (D.app ([] : List Int) a0.1)) 1099511627776) (B (aH k a0.1) fun r0 => T (D.no r0) (some ((([] : List Int), ([] : List Int)), false)) (T (D.lt (O (N a0.2)) (O (N a0.1))) (some ((([] : List Int), ([] : List Int)), false)) (T (D.lt 9 (O (N a0.2))) (some ((([] : List Int), ([] : List Int)), false)) (bm.J0 k a0.1 a0.2 ([] : List Int) ([] : List Int) ([] : List Int) (D.app ([] : List Int) a0.1))))) none := by kernel_rfl
theorem bm.je (k : Nat) (x0 x1 x2 x3 x4 x5) : bm.J0 k x0 x1 x2 x3 x4 x5 = bm.L1 k k 0 x0 x1 x2 x3 x4 x5 := (jn _ _).trans (by kernel_rfl)
theorem bm.dS (k j : Nat) (x0 x1 x2 x3 x4 x5 x6) : bm.L1 k (j + 1) x0 x1 x2 x3 x4 x5 x6 = T (D.lt x0 (O (N x2))) (B (cI k x1 x0) fun r1 => T (D.le 0 x0) (T (U (V x0) (N x2)) (T (U (V x0) (N x2)) (T (U (V x0) (N x2)) (T (D.leN (N (D.app x5 ((Z .i64 (A r1 (O (N (E x2 (V x0) []))))) :: ([] : List Int)))) 1099511627776) (bm.L1 k j (Z .i64 (A x0 1)) x1 x2 x3 x4 (D.app x5 ((Z .i64 (A r1 (O (N (E x2 (V x0) []))))) :: ([] : List Int))) x6) none) none) none) none) none) (B (eN k (x5, x6)) fun r2 => T (D.no r2) (some ((([] : List Int), ([] : List Int)), false)) (some ((x5, x6), true))) := (jn _ _).trans (by kernel_rfl)
def c10 : Code := cB (cB (di P 92))
def bz (k : Nat) (a0 : (List Int) × (List (List Int))) (a1 a2 : Int) : Option Int := call k 92 (a0, a1, a2)
def bz.J0 (k : Nat) (x0 x1 : Int) (x2 : List Int) (x3 : List (List Int)) : Option Int := JJ k 92 c10 (R0 92) [frm 43 [(1, In x0), (2, In x1), (3, .pv 0 0)]] [.var [Sl 1, Sl 2], Ro x2, Roo x3]
def bz.J1 (k : Nat) (x0 x1 : Int) (x2 : List Int) (x3 : List (List Int)) : Option Int := JJ k 92 (cB (cB c10)) (R0 92) [frm 43 [(1, In x0), (3, .pv 0 0), (7, In x1)]] [.var [Sl 1, Sl 2], Ro x2, Roo x3]
theorem bz.eq (k : Nat) (a0 a1 a2) : bz (k + 1) a0 a1 a2 = T (D.lt a1 0) (some 0) (T (D.le (O (N a0.2)) a1) (some 0) (bz.J0 k a1 a2 a0.1 a0.2)) := by kernel_rfl
theorem bz.je (k : Nat) (x0 x1 x2 x3) : bz.J0 k x0 x1 x2 x3 = B (cI k x2 x0) fun r0 => T (D.lt (Z .i64 (M x1 r0)) 0) (some 0) (T (D.le 0 x0) (T (U (V x0) (N x3)) (T (U (V x0) (N x3)) (T (U (V x0) (N x3)) (T (D.le (O (N (E x3 (V x0) []))) (Z .i64 (M x1 r0))) (some 0) (bz.J1 k x0 (Z .i64 (M x1 r0)) x2 x3)) none) none) none) none) := (jn _ _).trans (by kernel_rfl)
theorem bz.nB (k : Nat) (x0 x1 x2 x3) : bz.J1 k x0 x1 x2 x3 = T (D.le 0 x0) (T (U (V x0) (N x3)) (T (U (V x0) (N x3)) (T (U (V x0) (N x3)) (T (D.le 0 x1) (T (U (V x1) (N (E x3 (V x0) []))) (T (U (V x0) (N x3)) (T (U (V x1) (N (E x3 (V x0) []))) (some (E (E x3 (V x0) []) (V x1) 0)) none) none) none) none) none) none) none) none := (jn _ _).trans (by kernel_rfl)
def c11 : Code := cB (cB (cB (di P 48)))
def c12 : Code := cC (cC (cB (cA c11)))
def K13 (k : Nat) : cx (den (resTy P 48)) := bO 0 (JK k 48 (cB c11) (R0 48))
def c14 : Code := cB c12
def c15 : Code := cC (cC (cB (cC (cA c14))))
def K16 (k k1 : Nat) : cx (den (resTy P 48)) := bO 2 (bO 1 (JK k 48 (cB c14) (LK k 48 c12 k1 (K13 k))))
def c17 : Code := cB c15
def c18 : Code := cB c17
def K19 (k k1 k2 : Nat) : cx (den (resTy P 48)) := LK k 48 c15 k2 (K16 k k1)
def aw (k : Nat) (a0 : (List Int) × (List (List Int))) : Option Bool := call k 48 a0
def aw.L0 (k j : Nat) (x0 : Int) (x1 : List Int) (x2 : List (List Int)) (x3 x4 : List Int) : Option Bool := LL k 48 c12 j (K13 k) [frm 64 [(1, .pv 0 0), (3, .pv 1 0), (5, In x0)]] [.var [Sl 2, Sl 3], .var [Sl 4, Sl 5], Ro x1, Roo x2, Rw x3, Rw x4]
def aw.L1 (k k1 j : Nat) (x0 x1 : Int) (x2 : List Int) (x3 : List (List Int)) (x4 x5 : List Int) : Option Bool := LL k 48 c15 j (K16 k k1) [frm 64 [(1, .pv 0 0), (3, .pv 1 0), (5, In x0), (6, In x1)]] [.var [Sl 2, Sl 3], .var [Sl 4, Sl 5], Ro x2, Roo x3, Rw x4, Rw x5]
def aw.J2 (k k1 k2 : Nat) (x0 x1 x2 x3 : Int) (x4 : List Int) (x5 : List (List Int)) (x6 x7 : List Int) : Option Bool := JJ k 48 (cB (cB (cB (cC (cA c17))))) (bO 3 (JK k 48 c18 (K19 k k1 k2))) [frm 64 [(1, .pv 0 0), (3, .pv 1 0), (5, In x0), (6, In x1), (7, In x2), (8, In x3)]] [.var [Sl 2, Sl 3], .var [Sl 4, Sl 5], Ro x4, Roo x5, Rw x6, Rw x7]
def aw.J3 (k k1 k2 : Nat) (x0 x1 : Int) (x2 : List Int) (x3 : List (List Int)) (x4 x5 : List Int) : Option Bool := JJ k 48 c18 (K19 k k1 k2) [frm 64 [(1, .pv 0 0), (3, .pv 1 0), (5, In x0), (6, In x1)]] [.var [Sl 2, Sl 3], .var [Sl 4, Sl 5], Ro x2, Roo x3, Rw x4, Rw x5]
theorem aw.eq (k : Nat) (a0) : aw (k + 1) a0 = B (bm k (a0.1, a0.2)) fun r0 => T (D.no r0.2) (some false) (aw.L0 k k 0 a0.1 a0.2 r0.1.1 r0.1.2) := by kernel_rfl
theorem aw.cf (k j : Nat) (x0 x1 x2 x3 x4) : aw.L0 k (j + 1) x0 x1 x2 x3 x4 = T (D.lt x0 (O (N x3))) (B (cI k x4 x0) fun r1 => aw.L1 k j k x0 r1 x1 x2 x3 x4) (some true) := (jn _ _).trans (by kernel_rfl)
theorem aw.dS (k k1 j : Nat) (x0 x1 x2 x3 x4 x5) : aw.L1 k k1 (j + 1) x0 x1 x2 x3 x4 x5 = T (D.le 0 x0) (T (U (V x0) (N x4)) (T (U (V x0) (N x4)) (T (D.lt x1 (E x4 (V x0) 0)) (B (bz k (x2, x3) x0 x1) fun r2 => T (D.lt 0 x1) (B (bz k (x2, x3) x0 (Z .i64 (M x1 1))) fun r3 => aw.J2 k k1 j x0 x1 r2 r3 x2 x3 x4 x5) (aw.J2 k k1 j x0 x1 r2 0 x2 x3 x4 x5)) (aw.L0 k k1 (Z .i64 (A x0 1)) x2 x3 x4 x5)) none) none) none := (jn _ _).trans (by kernel_rfl)
theorem aw.ng (k k1 k2 : Nat) (x0 x1 x2 x3 x4 x5 x6 x7) : aw.J2 k k1 k2 x0 x1 x2 x3 x4 x5 x6 x7 = B (fu k x2 1 9) fun r4 => T (D.no r4) (some false) (T (D.lt x2 x3) (some false) (B (bz k (x4, x5) (Z .i64 (M x0 1)) x1) fun r5 => T (D.le x2 r5) (some false) (aw.J3 k k1 k2 x0 x1 x4 x5 x6 x7))) := (jn _ _).trans (by kernel_rfl)
theorem aw.tO (k k1 k2 : Nat) (x0 x1 x2 x3 x4 x5) : aw.J3 k k1 k2 x0 x1 x2 x3 x4 x5 = aw.L1 k k1 k2 x0 (Z .i64 (A x1 1)) x2 x3 x4 x5 := (jn _ _).trans (by kernel_rfl)
def c20 : Code := cB (cB (di P 91))
def cd (k : Nat) (a0 : (List Int) × (List (List Int))) : Option ((List Int) × (List (List Int))) := call k 91 a0
def cd.L0 (k j : Nat) (x0 : Int) (x1 : List Int) (x2 : List (List Int)) (x3 : List Int) (x4 : List (List Int)) (x5 : List Int) (x6 : List (List Int)) : Option ((List Int) × (List (List Int))) := LL k 91 (cC (cC (cB (cA c20)))) j (bO 0 (JK k 91 (cB c20) (R0 91))) [frm 30 [(1, .pv 0 0), (2, .pv 1 0), (3, .pv 2 0), (4, In x0)]] [.var [Sl 3, Sl 4], .var [Sl 5, Sl 6], .var [Sl 7, Sl 8], Ro x1, Roo x2, Rw x3, Rww x4, Rw x5, Rww x6]
theorem cd.eq (k : Nat) (a0) : cd (k + 1) a0 = T (D.leN (N (D.app ([] : List Int) a0.1)) 1099511627776) (cd.L0 k k 0 a0.1 a0.2 ([] : List Int) ([] : List (List Int)) (D.app ([] : List Int) a0.1) ([] : List (List Int))) none := by kernel_rfl
theorem cd.cf (k j : Nat) (x0 x1 x2 x3 x4 x5 x6) : cd.L0 k (j + 1) x0 x1 x2 x3 x4 x5 x6 = T (D.lt x0 (O (N x2))) (T (D.le 0 x0) (T (U (V x0) (N x2)) (T (U (V x0) (N x2)) (T (U (V x0) (N x2)) (T (D.leN (N (D.app ([] : List Int) (E x2 (V x0) []))) 1099511627776) (T (D.leN (N (D.app x6 ((D.app ([] : List Int) (E x2 (V x0) [])) :: ([] : List (List Int))))) 1099511627776) (cd.L0 k j (Z .i64 (A x0 1)) x1 x2 x3 x4 x5 (D.app x6 ((D.app ([] : List Int) (E x2 (V x0) [])) :: ([] : List (List Int))))) none) none) none) none) none) none) (some (x5, x6)) := (jn _ _).trans (by kernel_rfl)
def c21 : Code := cB (cB (cB (cB (cB (di P 43)))))
def c22 : Code := cC (cC (cB (cA c21)))
def K23 (k : Nat) : cx (den (resTy P 43)) := bO 0 (JK k 43 (cB c21) (R0 43))
def c24 : Code := cB c22
def c25 : Code := cC (cC (cB (cC (cA c24))))
def K26 (k k1 : Nat) : cx (den (resTy P 43)) := bO 2 (bO 1 (JK k 43 (cB c24) (LK k 43 c22 k1 (K23 k))))
def c27 : Code := cB c25
def c28 : Code := cC (cC (cB (cC (cA c27))))
def K29 (k k1 k2 : Nat) : cx (den (resTy P 43)) := bO 4 (bO 3 (JK k 43 (cB c27) (LK k 43 c25 k2 (K26 k k1))))
def ai (k : Nat) (a0 : (List Int) × (List (List Int))) : Option (((List Int) × (List (List Int))) × Bool) := call k 43 a0
def ai.L0 (k j : Nat) (x0 x1 : Int) (x2 : List Int) (x3 : List (List Int)) (x4 : List Int) (x5 : List (List Int)) (x6 : List Int) (x7 : List (List Int)) (x8 x9 : List Int) : Option (((List Int) × (List (List Int))) × Bool) := LL k 43 c22 j (K23 k) [frm 59 [(1, .pv 0 0), (2, .pv 1 0), (4, .pv 2 0), (5, .pv 3 0), (7, In x0), (8, In x1)]] [.var [Sl 4, Sl 5], .var [Sl 6, Sl 7], .var [Sl 8, Sl 9], .var [Sl 10, Sl 11], Ro x2, Roo x3, Rw x4, Rww x5, Rw x6, Rww x7, Rw x8, Rw x9]
def ai.L1 (k k1 j : Nat) (x0 x1 x2 : Int) (x3 : List Int) (x4 : List (List Int)) (x5 : List Int) (x6 : List (List Int)) (x7 : List Int) (x8 : List (List Int)) (x9 x10 : List Int) : Option (((List Int) × (List (List Int))) × Bool) := LL k 43 c25 j (K26 k k1) [frm 59 [(1, .pv 0 0), (2, .pv 1 0), (4, .pv 2 0), (5, .pv 3 0), (7, In x0), (8, In x1), (9, In x2)]] [.var [Sl 4, Sl 5], .var [Sl 6, Sl 7], .var [Sl 8, Sl 9], .var [Sl 10, Sl 11], Ro x3, Roo x4, Rw x5, Rww x6, Rw x7, Rww x8, Rw x9, Rw x10]
def ai.L2 (k k1 k2 j : Nat) (x0 x1 x2 x3 : Int) (x4 : List Int) (x5 : List (List Int)) (x6 : List Int) (x7 : List (List Int)) (x8 : List Int) (x9 : List (List Int)) (x10 x11 : List Int) : Option (((List Int) × (List (List Int))) × Bool) := LL k 43 c28 j (K29 k k1 k2) [frm 59 [(1, .pv 0 0), (2, .pv 1 0), (4, .pv 2 0), (5, .pv 3 0), (7, In x0), (8, In x1), (9, In x2), (10, In x3)]] [.var [Sl 4, Sl 5], .var [Sl 6, Sl 7], .var [Sl 8, Sl 9], .var [Sl 10, Sl 11], Ro x4, Roo x5, Rw x6, Rww x7, Rw x8, Rww x9, Rw x10, Rw x11]
def ai.J3 (k k1 k2 k3 : Nat) (x0 x1 x2 x3 : Int) (x4 : List Int) (x5 : List (List Int)) (x6 : List Int) (x7 : List (List Int)) (x8 : List Int) (x9 : List (List Int)) (x10 x11 : List Int) : Option (((List Int) × (List (List Int))) × Bool) := JJ k 43 (cB (cB c28)) (LK k 43 c28 k3 (K29 k k1 k2)) [frm 59 [(1, .pv 0 0), (2, .pv 1 0), (4, .pv 2 0), (5, .pv 3 0), (7, In x0), (8, In x1), (9, In x2), (10, In x3)]] [.var [Sl 4, Sl 5], .var [Sl 6, Sl 7], .var [Sl 8, Sl 9], .var [Sl 10, Sl 11], Ro x4, Roo x5, Rw x6, Rww x7, Rw x8, Rww x9, Rw x10, Rw x11]
theorem ai.eq (k : Nat) (a0) : ai (k + 1) a0 = B (aw k (a0.1, a0.2)) fun r0 => T (D.no r0) (some ((([] : List Int), ([] : List (List Int))), false)) (B (cd k (a0.1, a0.2)) fun r1 => B (bm k (a0.1, a0.2)) fun r2 => ai.L0 k k 0 1 a0.1 a0.2 ([] : List Int) ([] : List (List Int)) r1.1 r1.2 r2.1.1 r2.1.2) := by kernel_rfl
theorem ai.cf (k j : Nat) (x0 x1 x2 x3 x4 x5 x6 x7 x8 x9) : ai.L0 k (j + 1) x0 x1 x2 x3 x4 x5 x6 x7 x8 x9 = T (D.le x1 9) (ai.L1 k j k x0 x1 0 x2 x3 x4 x5 x6 x7 x8 x9) (some ((x6, x7), true)) := (jn _ _).trans (by kernel_rfl)
theorem ai.dS (k k1 j : Nat) (x0 x1 x2 x3 x4 x5 x6 x7 x8 x9 x10) : ai.L1 k k1 (j + 1) x0 x1 x2 x3 x4 x5 x6 x7 x8 x9 x10 = T (D.lt x2 9) (ai.L2 k k1 j k x0 x1 x2 0 x3 x4 x5 x6 x7 x8 x9 x10) (ai.L0 k k1 x0 (Z .i64 (A x1 1)) x3 x4 x5 x6 x7 x8 x9 x10) := (jn _ _).trans (by kernel_rfl)
theorem ai.uw (k k1 k2 j : Nat) (x0 x1 x2 x3 x4 x5 x6 x7 x8 x9 x10 x11) : ai.L2 k k1 k2 (j + 1) x0 x1 x2 x3 x4 x5 x6 x7 x8 x9 x10 x11 = T (D.lt x3 (O (N x10))) (B (bz k (x4, x5) x3 x2) fun r3 => T (D.eq r3 x1) (T (D.le 0 x3) (T (U (V x3) (N x9)) (T (U (V x3) (N x9)) (B (cI k x11 x3) fun r4 => T (U (V x3) (N x9)) (T (D.le 0 (Z .i64 (M x2 r4))) (T (U (V (Z .i64 (M x2 r4))) (N (E x9 (V x3) []))) (T (U (V x3) (N x9)) (T (U (V (Z .i64 (M x2 r4))) (N (E x9 (V x3) []))) (ai.J3 k k1 k2 j (Z .i64 (A x0 1)) x1 x2 x3 x4 x5 x6 x7 x8 (D.set x9 (V x3) (D.set (E x9 (V x3) []) (V (Z .i64 (M x2 r4))) (Z .i64 (A x0 1)))) x10 x11) none) none) none) none) none) none) none) none) (ai.J3 k k1 k2 j x0 x1 x2 x3 x4 x5 x6 x7 x8 x9 x10 x11)) (ai.L1 k k1 k2 x0 x1 (Z .i64 (A x2 1)) x4 x5 x6 x7 x8 x9 x10 x11) := (jn _ _).trans (by kernel_rfl)
theorem ai.tO (k k1 k2 k3 : Nat) (x0 x1 x2 x3 x4 x5 x6 x7 x8 x9 x10 x11) : ai.J3 k k1 k2 k3 x0 x1 x2 x3 x4 x5 x6 x7 x8 x9 x10 x11 = ai.L2 k k1 k2 k3 x0 x1 x2 (Z .i64 (A x3 1)) x4 x5 x6 x7 x8 x9 x10 x11 := (jn _ _).trans (by kernel_rfl)
def cR (k : Nat) (a0 a1 a2 : Int) : Option Bool := call k 68 (a0, a1, a2)
theorem cR.eq (k : Nat) (a0 a1 a2) : cR (k + 1) a0 a1 a2 = T (D.le a1 a0) (some (D.le a0 a2)) (some false) := by kernel_rfl
def c30 : Code := cB (cB (di P 117))
def c31 : Code := cC (cC (cB (cA c30)))
def K32 (k : Nat) : cx (den (resTy P 117)) := bO 0 (JK k 117 (cB c30) (R0 117))
def c33 : Code := cB (cB c31)
def aG (k : Nat) (a0 : List Int) : Option Bool := call k 117 a0
def aG.L0 (k j : Nat) (x0 x1 x2 : Int) (x3 : List Int) : Option Bool := LL k 117 c31 j (K32 k) [frm 35 [(0, Sl 0), (3, In x0), (6, Sl 0), (7, In x1), (8, In x2)]] [Ro x3]
def aG.J1 (k k1 : Nat) (x0 x1 x2 x3 : Int) (x4 : List Int) : Option Bool := JJ k 117 (cB (cB (cC (cA c33)))) (bO 1 (JK k 117 (cB c33) (LK k 117 c31 k1 (K32 k)))) [frm 35 [(0, Sl 0), (3, In x0), (5, In x1), (6, Sl 0), (7, In x2), (8, In x3)]] [Ro x4]
theorem aG.eq (k : Nat) (a0) : aG (k + 1) a0 = aG.L0 k k 0 (O (N a0)) 0 a0 := by kernel_rfl
theorem aG.cf (k j : Nat) (x0 x1 x2 x3) : aG.L0 k (j + 1) x0 x1 x2 x3 = T (D.lt x2 x1) (T (D.le 0 x2) (T (U (V x2) (N x3)) (T (U (V x2) (N x3)) (B (cR k (E x3 (V x2) 0) 1 9) fun r0 => T (D.no r0) (some false) (T (D.lt 0 x2) (T (D.le 0 (Z .i64 (M x2 1))) (T (U (V (Z .i64 (M x2 1))) (N x3)) (T (U (V (Z .i64 (M x2 1))) (N x3)) (T (D.lt (E x3 (V (Z .i64 (M x2 1))) 0) (E x3 (V x2) 0)) (some false) (aG.J1 k j x0 (E x3 (V x2) 0) x1 x2 x3)) none) none) none) (aG.J1 k j x0 (E x3 (V x2) 0) x1 x2 x3))) none) none) none) (some true) := (jn _ _).trans (by kernel_rfl)
theorem aG.nB (k k1 : Nat) (x0 x1 x2 x3 x4) : aG.J1 k k1 x0 x1 x2 x3 x4 = T (D.lt 9 (Z .i64 (A x0 x1))) (some false) (aG.L0 k k1 (Z .i64 (A x0 x1)) x2 (Z .i64 (A x3 1)) x4) := (jn _ _).trans (by kernel_rfl)
def bF (k : Nat) (a0 : List Int) : Option (List Int) := call k 97 a0
theorem bF.eq (k : Nat) (a0) : bF (k + 1) a0 = T (D.eqN (N a0) 0) (D.both (some ([] : List Int)) (T (D.leN (N (D.app ([] : List Int) a0)) 1099511627776) (some (D.app ([] : List Int) a0)) none)) (T (D.leN (N (D.app ([] : List Int) a0)) 1099511627776) (some (D.app ([] : List Int) a0)) none) := by kernel_rfl
def dw (k : Nat) (a0 : List Int) (a1 : Int) : Option Int := call k 87 (a0, a1)
theorem dw.eq (k : Nat) (a0 a1) : dw (k + 1) a0 a1 = B (cR k a1 0 (Z .i64 (M (O (N a0)) 1))) fun r0 => T (D.no r0) (some 0) (T (D.le 0 a1) (T (U (V a1) (N a0)) (T (U (V a1) (N a0)) (some (E a0 (V a1) 0)) none) none) none) := by kernel_rfl
def c34 : Code := cB (cB (di P 135))
def bk (k : Nat) (a0 a1 : List Int) : Option Bool := call k 135 (a0, a1)
def bk.J0 (k : Nat) (x0 x1 : List Int) : Option Bool := JJ k 135 c34 (R0 135) [frm 28 [(0, Sl 0), (1, Sl 1)]] [Ro x0, Ro x1]
def bk.L1 (k j : Nat) (x0 x1 : Int) (x2 x3 : List Int) : Option Bool := LL k 135 (cC (cC (cB (cA c34)))) j (bO 0 (JK k 135 (cB c34) (R0 135))) [frm 28 [(1, Sl 0), (15, Sl 1), (16, In x0), (17, In x1)]] [Ro x2, Ro x3]
theorem bk.eq (k : Nat) (a0 a1) : bk (k + 1) a0 a1 = B (aG k a0) fun r0 => T (D.no r0) (some false) (B (aG k a1) fun r1 => T (D.no r1) (some false) (bk.J0 k a0 a1)) := by kernel_rfl
theorem bk.je (k : Nat) (x0 x1) : bk.J0 k x0 x1 = bk.L1 k k (O (N x0)) 0 x1 x0 := (jn _ _).trans (by kernel_rfl)
theorem bk.dS (k j : Nat) (x0 x1 x2 x3) : bk.L1 k (j + 1) x0 x1 x2 x3 = T (D.lt x1 x0) (T (D.le 0 x1) (T (U (V x1) (N x3)) (T (U (V x1) (N x3)) (B (dw k x2 x1) fun r2 => T (D.lt r2 (E x3 (V x1) 0)) (some false) (bk.L1 k j x0 (Z .i64 (A x1 1)) x2 x3)) none) none) none) (some true) := (jn _ _).trans (by kernel_rfl)
def eG (k : Nat) (a0 : (List Int) × (List Int)) : Option Bool := call k 118 a0
theorem eG.eq (k : Nat) (a0) : eG (k + 1) a0 = B (bk k a0.2 a0.1) fun r0 => some r0 := by kernel_rfl
def c35 : Code := cB (cB (di P 85))
def c36 : Code := cB c35
def bw (k : Nat) (a0 : (List Int) × (List (List Int))) : Option (((List Int) × (List Int)) × Bool) := call k 85 a0
def bw.J0 (k : Nat) (x0 : List Int) (x1 : List (List Int)) (x2 x3 : List Int) : Option (((List Int) × (List Int)) × Bool) := JJ k 85 c35 (R0 85) [frm 51 [(1, .pv 0 0), (2, .pv 1 0)]] [.var [Sl 2, Sl 3], .var [Sl 4, Sl 5], Ro x0, Roo x1, Rw x2, Rw x3]
def bw.L1 (k j : Nat) (x0 x1 : Int) (x2 : List (List Int)) (x3 x4 x5 x6 x7 : List Int) : Option (((List Int) × (List Int)) × Bool) := LL k 85 (cC (cC (cB (cA c36)))) j (bO 0 (JK k 85 (cB c36) (R0 85))) [frm 51 [(1, .pv 0 0), (2, .pv 1 0), (4, .pv 2 0), (26, Sl 3), (27, In x0), (28, In x1)]] [.var [Sl 4, Sl 3], .var [Sl 5, Sl 6], .var [Sl 7, Sl 8], Roo x2, Ro x3, Rw x4, Rw x5, Rw x6, Rw x7]
theorem bw.eq (k : Nat) (a0) : bw (k + 1) a0 = B (aG k a0.1) fun r0 => T (D.no r0) (some ((([] : List Int), ([] : List Int)), false)) (T (D.lt (O (N a0.2)) (O (N a0.1))) (some ((([] : List Int), ([] : List Int)), false)) (bw.J0 k a0.1 a0.2 ([] : List Int) ([] : List Int))) := by kernel_rfl
theorem bw.je (k : Nat) (x0 x1 x2 x3) : bw.J0 k x0 x1 x2 x3 = B (bF k x0) fun r1 => bw.L1 k k (O (N x1)) 0 x1 x0 x2 x3 ([] : List Int) r1 := (jn _ _).trans (by kernel_rfl)
theorem bw.dS (k j : Nat) (x0 x1 x2 x3 x4 x5 x6 x7) : bw.L1 k (j + 1) x0 x1 x2 x3 x4 x5 x6 x7 = T (D.lt x1 x0) (T (D.le 0 x1) (T (U (V x1) (N x2)) (T (U (V x1) (N x2)) (B (dw k x3 x1) fun r2 => T (U (V x1) (N x2)) (T (D.leN (N (D.app x6 ((Z .i64 (A r2 (O (N (E x2 (V x1) []))))) :: ([] : List Int)))) 1099511627776) (bw.L1 k j x0 (Z .i64 (A x1 1)) x2 x3 x4 x5 (D.app x6 ((Z .i64 (A r2 (O (N (E x2 (V x1) []))))) :: ([] : List Int))) x7) none) none) none) none) none) (B (eG k (x6, x7)) fun r3 => T (D.no r3) (some ((([] : List Int), ([] : List Int)), false)) (some ((x6, x7), true))) := (jn _ _).trans (by kernel_rfl)
def ct (k : Nat) (a0 : (List Int) × (List (List Int))) (a1 a2 : Int) : Option Int := call k 86 (a0, a1, a2)
theorem ct.eq (k : Nat) (a0 a1 a2) : ct (k + 1) a0 a1 a2 = B (cR k a1 0 (Z .i64 (M (O (N a0.2)) 1))) fun r0 => T (D.no r0) (some 0) (T (D.le 0 a1) (T (U (V a1) (N a0.2)) (T (U (V a1) (N a0.2)) (B (dw k a0.1 a1) fun r1 => T (U (V a1) (N a0.2)) (B (dw k (E a0.2 (V a1) []) (Z .i64 (M a2 r1))) fun r2 => some r2) none) none) none) none) := by kernel_rfl
def c37 : Code := cB (cB (di P 38))
def c38 : Code := cC (cC (cB (cA c37)))
def K39 (k : Nat) : cx (den (resTy P 38)) := bO 0 (JK k 38 (cB c37) (R0 38))
def c40 : Code := cB (cB c38)
def c41 : Code := cC (cC (cB (cB (cC (cA c40)))))
def K42 (k k1 : Nat) : cx (den (resTy P 38)) := bO 2 (bO 1 (JK k 38 (cB c40) (LK k 38 c38 k1 (K39 k))))
def aB (k : Nat) (a0 : (List Int) × (List (List Int))) : Option Bool := call k 38 a0
def aB.L0 (k j : Nat) (x0 x1 : Int) (x2 : List (List Int)) (x3 : List Int) : Option Bool := LL k 38 c38 j (K39 k) [frm 67 [(1, .pv 0 0), (17, Sl 1), (18, In x0), (19, In x1)]] [.var [Sl 2, Sl 1], Roo x2, Ro x3]
def aB.L1 (k k1 j : Nat) (x0 : Int) (x1 : Nat) (x2 x3 : Int) (x4 : Nat) (x5 x6 : Int) (x7 : List (List Int)) (x8 : List Int) : Option Bool := LL k 38 c41 j (K42 k k1) [frm 67 [(1, .pv 0 0), (5, In x0), (6, .sl 1 [(x1, 0)] Option.none), (17, Sl 1), (18, In x2), (19, In x3), (24, .sl 1 [(x4, 0)] Option.none), (25, In x5), (26, In x6)]] [.var [Sl 2, Sl 1], Roo x7, Ro x8]
def aB.J2 (k k1 k2 : Nat) (x0 : Int) (x1 : Nat) (x2 x3 : Int) (x4 : Nat) (x5 x6 : Int) (x7 : List (List Int)) (x8 : List Int) : Option Bool := JJ k 38 (cB (cB (cB c41))) (LK k 38 c41 k2 (K42 k k1)) [frm 67 [(1, .pv 0 0), (5, In x0), (6, .sl 1 [(x1, 0)] Option.none), (17, Sl 1), (18, In x2), (19, In x3), (24, .sl 1 [(x4, 0)] Option.none), (25, In x5), (26, In x6)]] [.var [Sl 2, Sl 1], Roo x7, Ro x8]
theorem aB.eq (k : Nat) (a0) : aB (k + 1) a0 = B (bw k (a0.1, a0.2)) fun r0 => T (D.no r0.2) (some false) (aB.L0 k k (O (N a0.2)) 0 a0.2 a0.1) := by kernel_rfl
theorem aB.cf (k j : Nat) (x0 x1 x2 x3) : aB.L0 k (j + 1) x0 x1 x2 x3 = T (D.lt x1 x0) (T (D.le 0 x1) (T (U (V x1) (N x2)) (T (U (V x1) (N x2)) (T (U (V x1) (N x2)) (aB.L1 k j k x1 (V x1) x0 x1 (V x1) (O (N (E x2 (V x1) []))) 0 x2 x3) none) none) none) none) (some true) := (jn _ _).trans (by kernel_rfl)
theorem aB.dS (k k1 j : Nat) (x0 x1 x2 x3 x4 x5 x6 x7 x8) : aB.L1 k k1 (j + 1) x0 x1 x2 x3 x4 x5 x6 x7 x8 = T (D.lt x6 x5) (T (U x4 (N x7)) (T (D.le 0 x6) (T (U (V x6) (N (E x7 x4 []))) (T (U x4 (N x7)) (T (U (V x6) (N (E x7 x4 []))) (B (cR k (E (E x7 x4 []) (V x6) 0) 1 9) fun r1 => T (D.no r1) (some false) (T (D.lt 0 x6) (T (U x1 (N x7)) (T (D.le 0 (Z .i64 (M x6 1))) (T (U (V (Z .i64 (M x6 1))) (N (E x7 x1 []))) (T (U x1 (N x7)) (T (U (V (Z .i64 (M x6 1))) (N (E x7 x1 []))) (T (D.lt (E (E x7 x4 []) (V x6) 0) (E (E x7 x1 []) (V (Z .i64 (M x6 1))) 0)) (some false) (T (D.lt 0 x0) (B (dw k x8 x0) fun r2 => B (ct k (x8, x7) (Z .i64 (M x0 1)) (Z .i64 (A r2 x6))) fun r3 => T (D.le (E (E x7 x4 []) (V x6) 0) r3) (some false) (aB.J2 k k1 j x0 x1 x2 x3 x4 x5 x6 x7 x8)) (aB.J2 k k1 j x0 x1 x2 x3 x4 x5 x6 x7 x8))) none) none) none) none) none) (T (D.lt 0 x0) (B (dw k x8 x0) fun r4 => B (ct k (x8, x7) (Z .i64 (M x0 1)) (Z .i64 (A r4 x6))) fun r5 => T (D.le (E (E x7 x4 []) (V x6) 0) r5) (some false) (aB.J2 k k1 j x0 x1 x2 x3 x4 x5 x6 x7 x8)) (aB.J2 k k1 j x0 x1 x2 x3 x4 x5 x6 x7 x8)))) none) none) none) none) none) (aB.L0 k k1 x2 (Z .i64 (A x3 1)) x7 x8) := (jn _ _).trans (by kernel_rfl)
theorem aB.ng (k k1 k2 : Nat) (x0 x1 x2 x3 x4 x5 x6 x7 x8) : aB.J2 k k1 k2 x0 x1 x2 x3 x4 x5 x6 x7 x8 = aB.L1 k k1 k2 x0 x1 x2 x3 x4 x5 (Z .i64 (A x6 1)) x7 x8 := (jn _ _).trans (by kernel_rfl)
def c43 : Code := cB (cB (di P 149))
def c44 : Code := cB c43
def aM (k : Nat) (a0 : Int) : Option Int := call k 149 a0
def aM.J0 (k : Nat) (x0 x1 : Int) : Option Int := JJ k 149 c43 (R0 149) [frm 25 [(0, .int .u64 x0), (2, In x1)]] []
def aM.J1 (k : Nat) (x0 x1 : Int) : Option Int := JJ k 149 c44 (R0 149) [frm 25 [(0, .int .u64 x0), (2, In x1)]] []
def aM.J2 (k : Nat) (x0 x1 : Int) : Option Int := JJ k 149 (cB c44) (R0 149) [frm 25 [(0, .int .u64 x0), (2, In x1)]] []
theorem aM.eq (k : Nat) (a0) : aM (k + 1) a0 = T (D.le 4294967296 a0) (T (D.le 0 32) (aM.J0 k (D.shrI .u64 a0 32) 32) none) (aM.J0 k a0 0) := by kernel_rfl
theorem aM.je (k : Nat) (x0 x1) : aM.J0 k x0 x1 = T (D.le 65536 x0) (T (D.le 0 16) (aM.J1 k (D.shrI .u64 x0 16) (Z .i64 (A x1 16))) none) (aM.J1 k x0 x1) := (jn _ _).trans (by kernel_rfl)
theorem aM.nB (k : Nat) (x0 x1) : aM.J1 k x0 x1 = T (D.le 256 x0) (T (D.le 0 8) (aM.J2 k (D.shrI .u64 x0 8) (Z .i64 (A x1 8))) none) (aM.J2 k x0 x1) := (jn _ _).trans (by kernel_rfl)
theorem aM.ng (k : Nat) (x0 x1) : aM.J2 k x0 x1 = T (D.le 0 (Z .u8 x0)) (T (U (V (Z .u8 x0)) (D.lenS (⟨#[0, 1, 2, 2, 3, 3, 3, 3, 4, 4, 4, 4, 4, 4, 4, 4, 5, 5, 5, 5, 5, 5, 5, 5, 5, 5, 5, 5, 5, 5, 5, 5, 6, 6, 6, 6, 6, 6, 6, 6, 6, 6, 6, 6, 6, 6, 6, 6, 6, 6, 6, 6, 6, 6, 6, 6, 6, 6, 6, 6, 6, 6, 6, 6, 7, 7, 7, 7, 7, 7, 7, 7, 7, 7, 7, 7, 7, 7, 7, 7, 7, 7, 7, 7, 7, 7, 7, 7, 7, 7, 7, 7, 7, 7, 7, 7, 7, 7, 7, 7, 7, 7, 7, 7, 7, 7, 7, 7, 7, 7, 7, 7, 7, 7, 7, 7, 7, 7, 7, 7, 7, 7, 7, 7, 7, 7, 7, 7, 8, 8, 8, 8, 8, 8, 8, 8, 8, 8, 8, 8, 8, 8, 8, 8, 8, 8, 8, 8, 8, 8, 8, 8, 8, 8, 8, 8, 8, 8, 8, 8, 8, 8, 8, 8, 8, 8, 8, 8, 8, 8, 8, 8, 8, 8, 8, 8, 8, 8, 8, 8, 8, 8, 8, 8, 8, 8, 8, 8, 8, 8, 8, 8, 8, 8, 8, 8, 8, 8, 8, 8, 8, 8, 8, 8, 8, 8, 8, 8, 8, 8, 8, 8, 8, 8, 8, 8, 8, 8, 8, 8, 8, 8, 8, 8, 8, 8, 8, 8, 8, 8, 8, 8, 8, 8, 8, 8, 8, 8, 8, 8, 8, 8, 8, 8, 8, 8, 8, 8, 8, 8, 8, 8, 8, 8, 8, 8]⟩ : ByteArray))) (some (Z .i64 (A x1 (Z .i64 (D.byte (⟨#[0, 1, 2, 2, 3, 3, 3, 3, 4, 4, 4, 4, 4, 4, 4, 4, 5, 5, 5, 5, 5, 5, 5, 5, 5, 5, 5, 5, 5, 5, 5, 5, 6, 6, 6, 6, 6, 6, 6, 6, 6, 6, 6, 6, 6, 6, 6, 6, 6, 6, 6, 6, 6, 6, 6, 6, 6, 6, 6, 6, 6, 6, 6, 6, 7, 7, 7, 7, 7, 7, 7, 7, 7, 7, 7, 7, 7, 7, 7, 7, 7, 7, 7, 7, 7, 7, 7, 7, 7, 7, 7, 7, 7, 7, 7, 7, 7, 7, 7, 7, 7, 7, 7, 7, 7, 7, 7, 7, 7, 7, 7, 7, 7, 7, 7, 7, 7, 7, 7, 7, 7, 7, 7, 7, 7, 7, 7, 7, 8, 8, 8, 8, 8, 8, 8, 8, 8, 8, 8, 8, 8, 8, 8, 8, 8, 8, 8, 8, 8, 8, 8, 8, 8, 8, 8, 8, 8, 8, 8, 8, 8, 8, 8, 8, 8, 8, 8, 8, 8, 8, 8, 8, 8, 8, 8, 8, 8, 8, 8, 8, 8, 8, 8, 8, 8, 8, 8, 8, 8, 8, 8, 8, 8, 8, 8, 8, 8, 8, 8, 8, 8, 8, 8, 8, 8, 8, 8, 8, 8, 8, 8, 8, 8, 8, 8, 8, 8, 8, 8, 8, 8, 8, 8, 8, 8, 8, 8, 8, 8, 8, 8, 8, 8, 8, 8, 8, 8, 8, 8, 8, 8, 8, 8, 8, 8, 8, 8, 8, 8, 8, 8, 8, 8, 8, 8, 8]⟩ : ByteArray) (V (Z .u8 x0))))))) none) none := (jn _ _).trans (by kernel_rfl)
def dW (k : Nat) (a0 : Int) : Option Int := call k 138 a0
theorem dW.eq (k : Nat) (a0) : dW (k + 1) a0 = B (aM k a0) fun r0 => some r0 := by kernel_rfl
def bB (k : Nat) (x0 x1 x2 x3 x4 x5 : Int) : Option (Int × PUnit) := IO_ k 95 0 0 0 [] [[.agg [In x0, In x1, In x2], .agg [In x3, In x4, In x5]], []] []
theorem bB.eq (k : Nat) (x0 x1 x2 x3 x4 x5) : bB (k + 1) x0 x1 x2 x3 x4 x5 = T (D.le 0 0) (T (D.lt 0 (O 3)) (T (D.le 0 0) (T (D.lt 0 (O 3)) (T (D.no (D.eq x0 x3)) (T (D.le 0 0) (T (D.lt 0 (O 3)) (T (D.le 0 0) (T (D.lt 0 (O 3)) (some ((Z .i64 (M x0 x3)), ())) none) none) none) none) (T (D.le 0 1) (T (D.lt 1 (O 3)) (T (D.le 0 1) (T (D.lt 1 (O 3)) (some ((Z .i64 (M x1 x4)), ())) none) none) none) none)) none) none) none) none := by kernel_rfl
def c45 : Code := cC (cC (cB (di P 140)))
def K46 : cx (PUnit × (List (Int × (Int × Int)))) := bO 0 (nR (fD P (vI P 140) (fun z3 z4 => oG P 140 0 1 1 [.row Bool.true (.pair (.int .i64) (.pair (.int .i64) (.int .i64))) []] z3 z4)))
def c47 : Code := cB c45
def c48 : Code := cC (cC (cB (cC (cA c47))))
def c49 : Code := cB c47
def K50 (k k1 : Nat) : cx (PUnit × (List (Int × (Int × Int)))) := LK k 140 c45 k1 K46
def K51 (k k1 : Nat) : cx (PUnit × (List (Int × (Int × Int)))) := bO 2 (bO 1 (JK k 140 c49 (K50 k k1)))
def ae (k : Nat) (x0 x1 : Int) (x2 : List (Int × (Int × Int))) : Option (PUnit × (List (Int × (Int × Int)))) := IO_ k 140 0 1 1 [.row Bool.true (.pair (.int .i64) (.pair (.int .i64) (.int .i64))) []] [frm 4 [(0, Sl 0), (1, In x0), (2, In x1), (3, .fn 95 [] [])], [Sl 0]] [.row Bool.true (.pair (.int .i64) (.pair (.int .i64) (.int .i64))) x2]
def ae.L0 (k j : Nat) (x0 x1 x2 : Int) (x3 : List (Int × (Int × Int))) : Option (PUnit × (List (Int × (Int × Int)))) := LL k 140 c45 j K46 [frm 53 [(0, Sl 0), (1, In x0), (2, In x1), (3, .fn 95 [] []), (8, In x2)], [Sl 0]] [.row Bool.true (.pair (.int .i64) (.pair (.int .i64) (.int .i64))) x3]
def ae.L1 (k k1 j : Nat) (x0 x1 x2 x3 : Int) (x4 : List (Int × (Int × Int))) : Option (PUnit × (List (Int × (Int × Int)))) := LL k 140 c48 j (K51 k k1) [frm 53 [(0, Sl 0), (1, In x0), (2, In x1), (3, .fn 95 [] []), (8, In x2), (9, In x3)], [Sl 0]] [.row Bool.true (.pair (.int .i64) (.pair (.int .i64) (.int .i64))) x4]
def ae.J2 (k k1 k2 : Nat) (x0 x1 x2 x3 : Int) (x4 : List (Int × (Int × Int))) : Option (PUnit × (List (Int × (Int × Int)))) := JJ k 140 (cB c48) (LK k 140 c48 k2 (K51 k k1)) [frm 53 [(0, Sl 0), (1, In x0), (2, In x1), (3, .fn 95 [] []), (8, In x2), (9, In x3)], [Sl 0]] [.row Bool.true (.pair (.int .i64) (.pair (.int .i64) (.int .i64))) x4]
def ae.J3 (k k1 : Nat) (x0 x1 x2 : Int) (x3 : List (Int × (Int × Int))) : Option (PUnit × (List (Int × (Int × Int)))) := JJ k 140 c49 (K50 k k1) [frm 53 [(0, Sl 0), (1, In x0), (2, In x1), (3, .fn 95 [] []), (8, In x2)], [Sl 0]] [.row Bool.true (.pair (.int .i64) (.pair (.int .i64) (.int .i64))) x3]
theorem ae.eq (k : Nat) (x0 x1 x2) : ae (k + 1) x0 x1 x2 = ae.L0 k k x0 x1 (Z .i64 (A x0 1)) x2 := by kernel_rfl
theorem ae.cf (k j : Nat) (x0 x1 x2 x3) : ae.L0 k (j + 1) x0 x1 x2 x3 = T (D.lt x2 x1) (ae.L1 k j k x0 x1 x2 x2 x3) (some ((), x3)) := (jn _ _).trans (by kernel_rfl)
theorem ae.dS (k k1 j : Nat) (x0 x1 x2 x3 x4) : ae.L1 k k1 (j + 1) x0 x1 x2 x3 x4 = T (D.lt x0 x3) (T (D.le 0 x3) (T (U (V x3) (N x4)) (T (U (V x3) (N x4)) (T (D.le 0 (Z .i64 (M x3 1))) (T (U (V (Z .i64 (M x3 1))) (N x4)) (T (U (V (Z .i64 (M x3 1))) (N x4)) (B (bB k (E x4 (V x3) (0, (0, 0))).1 (E x4 (V x3) (0, (0, 0))).2.1 (E x4 (V x3) (0, (0, 0))).2.2 (E x4 (V (Z .i64 (M x3 1))) (0, (0, 0))).1 (E x4 (V (Z .i64 (M x3 1))) (0, (0, 0))).2.1 (E x4 (V (Z .i64 (M x3 1))) (0, (0, 0))).2.2) fun r0 => T (D.lt r0.1 0) (ae.J2 k k1 j x0 x1 x2 x3 x4) (ae.J3 k k1 x0 x1 x2 x4)) none) none) none) none) none) none) (ae.J3 k k1 x0 x1 x2 x4) := (jn _ _).trans (by kernel_rfl)
theorem ae.ng (k k1 k2 : Nat) (x0 x1 x2 x3 x4) : ae.J2 k k1 k2 x0 x1 x2 x3 x4 = T (D.le 0 (Z .i64 (M x3 1))) (T (U (V (Z .i64 (M x3 1))) (N x4)) (T (U (V (Z .i64 (M x3 1))) (N x4)) (T (D.le 0 x3) (T (U (V x3) (N x4)) (T (U (V x3) (N x4)) (T (D.le 0 x3) (T (U (V x3) (N x4)) (T (U (V x3) (N x4)) (T (D.le 0 (Z .i64 (M x3 1))) (T (U (V (Z .i64 (M x3 1))) (N (D.set x4 (V x3) ((E x4 (V (Z .i64 (M x3 1))) (0, (0, 0))).1, ((E x4 (V (Z .i64 (M x3 1))) (0, (0, 0))).2.1, (E x4 (V (Z .i64 (M x3 1))) (0, (0, 0))).2.2))))) (T (U (V (Z .i64 (M x3 1))) (N (D.set x4 (V x3) ((E x4 (V (Z .i64 (M x3 1))) (0, (0, 0))).1, ((E x4 (V (Z .i64 (M x3 1))) (0, (0, 0))).2.1, (E x4 (V (Z .i64 (M x3 1))) (0, (0, 0))).2.2))))) (ae.L1 k k1 k2 x0 x1 x2 (Z .i64 (M x3 1)) (D.set (D.set x4 (V x3) ((E x4 (V (Z .i64 (M x3 1))) (0, (0, 0))).1, ((E x4 (V (Z .i64 (M x3 1))) (0, (0, 0))).2.1, (E x4 (V (Z .i64 (M x3 1))) (0, (0, 0))).2.2))) (V (Z .i64 (M x3 1))) ((E x4 (V x3) (0, (0, 0))).1, ((E x4 (V x3) (0, (0, 0))).2.1, (E x4 (V x3) (0, (0, 0))).2.2)))) none) none) none) none) none) none) none) none) none) none) none) none := (jn _ _).trans (by kernel_rfl)
theorem ae.tO (k k1 : Nat) (x0 x1 x2 x3) : ae.J3 k k1 x0 x1 x2 x3 = ae.L0 k k1 x0 x1 (Z .i64 (A x2 1)) x3 := (jn _ _).trans (by kernel_rfl)
def c52 : Code := cC (cC (cB (cB (di P 137))))
def K53 : cx (PUnit × (List (Int × (Int × Int)))) := bO 0 (nR (fD P (vI P 137) (fun z3 z4 => oG P 137 0 1 1 [.row Bool.true (.pair (.int .i64) (.pair (.int .i64) (.int .i64))) []] z3 z4)))
def al (k : Nat) (x0 x1 x2 : Int) (x3 : List (Int × (Int × Int))) : Option (PUnit × (List (Int × (Int × Int)))) := IO_ k 137 0 1 1 [.row Bool.true (.pair (.int .i64) (.pair (.int .i64) (.int .i64))) []] [frm 5 [(0, Sl 0), (1, In x0), (2, In x1), (3, In x2), (4, .fn 95 [] [])], [Sl 0]] [.row Bool.true (.pair (.int .i64) (.pair (.int .i64) (.int .i64))) x3]
def al.L0 (k j : Nat) (x0 x1 x2 : Int) (x3 x4 : Bool) (x5 : List (Int × (Int × Int))) : Option (PUnit × (List (Int × (Int × Int)))) := LL k 137 c52 j K53 [frm 148 [(0, Sl 0), (1, In x0), (2, In x1), (3, In x2), (4, .fn 95 [] []), (10, .bool x3), (11, .bool x4)], [Sl 0]] [.row Bool.true (.pair (.int .i64) (.pair (.int .i64) (.int .i64))) x5]
def al.J1 (k k1 : Nat) (x0 x1 x2 : Int) (x3 x4 : Bool) (x5 : Int) (x6 : List (Int × (Int × Int))) : Option (PUnit × (List (Int × (Int × Int)))) := JJ k 137 (cB (cB (cB (cB (cC c52))))) (bO 1 (LK k 137 c52 k1 K53)) [frm 148 [(0, Sl 0), (1, In x0), (2, In x1), (3, In x2), (4, .fn 95 [] []), (10, .bool x3), (11, .bool x4), (12, In x5)], [Sl 0]] [.row Bool.true (.pair (.int .i64) (.pair (.int .i64) (.int .i64))) x6]
theorem al.eq (k : Nat) (x0 x1 x2 x3) : al (k + 1) x0 x1 x2 x3 = al.L0 k k x0 x1 x2 true true x3 := by kernel_rfl
theorem al.cf (k j : Nat) (x0 x1 x2 x3 x4 x5) : al.L0 k (j + 1) x0 x1 x2 x3 x4 x5 = T (D.le (Z .i64 (M x1 x0)) 12) (B (ae k x0 x1 x5) fun r0 => some ((), r0.2)) (T (D.eq x2 0) none (T (D.no x3) none (al.J1 k j x0 x1 x2 x3 x4 (Z .i64 (M x1 x0)) x5))) := (jn _ _).trans (by kernel_rfl)
def aE (k : Nat) (x0 : List (Int × (Int × Int))) : Option (PUnit × (List (Int × (Int × Int)))) := IO_ k 123 0 1 1 [.row Bool.true (.pair (.int .i64) (.pair (.int .i64) (.int .i64))) []] [[Sl 0, .fn 95 [] []], [Sl 0]] [.row Bool.true (.pair (.int .i64) (.pair (.int .i64) (.int .i64))) x0]
theorem aE.eq (k : Nat) (x0) : aE (k + 1) x0 = B (dW k (Z .u64 (O (N x0)))) fun r0 => B (al k 0 (O (N x0)) r0 x0) fun r1 => some ((), r1.2) := by kernel_rfl
def c54 : Code := cB (cB (di P 53))
def bg (k : Nat) (a0 : (List Int) × (List (List Int))) : Option ((List Int) × (List (List Int))) := call k 53 a0
def bg.L0 (k j : Nat) (x0 x1 : Int) (x2 : List (List Int)) (x3 : List Int) (x4 : List (List Int)) (x5 : List Int) (x6 : List (List Int)) : Option ((List Int) × (List (List Int))) := LL k 53 (cC (cC (cB (cA c54)))) j (bO 0 (JK k 53 (cB c54) (R0 53))) [frm 26 [(2, .pv 0 0), (3, .pv 1 0), (11, Sl 2), (12, In x0), (13, In x1)]] [.var [Sl 3, Sl 4], .var [Sl 5, Sl 6], Roo x2, Rw x3, Rww x4, Rw x5, Rww x6]
theorem bg.eq (k : Nat) (a0) : bg (k + 1) a0 = B (bF k a0.1) fun r0 => bg.L0 k k (O (N a0.2)) 0 a0.2 ([] : List Int) ([] : List (List Int)) r0 ([] : List (List Int)) := by kernel_rfl
theorem bg.cf (k j : Nat) (x0 x1 x2 x3 x4 x5 x6) : bg.L0 k (j + 1) x0 x1 x2 x3 x4 x5 x6 = T (D.lt x1 x0) (T (D.le 0 x1) (T (U (V x1) (N x2)) (T (U (V x1) (N x2)) (T (U (V x1) (N x2)) (B (bF k (E x2 (V x1) [])) fun r1 => T (D.leN (N (D.app x6 (r1 :: ([] : List (List Int))))) 1099511627776) (bg.L0 k j x0 (Z .i64 (A x1 1)) x2 x3 x4 x5 (D.app x6 (r1 :: ([] : List (List Int))))) none) none) none) none) none) (some (x5, x6)) := (jn _ _).trans (by kernel_rfl)
def c55 : Code := cB (cB (di P 94))
def c56 : Code := cC (cC (cB (cA c55)))
def c57 : Code := cB c55
def K58 : cx (((List Int) × (List (List Int))) × PUnit) := nR (fD P (vI P 94) (fun z6 z7 => oG P 94 0 0 0 [Ro [], Roo []] z6 z7))
def K59 (k : Nat) : cx (((List Int) × (List (List Int))) × PUnit) := bO 0 (JK k 94 c57 K58)
def c60 : Code := cB (cB c56)
def c61 : Code := cB (cB c57)
def af (k : Nat) (x0 : List Int) (x1 : List (List Int)) : Option (((List Int) × (List (List Int))) × PUnit) := IO_ k 94 0 0 0 [Ro [], Roo []] [[.agg [Sl 0, Sl 1], .fn 95 [] []], [Sl 0, Sl 1]] [Ro x0, Roo x1]
def af.L0 (k j : Nat) (x0 x1 : Int) (x2 : List (Int × (Int × Int))) (x3 : List (List Int)) (x4 x5 : List Int) (x6 : List (List Int)) : Option (((List Int) × (List (List Int))) × PUnit) := LL k 94 c56 j (K59 k) [frm 74 [(1, .fn 95 [] []), (2, .pv 0 0), (4, .pv 1 0), (5, Sl 2), (15, Sl 3), (16, In x0), (17, In x1)], [Sl 4, Sl 3]] [.var [Sl 4, Sl 3], .var [Sl 5, Sl 6], .row Bool.true (.pair (.int .i64) (.pair (.int .i64) (.int .i64))) x2, Roo x3, Ro x4, Rw x5, Rww x6]
def af.L1 (k k1 j : Nat) (x0 x1 x2 : Int) (x3 : Nat) (x4 x5 : Int) (x6 : List (Int × (Int × Int))) (x7 : List (List Int)) (x8 x9 : List Int) (x10 : List (List Int)) : Option (((List Int) × (List (List Int))) × PUnit) := LL k 94 (cC (cC (cB (cB (cC (cA c60)))))) j (bO 2 (bO 1 (JK k 94 (cB c60) (LK k 94 c56 k1 (K59 k))))) [frm 74 [(1, .fn 95 [] []), (2, .pv 0 0), (4, .pv 1 0), (5, Sl 2), (6, In x0), (15, Sl 3), (16, In x1), (17, In x2), (22, .sl 3 [(x3, 0)] Option.none), (23, In x4), (24, In x5)], [Sl 4, Sl 3]] [.var [Sl 4, Sl 3], .var [Sl 5, Sl 6], .row Bool.true (.pair (.int .i64) (.pair (.int .i64) (.int .i64))) x6, Roo x7, Ro x8, Rw x9, Rww x10]
def af.L2 (k j : Nat) (x0 x1 : Int) (x2 : List (Int × (Int × Int))) (x3 : List Int) (x4 : List (List Int)) (x5 : List Int) (x6 : List (List Int)) (x7 : List Int) (x8 : List (List Int)) : Option (((List Int) × (List (List Int))) × PUnit) := LL k 94 (cC (cC (cB (cA c61)))) j (bO 4 (JK k 94 (cB c61) K58)) [frm 74 [(2, .pv 0 0), (4, .pv 1 0), (10, .pv 2 0), (48, Sl 3), (49, In x0), (50, In x1)], [Sl 4, Sl 5]] [.var [Sl 4, Sl 5], .var [Sl 6, Sl 7], .var [Sl 8, Sl 9], .row Bool.true (.pair (.int .i64) (.pair (.int .i64) (.int .i64))) x2, Ro x3, Roo x4, Rw x5, Rww x6, Rw x7, Rww x8]
theorem af.eq (k : Nat) (x0 x1) : af (k + 1) x0 x1 = af.L0 k k (O (N x1)) 0 ([] : List (Int × (Int × Int))) x1 x0 ([] : List Int) ([] : List (List Int)) := by kernel_rfl
theorem af.cf (k j : Nat) (x0 x1 x2 x3 x4 x5 x6) : af.L0 k (j + 1) x0 x1 x2 x3 x4 x5 x6 = T (D.lt x1 x0) (T (D.le 0 x1) (T (U (V x1) (N x3)) (T (U (V x1) (N x3)) (T (U (V x1) (N x3)) (af.L1 k j k x1 x0 x1 (V x1) (O (N (E x3 (V x1) []))) 0 x2 x3 x4 x5 x6) none) none) none) none) (B (aE k x2) fun r0 => B (bg k (x4, x3)) fun r1 => af.L2 k k (O (N r0.2)) 0 r0.2 x4 x3 x5 x6 r1.1 r1.2) := (jn _ _).trans (by kernel_rfl)
theorem af.dS (k k1 j : Nat) (x0 x1 x2 x3 x4 x5 x6 x7 x8 x9 x10) : af.L1 k k1 (j + 1) x0 x1 x2 x3 x4 x5 x6 x7 x8 x9 x10 = T (D.lt x5 x4) (T (U x3 (N x7)) (T (D.le 0 x5) (T (U (V x5) (N (E x7 x3 []))) (T (U x3 (N x7)) (T (U (V x5) (N (E x7 x3 []))) (B (dw k x8 x0) fun r2 => T (D.leN (N (D.app x6 (((E (E x7 x3 []) (V x5) 0), ((Z .i64 (A r2 x5)), x0)) :: ([] : List (Int × (Int × Int)))))) 1099511627776) (af.L1 k k1 j x0 x1 x2 x3 x4 (Z .i64 (A x5 1)) (D.app x6 (((E (E x7 x3 []) (V x5) 0), ((Z .i64 (A r2 x5)), x0)) :: ([] : List (Int × (Int × Int))))) x7 x8 x9 x10) none) none) none) none) none) none) (af.L0 k k1 x1 (Z .i64 (A x2 1)) x6 x7 x8 x9 x10) := (jn _ _).trans (by kernel_rfl)
theorem af.uw (k j : Nat) (x0 x1 x2 x3 x4 x5 x6 x7 x8) : af.L2 k (j + 1) x0 x1 x2 x3 x4 x5 x6 x7 x8 = T (D.lt x1 x0) (T (D.le 0 x1) (T (U (V x1) (N x2)) (T (U (V x1) (N x2)) (T (D.le 0 2) (T (D.lt 2 (O 3)) (T (D.le 0 (E x2 (V x1) (0, (0, 0))).2.2) (T (U (V (E x2 (V x1) (0, (0, 0))).2.2) (N x8)) (T (U (V (E x2 (V x1) (0, (0, 0))).2.2) (N x8)) (T (D.le 0 1) (T (D.lt 1 (O 3)) (T (D.le 0 2) (T (D.lt 2 (O 3)) (B (dw k x3 (E x2 (V x1) (0, (0, 0))).2.2) fun r3 => T (U (V (E x2 (V x1) (0, (0, 0))).2.2) (N x8)) (T (D.le 0 (Z .i64 (M (E x2 (V x1) (0, (0, 0))).2.1 r3))) (T (U (V (Z .i64 (M (E x2 (V x1) (0, (0, 0))).2.1 r3))) (N (E x8 (V (E x2 (V x1) (0, (0, 0))).2.2) []))) (T (U (V (E x2 (V x1) (0, (0, 0))).2.2) (N x8)) (T (U (V (Z .i64 (M (E x2 (V x1) (0, (0, 0))).2.1 r3))) (N (E x8 (V (E x2 (V x1) (0, (0, 0))).2.2) []))) (af.L2 k j x0 (Z .i64 (A x1 1)) x2 x3 x4 x5 x6 x7 (D.set x8 (V (E x2 (V x1) (0, (0, 0))).2.2) (D.set (E x8 (V (E x2 (V x1) (0, (0, 0))).2.2) []) (V (Z .i64 (M (E x2 (V x1) (0, (0, 0))).2.1 r3))) (Z .i64 (A x1 1))))) none) none) none) none) none) none) none) none) none) none) none) none) none) none) none) none) none) (some ((x7, x8), ())) := (jn _ _).trans (by kernel_rfl)
def bD (k : Nat) (a0 : (List Int) × (List (List Int))) : Option (((List Int) × (List (List Int))) × Bool) := call k 44 a0
theorem bD.eq (k : Nat) (a0) : bD (k + 1) a0 = B (aB k (a0.1, a0.2)) fun r0 => T (D.no r0) (some ((([] : List Int), ([] : List (List Int))), false)) (B (af k a0.1 a0.2) fun r1 => some ((r1.1.1, r1.1.2), true)) := by kernel_rfl
def c62 : Code := cB (cB (di P 17))
def bV (k : Nat) (a0 a1 : List Int) : Option Bool := call k 17 (a0, a1)
def bV.L0 (k j : Nat) (x0 : Int) (x1 x2 : List Int) : Option Bool := LL k 17 (cC (cC (cB (cA c62)))) j (bO 0 (JK k 17 (cB c62) (R0 17))) [frm 26 [(0, Sl 0), (1, Sl 1), (5, In x0)]] [Ro x1, Ro x2]
theorem bV.eq (k : Nat) (a0 a1) : bV (k + 1) a0 a1 = T (D.no (D.eq (O (N a0)) (O (N a1)))) (some false) (bV.L0 k k 0 a0 a1) := by kernel_rfl
theorem bV.cf (k j : Nat) (x0 x1 x2) : bV.L0 k (j + 1) x0 x1 x2 = T (D.lt x0 (O (N x1))) (T (D.le 0 x0) (T (U (V x0) (N x1)) (T (U (V x0) (N x1)) (T (D.le 0 x0) (T (U (V x0) (N x2)) (T (U (V x0) (N x2)) (T (D.no (D.eq (E x1 (V x0) 0) (E x2 (V x0) 0))) (some false) (bV.L0 k j (Z .i64 (A x0 1)) x1 x2)) none) none) none) none) none) none) (some true) := (jn _ _).trans (by kernel_rfl)
def c63 : Code := cB (cB (di P 22))
def bR (k : Nat) (a0 a1 : List (List Int)) : Option Bool := call k 22 (a0, a1)
def bR.L0 (k j : Nat) (x0 : Int) (x1 x2 : List (List Int)) : Option Bool := LL k 22 (cC (cC (cB (cA c63)))) j (bO 0 (JK k 22 (cB c63) (R0 22))) [frm 27 [(0, Sl 0), (1, Sl 1), (5, In x0)]] [Roo x1, Roo x2]
theorem bR.eq (k : Nat) (a0 a1) : bR (k + 1) a0 a1 = T (D.no (D.eq (O (N a0)) (O (N a1)))) (some false) (bR.L0 k k 0 a0 a1) := by kernel_rfl
theorem bR.cf (k j : Nat) (x0 x1 x2) : bR.L0 k (j + 1) x0 x1 x2 = T (D.lt x0 (O (N x1))) (T (D.le 0 x0) (T (U (V x0) (N x1)) (T (U (V x0) (N x1)) (T (D.le 0 x0) (T (U (V x0) (N x2)) (T (U (V x0) (N x2)) (T (U (V x0) (N x1)) (T (U (V x0) (N x2)) (B (bV k (E x1 (V x0) []) (E x2 (V x0) [])) fun r0 => T (D.no r0) (some false) (bR.L0 k j (Z .i64 (A x0 1)) x1 x2)) none) none) none) none) none) none) none) none) (some true) := (jn _ _).trans (by kernel_rfl)
def cu (k : Nat) (a0 a1 : (List Int) × (List (List Int))) : Option Bool := call k 12 (a0, a1)
theorem cu.eq (k : Nat) (a0 a1) : cu (k + 1) a0 a1 = B (bV k a0.1 a1.1) fun r0 => T (D.no r0) (some false) (B (bR k a0.2 a1.2) fun r1 => T (D.no r1) (some false) (some true)) := by kernel_rfl
def c64 : Code := cB (di P 18)
def bh (k : Nat) (x0 : Int) (x1 : List Int) : Option (Int × (List Int)) := IO_ k 18 0 1 1 [Rw []] [[Sl 0, In x0], [Sl 0]] [Rw x1]
def bh.L0 (k j : Nat) (x0 x1 : Int) (x2 : List Int) : Option (Int × (List Int)) := LL k 18 (cC (cC (cB (cA c64)))) j (bO 0 (JK k 18 (cB c64) (nR (fD P (vI P 18) (fun z6 z7 => oG P 18 0 1 1 [Rw []] z6 z7))))) [frm 19 [(0, Sl 0), (1, In x0), (5, In x1)], [Sl 0]] [Rw x2]
theorem bh.eq (k : Nat) (x0 x1) : bh (k + 1) x0 x1 = bh.L0 k k x0 0 x1 := by kernel_rfl
theorem bh.cf (k j : Nat) (x0 x1 x2) : bh.L0 k (j + 1) x0 x1 x2 = T (D.lt x1 (O (N x2))) (T (D.le 0 x1) (T (U (V x1) (N x2)) (T (U (V x1) (N x2)) (bh.L0 k j (Z .i64 (A x0 1)) (Z .i64 (A x1 1)) (D.set x2 (V x1) x0)) none) none) none) (some (x0, x2)) := (jn _ _).trans (by kernel_rfl)
def c65 : Code := cB (di P 23)
def c66 : Code := cC (cC (cB (cA c65)))
def K67 (k : Nat) : cx (Int × (List (List Int))) := bO 0 (JK (k + 1) 23 (cB c65) (nR (fD P (vI P 23) (fun z6 z7 => oG P 23 0 1 1 [Rww []] z6 z7))))
def c68 : Code := cB (di P 18)
def c69 : Code := cB c66
def c70 : Code := cC (cA c69)
def aC (k : Nat) (x0 : Int) (x1 : List (List Int)) : Option (Int × (List (List Int))) := IO_ k 23 0 1 1 [Rww []] [[Sl 0, In x0], [Sl 0]] [Rww x1]
def aC.L0 (k j : Nat) (x0 x1 : Int) (x2 : List (List Int)) : Option (Int × (List (List Int))) := LL (k + 1) 23 c66 j (K67 k) [frm 19 [(0, Sl 0), (1, In x0), (5, In x1)], [Sl 0]] [Rww x2]
def aC.L1 (k k1 j x0 : Nat) (x1 x2 x3 x4 x5 x6 : Int) (x7 : Bool) (x8 : Int) (x9 x10 : Nat) (x11 : Int) (x12 : List (List Int)) : Option (Int × (List (List Int))) := LL k 18 (cC (cC (cB (cA c68)))) j (bO 0 (JK k 18 (cB c68) (nR (fD P (vI P 18) (fun z6 z7 => St.force (St.put z7 (Go.Oper.dst (zj (Code.ops c70) 5)) (o9 z6)) ((fun z8 z9 => fG (Code.ops c70) 5 (zj (Code.ops c70) 5) z9 ((fun z10 z11 => dX P cfg (oE P cfg ext (k + 1)) Option.none (Code.ops c70) [6] (trN 6) z11 (fun z12 z13 => bO 1 (JK (k + 1) 23 (cB c69) (LK (k + 1) 23 c66 k1 (K67 k))) .normal z13)) z8)) (Touch.mk [] [] [] Bool.true))))))) [frm 19 [(0, .sl 0 [(x0, 0)] Option.none), (1, In x1), (5, In x2)], frm 19 [(0, Sl 0), (1, In x3), (5, In x4), (6, In x5), (7, Sl 0), (8, In x6), (9, .bool x7), (12, Sl 0), (13, In x8), (14, .pe 0 [] x9 0), (15, .sl 0 [(x10, 0)] Option.none), (16, In x11)], [Sl 0]] [Rww x12]
theorem aC.eq (k : Nat) (x0 x1) : aC (k + 2) x0 x1 = aC.L0 k (k + 1) x0 0 x1 := by kernel_rfl
theorem aC.cf (k j : Nat) (x0 x1 x2) : aC.L0 k (j + 1) x0 x1 x2 = T (D.lt x1 (O (N x2))) (T (D.le 0 x1) (T (U (V x1) (N x2)) (T (U (V x1) (N x2)) (aC.L1 k j k (V x1) x0 0 x0 x1 x1 (O (N x2)) (D.lt x1 (O (N x2))) x1 (V x1) (V x1) x0 x2) none) none) none) (some (x0, x2)) := (jn _ _).trans (by kernel_rfl)
theorem aC.dS (k k1 j : Nat) (x0 x1 x2 x3 x4 x5 x6 x7 x8 x9 x10 x11 x12) : aC.L1 k k1 (j + 1) x0 x1 x2 x3 x4 x5 x6 x7 x8 x9 x10 x11 x12 = T (U x0 (N x12)) (T (D.lt x2 (O (N (E x12 x0 [])))) (T (U x0 (N x12)) (T (D.le 0 x2) (T (U (V x2) (N (E x12 x0 []))) (T (U x0 (N x12)) (T (U (V x2) (N (E x12 x0 []))) (aC.L1 k k1 j x0 (Z .i64 (A x1 1)) (Z .i64 (A x2 1)) x3 x4 x5 x6 x7 x8 x9 x10 x11 (D.set x12 x0 (D.set (E x12 x0 []) (V x2) x1))) none) none) none) none) none) (aC.L0 k k1 x1 (Z .i64 (A x4 1)) x12)) none := (jn _ _).trans (by kernel_rfl)
def bZ (k : Nat) (x0 : Int) (x1 : List Int) (x2 : List (List Int)) : Option (Int × ((List Int) × (List (List Int)))) := IO_ k 13 0 2 2 [Rw [], Rww []] [[.agg [Sl 0, Sl 1], In x0], [Sl 0, Sl 1]] [Rw x1, Rww x2]
theorem bZ.eq (k : Nat) (x0 x1 x2) : bZ (k + 1) x0 x1 x2 = B (bh k x0 x1) fun r0 => B (aC k r0.1 x2) fun r1 => some (r1.1, (r0.2, r1.2)) := by kernel_rfl
def c71 : Code := cB (di P 19)
def bC (k : Nat) (a0 : List Int) (a1 : Int) : Option Int := call k 19 (a0, a1)
def bC.L0 (k j : Nat) (x0 x1 : Int) (x2 : List Int) : Option Int := LL k 19 (cC (cC (cB (cA c71)))) j (bO 0 (JK k 19 (cB c71) (R0 19))) [frm 21 [(0, Sl 0), (1, In x0), (5, In x1)]] [Ro x2]
theorem bC.eq (k : Nat) (a0 a1) : bC (k + 1) a0 a1 = bC.L0 k k a1 0 a0 := by kernel_rfl
theorem bC.cf (k j : Nat) (x0 x1 x2) : bC.L0 k (j + 1) x0 x1 x2 = T (D.lt x1 (O (N x2))) (T (D.le 0 x1) (T (U (V x1) (N x2)) (T (U (V x1) (N x2)) (T (D.no (D.eq (E x2 (V x1) 0) x0)) (some (-1)) (bC.L0 k j (Z .i64 (A x0 1)) (Z .i64 (A x1 1)) x2)) none) none) none) (some x0) := (jn _ _).trans (by kernel_rfl)
def c72 : Code := cB (di P 24)
def bG (k : Nat) (a0 : List (List Int)) (a1 : Int) : Option Int := call k 24 (a0, a1)
def bG.L0 (k j : Nat) (x0 x1 : Int) (x2 : List (List Int)) : Option Int := LL k 24 (cC (cC (cB (cA c72)))) j (bO 0 (JK k 24 (cB c72) (R0 24))) [frm 21 [(0, Sl 0), (1, In x0), (5, In x1)]] [Roo x2]
theorem bG.eq (k : Nat) (a0 a1) : bG (k + 1) a0 a1 = bG.L0 k k a1 0 a0 := by kernel_rfl
theorem bG.cf (k j : Nat) (x0 x1 x2) : bG.L0 k (j + 1) x0 x1 x2 = T (D.lt x1 (O (N x2))) (T (D.le 0 x1) (T (U (V x1) (N x2)) (T (U (V x1) (N x2)) (T (U (V x1) (N x2)) (B (bC k (E x2 (V x1) []) x0) fun r0 => T (D.lt r0 0) (some (-1)) (bG.L0 k j r0 (Z .i64 (A x1 1)) x2)) none) none) none) none) (some x0) := (jn _ _).trans (by kernel_rfl)
def cQ (k : Nat) (a0 : (List Int) × (List (List Int))) (a1 : Int) : Option Int := call k 14 (a0, a1)
theorem cQ.eq (k : Nat) (a0 a1) : cQ (k + 1) a0 a1 = B (bC k a0.1 a1) fun r0 => T (D.lt r0 0) (some (-1)) (B (bG k a0.2 r0) fun r1 => T (D.lt r1 0) (some (-1)) (some r1)) := by kernel_rfl
def c73 : Code := cB (cB (cB (cB (cB (cB (cB (cB (di P 7))))))))
def c74 : Code := cB (cB (cB (cB c73)))
def aq (k : Nat) (a0 : (List Int) × (List (List Int))) : Option Bool := call k 7 a0
def aq.J0 (k : Nat) (x0 x1 : Bool) (x2 : List Int) (x3 : List (List Int)) (x4 : List Int) (x5 : List (List Int)) (x6 : List Int) (x7 : List (List Int)) (x8 : List Int) (x9 : List (List Int)) : Option Bool := JJ k 7 c73 (R0 7) [frm 96 [(1, .pv 0 0), (4, .pv 1 0), (5, .bool x0), (6, .pv 2 0), (7, .pv 3 0), (8, .bool x1)]] [.var [Sl 4, Sl 5], .var [Sl 6, Sl 7], .var [Sl 8, Sl 9], .var [Sl 10, Sl 11], Ro x2, Roo x3, Rw x4, Rww x5, Rw x6, Rww x7, Rw x8, Rww x9]
def aq.J1 (k : Nat) (x0 : Bool) (x1 : List Int) (x2 : List (List Int)) (x3 : List Int) (x4 : List (List Int)) (x5 : List Int) (x6 : List (List Int)) : Option Bool := JJ k 7 c74 (R0 7) [frm 96 [(1, .pv 0 0), (4, .pv 1 0), (5, .bool x0), (7, .pv 2 0)]] [.var [Sl 3, Sl 4], .var [Sl 5, Sl 6], .var [Sl 7, Sl 8], Ro x1, Roo x2, Rw x3, Rww x4, Rw x5, Rww x6]
def aq.J2 (k : Nat) (x0 : Int) (x1 : List Int) (x2 : List (List Int)) : Option Bool := JJ k 7 (cB (cB (cB (cB (cB (cB (cB (cB c74)))))))) (R0 7) [frm 96 [(7, .pv 0 0), (10, In x0)]] [.var [Sl 1, Sl 2], Rw x1, Rww x2]
theorem aq.eq (k : Nat) (a0) : aq (k + 1) a0 = B (dC k (a0.1, a0.2) 1048576) fun r0 => T (D.lt r0 0) (some true) (B (cJ k (a0.1, a0.2)) fun r1 => B (ai k (r1.1, r1.2)) fun r2 => B (cJ k (a0.1, a0.2)) fun r3 => B (bD k (r3.1, r3.2)) fun r4 => B (cu k (r4.1.1, r4.1.2) (r2.1.1, r2.1.2)) fun r5 => T (D.no r5) (some false) (T (D.no (D.eqB r4.2 r2.2)) (some false) (aq.J0 k r2.2 r4.2 a0.1 a0.2 r2.1.1 r2.1.2 r3.1 r3.2 r4.1.1 r4.1.2))) := by kernel_rfl
theorem aq.je (k : Nat) (x0 x1 x2 x3 x4 x5 x6 x7 x8 x9) : aq.J0 k x0 x1 x2 x3 x4 x5 x6 x7 x8 x9 = B (cJ k (x2, x3)) fun r6 => B (cu k (x6, x7) (r6.1, r6.2)) fun r7 => T (D.no r7) (some false) (B (bZ k 1 x6 x7) fun r8 => T (D.lt r8.1 0) (some false) (B (cu k (x8, x9) (x4, x5)) fun r9 => T (D.no r9) (some false) (T (D.no (D.eqB x1 x0)) (some false) (aq.J1 k x0 x2 x3 x4 x5 x8 x9)))) := (jn _ _).trans (by kernel_rfl)
theorem aq.nB (k : Nat) (x0 x1 x2 x3 x4 x5 x6) : aq.J1 k x0 x1 x2 x3 x4 x5 x6 = B (bZ k 1 x5 x6) fun r10 => B (cQ k (r10.2.1, r10.2.2) 1) fun r11 => T (D.lt r11 0) (some false) (T (D.no (D.eq r11 r10.1)) (some false) (B (cJ k (x1, x2)) fun r12 => B (bD k (r12.1, r12.2)) fun r13 => B (cu k (r13.1.1, r13.1.2) (x3, x4)) fun r14 => T (D.no r14) (some false) (T (D.no (D.eqB r13.2 x0)) (some false) (aq.J2 k r10.1 r10.2.1 r10.2.2)))) := (jn _ _).trans (by kernel_rfl)
theorem aq.ng (k : Nat) (x0 x1 x2) : aq.J2 k x0 x1 x2 = B (cQ k (x1, x2) 1) fun r15 => T (D.lt r15 0) (some false) (T (D.no (D.eq r15 x0)) (some false) (some true)) := (jn _ _).trans (by kernel_rfl)
end Go.Am.Seat
