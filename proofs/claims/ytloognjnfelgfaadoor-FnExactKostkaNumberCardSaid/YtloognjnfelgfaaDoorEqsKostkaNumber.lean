/- The machine's equations for the functions that the law reaches, each checked by the kernel; no conditions. -/
import Derived.Test.YtloognjnfelgfaaDoorCfgKostkaNumber
import Derived.Test.YtloognjnfelgfaaDoorProg
set_option linter.unusedSimpArgs false
set_option linter.unusedVariables false
set_option linter.unnecessarySimpa false
set_option linter.unusedSectionVars false
noncomputable section
namespace Go.Am.Seat
open Go Go.Am Go.Proofs
set_option linter.unusedVariables false
set_option linter.unusedSectionVars false
set_option maxRecDepth 100000
variable [D] [DJ]
abbrev LI:=List Int
abbrev LJ:=List (List Int)
abbrev P:Program:=Go.Proofs.Tryd.prog
def ext:Ext P:=Fx P EJ GZ
def X{R:Type}(k f:Nat)(c:Code):St→cS R→Option R:=exec P cfg (th P cfg ext k) k f c
abbrev call(k f:Nat)(x:den (eH P f)):Option (den (resTy P f)):=yR P cfg ext k f x
def R0(f:Nat):cS (den (resTy P f)):=uB (finish P f (Hf P f))
def JK{T:Type}(k f:Nat)(c:Code)(K:cS T):cS T:=qe (fun a b=>gI (Cfg.joins cfg f (key c)) (fun s=>X k f c s b) a) K
def LK{T:Type}(k f:Nat)(c:Code)(j:Nat)(K:cS T):cS T:=qe (fun a b=>gI (Cfg.loops cfg f (key c)) (fun s=>jC (fun x y=>X k f c x y) (Cfg.loops cfg f (key c)) j s b) a) K
def LL{T:Type}(k f:Nat)(c:Code)(j:Nat)(K:cS T)(fr:List (List AV))(rs:List ak):Option T:=D.jn (fun a=>jC (fun x y=>X k f c x y) (Cfg.loops cfg f (key c)) j a K) (St.mk fr rs)
def JJ{T:Type}(k f:Nat)(c:Code)(K:cS T)(fr:List (List AV))(rs:List ak):Option T:=D.jn (fun a=>X k f c a K) (St.mk fr rs)
abbrev IO_(k f nV nD n:Nat)(rs0:List ak)(fr:List (List AV))(rs:List ak):Option (den (resTy P f)×den (rN nV nD n rs0)):=j7 (th P cfg ext k) f nV nD n rs0 (St.mk fr rs)
def Sl(n:Nat):AV:= .sl n [] none
def In(n:Int):AV:= .int .i64 n
def Rw(x:LI):ak:= .row Bool.true (.int .i64) x
def Rww(x:LJ):ak:= .row Bool.true (.sl (.int .i64)) x
def Ro(x:LI):ak:= .row Bool.false (.int .i64) x
def Roo(x:LJ):ak:= .row Bool.false (.sl (.int .i64)) x
open Go.Am.D renaming test → T, bnd → B, len → N, nat → V, ltN → U, rd → E, ofN → O, wrap → Z, add → A, sub → M
open Go.Am.DJ renaming jn_eq → jn
open Go.Am.Code (cA cB cC cT)
def eU(k:Nat)(a0:LI)(a1:Int):Option Int:=call k 53 (a0,a1)
theorem eU.eq(k:Nat)(a0 a1):eU (k+1) a0 a1=T (D.lt (Z .i64 (M a1 (O (N a0)))) 0) (some (-1)) (some (Z .i64 (M a1 (O (N a0))))):=by kernel_rfl
def gm(k:Nat)(a0:(LI)×(LI))(a1:Int):Option Int:=call k 16 (a0,a1)
theorem gm.eq(k:Nat)(a0 a1):gm (k+1) a0 a1=B (eU k a0.1 a1) fun r0=>T (D.lt r0 0) (some (-1)) (B (eU k a0.2 r0) fun r1=>T (D.lt r1 0) (some (-1)) (some r1)):=by kernel_rfl
def c1:Code:=cB (cB (fm P 13))
def bt(k:Nat)(a0:LI):Option LI:=call k 13 a0
def bt.L0(k j:Nat)(x0:Int)(x1 x2:LI):Option LI:=LL k 13 (cC (cC (cB (cA c1)))) j (cP 0 (JK k 13 (cB c1) (R0 13))) [frm 22 [(0,Sl 0),(3,Sl 1),(4,In x0)]] [Ro x1,Rw x2]
theorem bt.eq(k:Nat)(a0):bt (k+1) a0=T (D.le 0 (O (N a0))) (T (D.le (O (N a0)) (O (N a0))) (T (D.leN (V (O (N a0))) 1099511627776) (bt.L0 k k 0 a0 (D.rep (V (O (N a0))) (0:Int))) none) none) none:=by kernel_rfl
theorem bt.cN(k j:Nat)(x0 x1 x2):bt.L0 k (j+1) x0 x1 x2=T (D.lt x0 (O (N x1))) (T (D.le 0 x0) (T (U (V x0) (N x1)) (T (U (V x0) (N x1)) (T (D.le 0 x0) (T (U (V x0) (N x2)) (T (U (V x0) (N x2)) (bt.L0 k j (Z .i64 (A x0 1)) x1 (D.set x2 (V x0) (E x1 (V x0) 0))) none) none) none) none) none) none) (some x2):=(jn _ _).trans (by kernel_rfl)
def eM(k:Nat)(a0:(LI)×(LI)):Option ((LI)×(LI)):=call k 18 a0
theorem eM.eq(k:Nat)(a0):eM (k+1) a0=B (bt k a0.1) fun r0=>B (bt k a0.2) fun r1=>some (r0,r1):=by kernel_rfl
def ij(k:Nat)(a0 a1 a2:Int):Option Bool:=call k 61 (a0,a1,a2)
theorem ij.eq(k:Nat)(a0 a1 a2):ij (k+1) a0 a1 a2=T (D.le a1 a0) (some (D.le a0 a2)) (some false):=by kernel_rfl
def c2:Code:=cB (cB (fm P 67))
def c3:Code:=cC (cC (cB (cA c2)))
def K4(k:Nat):cS (den (resTy P 67)):=cP 0 (JK k 67 (cB c2) (R0 67))
def c5:Code:=cB c3
def aC(k:Nat)(a0:LI):Option Bool:=call k 67 a0
def aC.L0(k j:Nat)(x0 x1:Int)(x2:LI):Option Bool:=LL k 67 c3 j (K4 k) [frm 41 [(0,Sl 0),(3,In x0),(4,In x1)]] [Ro x2]
def aC.J1(k k1:Nat)(x0 x1:Int)(x2:LI):Option Bool:=JJ k 67 (cB (cC (cA c5))) (cP 1 (JK k 67 (cB c5) (LK k 67 c3 k1 (K4 k)))) [frm 41 [(0,Sl 0),(3,In x0),(4,In x1)]] [Ro x2]
theorem aC.eq(k:Nat)(a0):aC (k+1) a0=aC.L0 k k 0 0 a0:=by kernel_rfl
theorem aC.cN(k j:Nat)(x0 x1 x2):aC.L0 k (j+1) x0 x1 x2=T (D.lt x1 (O (N x2))) (T (D.le 0 x1) (T (U (V x1) (N x2)) (T (U (V x1) (N x2)) (B (ij k (E x2 (V x1) 0) 1 9) fun r0=>T (D.no r0) (some false) (T (D.lt 0 x1) (T (D.le 0 x1) (T (U (V x1) (N x2)) (T (U (V x1) (N x2)) (T (D.le 0 (Z .i64 (M x1 1))) (T (U (V (Z .i64 (M x1 1))) (N x2)) (T (U (V (Z .i64 (M x1 1))) (N x2)) (T (D.lt (E x2 (V (Z .i64 (M x1 1))) 0) (E x2 (V x1) 0)) (some false) (aC.J1 k j x0 x1 x2)) none) none) none) none) none) none) (aC.J1 k j x0 x1 x2))) none) none) none) (some true):=(jn _ _).trans (by kernel_rfl)
theorem aC.wm(k k1:Nat)(x0 x1 x2):aC.J1 k k1 x0 x1 x2=T (D.le 0 x1) (T (U (V x1) (N x2)) (T (U (V x1) (N x2)) (T (D.lt 9 (Z .i64 (A x0 (E x2 (V x1) 0)))) (some false) (aC.L0 k k1 (Z .i64 (A x0 (E x2 (V x1) 0))) (Z .i64 (A x1 1)) x2)) none) none) none:=(jn _ _).trans (by kernel_rfl)
def c6:Code:=cB (cB (fm P 85))
def a7(k:Nat)(a0 a1:LI):Option Bool:=call k 85 (a0,a1)
def a7.J0(k:Nat)(x0 x1:LI):Option Bool:=JJ k 85 c6 (R0 85) [frm 36 [(0,Sl 0),(1,Sl 1)]] [Ro x0,Ro x1]
def a7.L1(k j:Nat)(x0:Int)(x1 x2:LI):Option Bool:=LL k 85 (cC (cC (cB (cA c6)))) j (cP 0 (JK k 85 (cB c6) (R0 85))) [frm 36 [(0,Sl 0),(1,Sl 1),(5,In x0)]] [Ro x1,Ro x2]
theorem a7.eq(k:Nat)(a0 a1):a7 (k+1) a0 a1=B (aC k a0) fun r0=>T (D.no r0) (some false) (B (aC k a1) fun r1=>T (D.no r1) (some false) (T (D.lt (O (N a1)) (O (N a0))) (some false) (a7.J0 k a0 a1))):=by kernel_rfl
theorem a7.my(k:Nat)(x0 x1):a7.J0 k x0 x1=a7.L1 k k 0 x0 x1:=(jn _ _).trans (by kernel_rfl)
theorem a7.lJ(k j:Nat)(x0 x1 x2):a7.L1 k (j+1) x0 x1 x2=T (D.lt x0 (O (N x1))) (T (D.le 0 x0) (T (U (V x0) (N x1)) (T (U (V x0) (N x1)) (T (D.le 0 x0) (T (U (V x0) (N x2)) (T (U (V x0) (N x2)) (T (D.lt (E x2 (V x0) 0) (E x1 (V x0) 0)) (some false) (a7.L1 k j (Z .i64 (A x0 1)) x1 x2)) none) none) none) none) none) none) (some true):=(jn _ _).trans (by kernel_rfl)
def gw(k:Nat)(a0:(LI)×(LI)):Option Bool:=call k 54 a0
theorem gw.eq(k:Nat)(a0):gw (k+1) a0=B (a7 k a0.2 a0.1) fun r0=>some r0:=by kernel_rfl
def c7:Code:=cB (fm P 57)
def bO(k:Nat)(a0:LI):Option Bool:=call k 57 a0
def bO.L0(k j:Nat)(x0:Int)(x1:LI):Option Bool:=LL k 57 (cC (cC (cB (cA c7)))) j (cP 0 (JK k 57 (cB c7) (R0 57))) [frm 19 [(0,Sl 0),(3,In x0)]] [Ro x1]
theorem bO.eq(k:Nat)(a0):bO (k+1) a0=bO.L0 k k 0 a0:=by kernel_rfl
theorem bO.cN(k j:Nat)(x0 x1):bO.L0 k (j+1) x0 x1=T (D.lt x0 (O (N x1))) (T (D.le 0 x0) (T (U (V x0) (N x1)) (T (U (V x0) (N x1)) (B (ij k (E x1 (V x0) 0) 0 9) fun r0=>T (D.no r0) (some false) (bO.L0 k j (Z .i64 (A x0 1)) x1)) none) none) none) (some (D.le (O (N x1)) 9)):=(jn _ _).trans (by kernel_rfl)
def c8:Code:=cB (cB (fm P 86))
def bH(k:Nat)(a0:LI):Option Int:=call k 86 a0
def bH.L0(k j:Nat)(x0 x1:Int)(x2:LI):Option Int:=LL k 86 (cC (cC (cB (cA c8)))) j (cP 0 (JK k 86 (cB c8) (R0 86))) [frm 18 [(0,Sl 0),(3,In x0),(4,In x1)]] [Ro x2]
theorem bH.eq(k:Nat)(a0):bH (k+1) a0=bH.L0 k k 0 0 a0:=by kernel_rfl
theorem bH.cN(k j:Nat)(x0 x1 x2):bH.L0 k (j+1) x0 x1 x2=T (D.lt x1 (O (N x2))) (T (D.le 0 x1) (T (U (V x1) (N x2)) (T (U (V x1) (N x2)) (bH.L0 k j (Z .i64 (A x0 (E x2 (V x1) 0))) (Z .i64 (A x1 1)) x2) none) none) none) (some x0):=(jn _ _).trans (by kernel_rfl)
def iX(k:Nat)(a0:Bool):Option Int:=call k 71 a0
theorem iX.eq(k:Nat)(a0):iX (k+1) a0=T a0 (some 1) (some 0):=by kernel_rfl
def cx(k:Nat)(a0:LI)(a1:Int):Option Int:=call k 65 (a0,a1)
def cx.J0(k:Nat)(x0:Int)(x1:LI):Option Int:=JJ k 65 (cB (cB (fm P 65))) (R0 65) [frm 17 [(0,Sl 0),(1,In x0)]] [Ro x1]
theorem cx.eq(k:Nat)(a0 a1):cx (k+1) a0 a1=T (D.lt a1 0) (some 0) (T (D.le (O (N a0)) a1) (some 0) (cx.J0 k a1 a0)):=by kernel_rfl
theorem cx.my(k:Nat)(x0 x1):cx.J0 k x0 x1=T (D.le 0 x0) (T (U (V x0) (N x1)) (T (U (V x0) (N x1)) (some (E x1 (V x0) 0)) none) none) none:=(jn _ _).trans (by kernel_rfl)
def iP(k:Nat)(a0 a1:Int):Option Int:=call k 121 (a0,a1)
theorem iP.eq(k:Nat)(a0 a1):iP (k+1) a0 a1=T (D.lt a0 a1) (some a0) (some a1):=by kernel_rfl
def c9:Code:=cB (cB (cB (cB (cB (fm P 92)))))
def c10:Code:=cC (cC (cB (cA c9)))
def K11(k:Nat):cS (den (resTy P 92)):=cP 0 (JK k 92 (cB c9) (R0 92))
def c12:Code:=cB c10
def K13(k k1:Nat):cS (den (resTy P 92)):=LK k 92 c10 k1 (K11 k)
def aw(k:Nat)(a0 a1:LI)(a2 a3:Int):Option LJ:=call k 92 (a0,a1,a2,a3)
def aw.J0(k:Nat)(x0 x1 x2:Int)(x3 x4:LI)(x5:LJ):Option LJ:=JJ k 92 c9 (R0 92) [frm 84 [(0,Sl 0),(1,Sl 1),(2,In x0),(3,In x1),(9,Sl 2),(10,In x2)]] [Ro x3,Ro x4,Rww x5]
def aw.L1(k j:Nat)(x0 x1 x2 x3:Int)(x4 x5:LI)(x6:LJ):Option LJ:=LL k 92 c10 j (K11 k) [frm 84 [(0,Sl 0),(1,Sl 1),(2,In x0),(3,In x1),(9,Sl 2),(10,In x2),(11,In x3)]] [Ro x4,Ro x5,Rww x6]
def aw.J2(k k1:Nat)(x0 x1 x2 x3:Int)(x4 x5:LI)(x6:LJ):Option LJ:=JJ k 92 c12 (K13 k k1) [frm 84 [(0,Sl 0),(1,Sl 1),(2,In x0),(3,In x1),(9,Sl 2),(10,In x2),(11,In x3)]] [Ro x4,Ro x5,Rww x6]
def aw.L3(k k1 j:Nat)(x0 x1 x2 x3 x4:Int)(x5 x6:LI)(x7 x8:LJ):Option LJ:=LL k 92 (cC (cC (cB (cB (cC (cA c12)))))) j (cP 2 (cP 1 (JK k 92 (cB c12) (K13 k k1)))) [frm 84 [(0,Sl 0),(1,Sl 1),(2,In x0),(3,In x1),(9,Sl 2),(10,In x2),(11,In x3),(12,Sl 3),(13,In x4)]] [Ro x5,Ro x6,Rww x7,Rww x8]
theorem aw.eq(k:Nat)(a0 a1 a2 a3):aw (k+1) a0 a1 a2 a3=T (D.eq a3 (O (N a1))) (T (D.eq a2 0) (T (D.leN (N (D.app ([]:LJ) (([]:LI)::([]:LJ)))) 1099511627776) (some (D.app ([]:LJ) (([]:LI)::([]:LJ)))) none) (some ([]:LJ))) (T (D.le 0 a3) (T (U (V a3) (N a1)) (T (U (V a3) (N a1)) (T (D.lt 0 a3) (B (cx k a0 (Z .i64 (M a3 1))) fun r0=>B (iP k (E a1 (V a3) 0) r0) fun r1=>aw.J0 k a2 a3 r1 a0 a1 ([]:LJ)) (aw.J0 k a2 a3 (E a1 (V a3) 0) a0 a1 ([]:LJ))) none) none) none):=by kernel_rfl
theorem aw.my(k:Nat)(x0 x1 x2 x3 x4 x5):aw.J0 k x0 x1 x2 x3 x4 x5=B (cx k x3 x1) fun r2=>aw.L1 k k x0 x1 x2 r2 x3 x4 x5:=(jn _ _).trans (by kernel_rfl)
theorem aw.lJ(k j:Nat)(x0 x1 x2 x3 x4 x5 x6):aw.L1 k (j+1) x0 x1 x2 x3 x4 x5 x6=T (D.le x3 x2) (B (cx k x4 x1) fun r3=>T (D.le (Z .i64 (M x3 r3)) x0) (aw.J2 k j x0 x1 x2 x3 x4 x5 x6) (some x6)) (some x6):=(jn _ _).trans (by kernel_rfl)
theorem aw.wA(k k1:Nat)(x0 x1 x2 x3 x4 x5 x6):aw.J2 k k1 x0 x1 x2 x3 x4 x5 x6=B (cx k x4 x1) fun r4=>B (aw k x4 x5 (Z .i64 (A (Z .i64 (M x0 x3)) r4)) (Z .i64 (A x1 1))) fun r5=>aw.L3 k k1 k x0 x1 x2 x3 0 x4 x5 x6 r5:=(jn _ _).trans (by kernel_rfl)
theorem aw.G4(k k1 j:Nat)(x0 x1 x2 x3 x4 x5 x6 x7 x8):aw.L3 k k1 (j+1) x0 x1 x2 x3 x4 x5 x6 x7 x8=T (D.lt x4 (O (N x8))) (T (D.le 0 x4) (T (U (V x4) (N x8)) (T (U (V x4) (N x8)) (T (U (V x4) (N x8)) (T (D.leN (N (D.app (x3::([]:LI)) (E x8 (V x4) []))) 1099511627776) (T (D.leN (N (D.app x7 ((D.app (x3::([]:LI)) (E x8 (V x4) []))::([]:LJ)))) 1099511627776) (aw.L3 k k1 j x0 x1 x2 x3 (Z .i64 (A x4 1)) x5 x6 (D.app x7 ((D.app (x3::([]:LI)) (E x8 (V x4) []))::([]:LJ))) x8) none) none) none) none) none) none) (aw.L1 k k1 x0 x1 x2 (Z .i64 (A x3 1)) x5 x6 x7):=(jn _ _).trans (by kernel_rfl)
def c14:Code:=cB (cB (fm P 93))
def c15:Code:=cC (cC (cA c14))
def c16:Code:=cB c14
def K17(k:Nat):cS (den (resTy P 93)):=cP 0 (JK k 93 c16 (R0 93))
def aQ(k:Nat)(a0:LI):Option LI:=call k 93 a0
def aQ.L0(k j:Nat)(x0:Int)(x1:LI):Option LI:=LL k 93 c15 j (K17 k) [frm 23 [(0,Sl 0),(3,In x0)]] [Ro x1]
def aQ.J1(k k1:Nat)(x0:Int)(x1:LI):Option LI:=JJ k 93 (cB c15) (LK k 93 c15 k1 (K17 k)) [frm 23 [(0,Sl 0),(3,In x0)]] [Ro x1]
def aQ.J2(k:Nat)(x0:Int)(x1:LI):Option LI:=JJ k 93 c16 (R0 93) [frm 23 [(0,Sl 0),(3,In x0)]] [Ro x1]
theorem aQ.eq(k:Nat)(a0):aQ (k+1) a0=aQ.L0 k k (O (N a0)) a0:=by kernel_rfl
theorem aQ.cN(k j:Nat)(x0 x1):aQ.L0 k (j+1) x0 x1=T (D.lt 0 x0) (T (D.le 0 (Z .i64 (M x0 1))) (T (U (V (Z .i64 (M x0 1))) (N x1)) (T (U (V (Z .i64 (M x0 1))) (N x1)) (T (D.eq (E x1 (V (Z .i64 (M x0 1))) 0) 0) (aQ.J1 k j x0 x1) (aQ.J2 k x0 x1)) none) none) none) (aQ.J2 k x0 x1):=(jn _ _).trans (by kernel_rfl)
theorem aQ.wm(k k1:Nat)(x0 x1):aQ.J1 k k1 x0 x1=aQ.L0 k k1 (Z .i64 (M x0 1)) x1:=(jn _ _).trans (by kernel_rfl)
theorem aQ.wA(k:Nat)(x0 x1):aQ.J2 k x0 x1=T (D.le 0 x0) (T (D.leN (V x0) (N x1)) (T (D.leN (N (D.app ([]:LI) (D.take (D.subN (V x0) 0) (D.drop 0 x1)))) 1099511627776) (some (D.app ([]:LI) (D.take (D.subN (V x0) 0) (D.drop 0 x1)))) none) none) none:=(jn _ _).trans (by kernel_rfl)
def c18:Code:=cB (cB (cB (cB (fm P 58))))
def bN(k:Nat)(a0 a1 a2:LI)(a3:Int):Option Int:=call k 58 (a0,a1,a2,a3)
def bN.L0(k j:Nat)(x0 x1 x2:Int)(x3 x4:LI)(x5:LJ):Option Int:=LL k 58 (cC (cC (cB (cA c18)))) j (cP 0 (JK k 58 (cB c18) (R0 58))) [frm 48 [(1,Sl 0),(2,Sl 1),(3,In x0),(9,In x1),(10,Sl 2),(11,In x2)]] [Ro x3,Ro x4,Rww x5]
theorem bN.eq(k:Nat)(a0 a1 a2 a3):bN (k+1) a0 a1 a2 a3=T (D.eq a3 (O (N a2))) (B (bH k a0) fun r0=>B (bH k a1) fun r1=>B (iX k (D.eq r0 r1)) fun r2=>some r2) (T (D.le 0 a3) (T (U (V a3) (N a2)) (T (U (V a3) (N a2)) (B (aw k a0 a1 (E a2 (V a3) 0) 0) fun r3=>bN.L0 k k a3 0 0 a1 a2 r3) none) none) none):=by kernel_rfl
theorem bN.cN(k j:Nat)(x0 x1 x2 x3 x4 x5):bN.L0 k (j+1) x0 x1 x2 x3 x4 x5=T (D.lt x2 (O (N x5))) (T (D.le 0 x2) (T (U (V x2) (N x5)) (T (U (V x2) (N x5)) (T (U (V x2) (N x5)) (B (aQ k (E x5 (V x2) [])) fun r4=>B (bN k r4 x3 x4 (Z .i64 (A x0 1))) fun r5=>bN.L0 k j x0 (Z .i64 (A x1 r5)) (Z .i64 (A x2 1)) x3 x4 x5) none) none) none) none) (some x1):=(jn _ _).trans (by kernel_rfl)
def bF(k:Nat)(a0:(LI)×(LI))(a1:LI):Option Int:=call k 21 (a0,a1)
def bF.J0(k:Nat)(x0 x1 x2:LI):Option Int:=JJ k 21 (cB (cB (fm P 21))) (R0 21) [frm 19 [(1,Sl 0),(2,.pv 1 0)]] [Ro x0,.var [Sl 2,Sl 3],Ro x1,Ro x2]
theorem bF.eq(k:Nat)(a0 a1):bF (k+1) a0 a1=B (gw k (a0.1,a0.2)) fun r0=>T (D.no r0) (some 0) (B (bO k a1) fun r1=>T (D.no r1) (some 0) (bF.J0 k a1 a0.1 a0.2)):=by kernel_rfl
theorem bF.my(k:Nat)(x0 x1 x2):bF.J0 k x0 x1 x2=B (bN k x2 x1 x0 0) fun r2=>some r2:=(jn _ _).trans (by kernel_rfl)
def ct(k:Nat)(a0 a1 a2:Int):Option Bool:=call k 60 (a0,a1,a2)
theorem ct.eq(k:Nat)(a0 a1 a2):ct (k+1) a0 a1 a2=T (D.le a1 a0) (some (D.le a0 a2)) (some false):=by kernel_rfl
def c19:Code:=cB (cB (fm P 82))
def c20:Code:=cC (cC (cB (cA c19)))
def K21(k:Nat):cS (den (resTy P 82)):=cP 0 (JK k 82 (cB c19) (R0 82))
def c22:Code:=cB (cB c20)
def az(k:Nat)(a0:LI):Option Bool:=call k 82 a0
def az.L0(k j:Nat)(x0 x1 x2:Int)(x3:LI):Option Bool:=LL k 82 c20 j (K21 k) [frm 35 [(0,Sl 0),(3,In x0),(6,Sl 0),(7,In x1),(8,In x2)]] [Ro x3]
def az.J1(k k1:Nat)(x0 x1 x2 x3:Int)(x4:LI):Option Bool:=JJ k 82 (cB (cB (cC (cA c22)))) (cP 1 (JK k 82 (cB c22) (LK k 82 c20 k1 (K21 k)))) [frm 35 [(0,Sl 0),(3,In x0),(5,In x1),(6,Sl 0),(7,In x2),(8,In x3)]] [Ro x4]
theorem az.eq(k:Nat)(a0):az (k+1) a0=az.L0 k k 0 (O (N a0)) 0 a0:=by kernel_rfl
theorem az.cN(k j:Nat)(x0 x1 x2 x3):az.L0 k (j+1) x0 x1 x2 x3=T (D.lt x2 x1) (T (D.le 0 x2) (T (U (V x2) (N x3)) (T (U (V x2) (N x3)) (B (ct k (E x3 (V x2) 0) 1 9) fun r0=>T (D.no r0) (some false) (T (D.lt 0 x2) (T (D.le 0 (Z .i64 (M x2 1))) (T (U (V (Z .i64 (M x2 1))) (N x3)) (T (U (V (Z .i64 (M x2 1))) (N x3)) (T (D.lt (E x3 (V (Z .i64 (M x2 1))) 0) (E x3 (V x2) 0)) (some false) (az.J1 k j x0 (E x3 (V x2) 0) x1 x2 x3)) none) none) none) (az.J1 k j x0 (E x3 (V x2) 0) x1 x2 x3))) none) none) none) (some true):=(jn _ _).trans (by kernel_rfl)
theorem az.wm(k k1:Nat)(x0 x1 x2 x3 x4):az.J1 k k1 x0 x1 x2 x3 x4=T (D.lt 9 (Z .i64 (A x0 x1))) (some false) (az.L0 k k1 (Z .i64 (A x0 x1)) x2 (Z .i64 (A x3 1)) x4):=(jn _ _).trans (by kernel_rfl)
def dX(k:Nat)(a0:LI)(a1:Int):Option Int:=call k 80 (a0,a1)
theorem dX.eq(k:Nat)(a0 a1):dX (k+1) a0 a1=B (ct k a1 0 (Z .i64 (M (O (N a0)) 1))) fun r0=>T (D.no r0) (some 0) (T (D.le 0 a1) (T (U (V a1) (N a0)) (T (U (V a1) (N a0)) (some (E a0 (V a1) 0)) none) none) none):=by kernel_rfl
def c23:Code:=cB (cB (fm P 113))
def ba(k:Nat)(a0 a1:LI):Option Bool:=call k 113 (a0,a1)
def ba.J0(k:Nat)(x0 x1:LI):Option Bool:=JJ k 113 c23 (R0 113) [frm 28 [(0,Sl 0),(1,Sl 1)]] [Ro x0,Ro x1]
def ba.L1(k j:Nat)(x0 x1:Int)(x2 x3:LI):Option Bool:=LL k 113 (cC (cC (cB (cA c23)))) j (cP 0 (JK k 113 (cB c23) (R0 113))) [frm 28 [(1,Sl 0),(15,Sl 1),(16,In x0),(17,In x1)]] [Ro x2,Ro x3]
theorem ba.eq(k:Nat)(a0 a1):ba (k+1) a0 a1=B (az k a0) fun r0=>T (D.no r0) (some false) (B (az k a1) fun r1=>T (D.no r1) (some false) (ba.J0 k a0 a1)):=by kernel_rfl
theorem ba.my(k:Nat)(x0 x1):ba.J0 k x0 x1=ba.L1 k k (O (N x0)) 0 x1 x0:=(jn _ _).trans (by kernel_rfl)
theorem ba.lJ(k j:Nat)(x0 x1 x2 x3):ba.L1 k (j+1) x0 x1 x2 x3=T (D.lt x1 x0) (T (D.le 0 x1) (T (U (V x1) (N x3)) (T (U (V x1) (N x3)) (B (dX k x2 x1) fun r2=>T (D.lt r2 (E x3 (V x1) 0)) (some false) (ba.L1 k j x0 (Z .i64 (A x1 1)) x2 x3)) none) none) none) (some true):=(jn _ _).trans (by kernel_rfl)
def dq(k:Nat)(a0:(LI)×(LI)):Option Bool:=call k 88 a0
theorem dq.eq(k:Nat)(a0):dq (k+1) a0=B (ba k a0.2 a0.1) fun r0=>some r0:=by kernel_rfl
def dz(k:Nat)(x0:Int):Option (Bool×PUnit):=IO_ k 122 0 0 0 [] [[In x0],[]] []
theorem dz.eq(k:Nat)(x0):dz (k+1) x0=B (ct k x0 0 9) fun r0=>some ((D.no r0),()):=by kernel_rfl
def c24:Code:=cB (fm P 123)
def al(k:Nat)(x0:LI):Option (Int×PUnit):=IO_ k 123 0 0 0 [Ro []] [[Sl 0,.fn 122 [] []],[Sl 0]] [Ro x0]
def al.L0(k j:Nat)(x0 x1:Int)(x2:LI):Option (Int×PUnit):=LL k 123 (cC (cC (cB (cA c24)))) j (cP 0 (JK k 123 (cB c24) (uB (kF P (Hf P 123) (fun z6 z7=>um P 123 0 0 0 [Ro []] z6 z7))))) [frm 19 [(0,Sl 0),(1,.fn 122 [] []),(7,In x0),(8,In x1)],[Sl 0]] [Ro x2]
theorem al.eq(k:Nat)(x0):al (k+1) x0=al.L0 k k (O (N x0)) 0 x0:=by kernel_rfl
theorem al.cN(k j:Nat)(x0 x1 x2):al.L0 k (j+1) x0 x1 x2=T (D.lt x1 x0) (T (D.le 0 x1) (T (U (V x1) (N x2)) (T (U (V x1) (N x2)) (B (dz k (E x2 (V x1) 0)) fun r0=>T r0.1 (some (x1,())) (al.L0 k j x0 (Z .i64 (A x1 1)) x2)) none) none) none) (some ((-1:Int),())):=(jn _ _).trans (by kernel_rfl)
def aJ(k:Nat)(x0:LI):Option (Bool×PUnit):=IO_ k 99 0 0 0 [Ro []] [[Sl 0,.fn 122 [] []],[Sl 0]] [Ro x0]
theorem aJ.eq(k:Nat)(x0):aJ (k+1) x0=B (al k x0) fun r0=>some ((D.le 0 r0.1),()):=by kernel_rfl
def fA(k:Nat)(a0:LI):Option Bool:=call k 94 a0
theorem fA.eq(k:Nat)(a0):fA (k+1) a0=T (D.le (O (N a0)) 9) (B (aJ k a0) fun r0=>some (D.no r0.1)) (some false):=by kernel_rfl
def c25:Code:=cB (cB (fm P 114))
def cG(k:Nat)(a0:LI):Option Int:=call k 114 a0
def cG.L0(k j:Nat)(x0 x1 x2:Int)(x3:LI):Option Int:=LL k 114 (cC (cC (cB (cA c25)))) j (cP 0 (JK k 114 (cB c25) (R0 114))) [frm 17 [(3,In x0),(6,Sl 0),(7,In x1),(8,In x2)]] [Ro x3]
theorem cG.eq(k:Nat)(a0):cG (k+1) a0=cG.L0 k k 0 (O (N a0)) 0 a0:=by kernel_rfl
theorem cG.cN(k j:Nat)(x0 x1 x2 x3):cG.L0 k (j+1) x0 x1 x2 x3=T (D.lt x2 x1) (T (D.le 0 x2) (T (U (V x2) (N x3)) (T (U (V x2) (N x3)) (cG.L0 k j (Z .i64 (A x0 (E x3 (V x2) 0))) x1 (Z .i64 (A x2 1)) x3) none) none) none) (some x0):=(jn _ _).trans (by kernel_rfl)
def eZ(k:Nat)(a0:(LI)×(LI)):Option Int:=call k 91 a0
theorem eZ.eq(k:Nat)(a0):eZ (k+1) a0=B (dq k (a0.1,a0.2)) fun r0=>T (D.no r0) (some (-1)) (B (cG k a0.1) fun r1=>B (cG k a0.2) fun r2=>some (Z .i64 (M r1 r2))):=by kernel_rfl
def aZ(k:Nat)(a0:LI):Option LI:=call k 27 a0
theorem aZ.eq(k:Nat)(a0):aZ (k+1) a0=T (D.eqN (N a0) 0) (D.both (some ([]:LI)) (T (D.leN (N (D.app ([]:LI) a0)) 1099511627776) (some (D.app ([]:LI) a0)) none)) (T (D.leN (N (D.app ([]:LI) a0)) 1099511627776) (some (D.app ([]:LI) a0)) none):=by kernel_rfl
def c26:Code:=cB (cB (fm P 131))
def aU(k:Nat)(a0:(LI)×(LJ)):Option ((LI)×(LJ)):=call k 131 a0
def aU.L0(k j:Nat)(x0 x1:Int)(x2:LJ)(x3:LI)(x4:LJ)(x5:LI)(x6:LJ):Option ((LI)×(LJ)):=LL k 131 (cC (cC (cB (cA c26)))) j (cP 0 (JK k 131 (cB c26) (R0 131))) [frm 26 [(2,.pv 0 0),(3,.pv 1 0),(11,Sl 2),(12,In x0),(13,In x1)]] [.var [Sl 3,Sl 4],.var [Sl 5,Sl 6],Roo x2,Rw x3,Rww x4,Rw x5,Rww x6]
theorem aU.eq(k:Nat)(a0):aU (k+1) a0=B (aZ k a0.1) fun r0=>aU.L0 k k (O (N a0.2)) 0 a0.2 ([]:LI) ([]:LJ) r0 ([]:LJ):=by kernel_rfl
theorem aU.cN(k j:Nat)(x0 x1 x2 x3 x4 x5 x6):aU.L0 k (j+1) x0 x1 x2 x3 x4 x5 x6=T (D.lt x1 x0) (T (D.le 0 x1) (T (U (V x1) (N x2)) (T (U (V x1) (N x2)) (T (U (V x1) (N x2)) (B (aZ k (E x2 (V x1) [])) fun r1=>T (D.leN (N (D.app x6 (r1::([]:LJ)))) 1099511627776) (aU.L0 k j x0 (Z .i64 (A x1 1)) x2 x3 x4 x5 (D.app x6 (r1::([]:LJ)))) none) none) none) none) none) (some (x5,x6)):=(jn _ _).trans (by kernel_rfl)
def ag(k:Nat)(x0 x1 x2:Int)(x3:LI)(x4:LJ)(x5:List ((LI)×(LJ)))(x6 x7 x8:LI):Option (PUnit×((LI)×((LJ)×(PUnit×(PUnit×(PUnit×(PUnit×(Int×(PUnit×(PUnit×(PUnit×(List ((LI)×(LJ)))))))))))))):=IO_ k 132 7 2 10 [.var [Sl 10,Sl 11],.var [Sl 7,Sl 8],.var [In 0],.var [Sl 12],.var [.fn 116 [] [.pv 6 0]],.var [.fn 132 [] (frm 6 [(0,.pv 0 0),(1,.pv 1 0),(2,.pv 2 0),(3,.pv 3 0),(4,.pv 4 0),(5,.pv 5 0)])],.var [Sl 9],Rw [],Rww [],.row Bool.true (.pair (.sl (.int .i64)) (.sl (.sl (.int .i64)))) [],Ro [],Ro [],Ro []] [frm 8 [(0,In x0),(1,In x1),(2,.pv 0 0),(3,.pv 1 0),(4,.pv 2 0),(5,.pv 3 0),(6,.pv 4 0),(7,.pv 5 0)],frm 13 [(0,.pv 0 0),(1,.pv 1 0),(2,.pv 2 0),(3,.pv 3 0),(4,.pv 4 0),(5,.pv 5 0),(6,.pv 6 0),(7,Sl 7),(8,Sl 8),(10,Sl 10),(11,Sl 11),(12,Sl 12)]] [.var [Sl 10,Sl 11],.var [Sl 7,Sl 8],.var [In x2],.var [Sl 12],.var [.fn 116 [] [.pv 6 0]],.var [.fn 132 [] (frm 6 [(0,.pv 0 0),(1,.pv 1 0),(2,.pv 2 0),(3,.pv 3 0),(4,.pv 4 0),(5,.pv 5 0)])],.var [Sl 9],Rw x3,Rww x4,.row Bool.true (.pair (.sl (.int .i64)) (.sl (.sl (.int .i64)))) x5,Ro x6,Ro x7,Ro x8]
def iu(k:Nat)(x0:Int)(x1:LI)(x2:LJ)(x3:List ((LI)×(LJ)))(x4 x5 x6:LI):Option (PUnit×((LI)×((LJ)×(List ((LI)×(LJ)))))):=IO_ k 115 1 2 4 [.var [Sl 3],Rw [],Rww [],.row Bool.true (.pair (.sl (.int .i64)) (.sl (.sl (.int .i64)))) [],Ro [],Ro [],Ro []] [frm 5 [(0,.agg [Sl 4,Sl 5]),(1,.agg [Sl 1,Sl 2]),(2,In x0),(3,Sl 6),(4,.fn 116 [] [.pv 0 0])],frm 7 [(0,.pv 0 0),(1,Sl 1),(2,Sl 2),(4,Sl 4),(5,Sl 5),(6,Sl 6)]] [.var [Sl 3],Rw x1,Rww x2,.row Bool.true (.pair (.sl (.int .i64)) (.sl (.sl (.int .i64)))) x3,Ro x4,Ro x5,Ro x6]
def bP(k:Nat)(a0:(LI)×(LJ))(a1 a2:Int):Option Int:=call k 108 (a0,a1,a2)
theorem bP.eq(k:Nat)(a0 a1 a2):bP (k+1) a0 a1 a2=B (ct k a1 0 (Z .i64 (M (O (N a0.2)) 1))) fun r0=>T (D.no r0) (some 0) (T (D.le 0 a1) (T (U (V a1) (N a0.2)) (T (U (V a1) (N a0.2)) (B (dX k a0.1 a1) fun r1=>T (U (V a1) (N a0.2)) (B (dX k (E a0.2 (V a1) []) (Z .i64 (M a2 r1))) fun r2=>some r2) none) none) none) none):=by kernel_rfl
def c27:Code:=cC (cC (cB (cB (fm P 132))))
def K28:cS (PUnit×((LI)×((LJ)×(PUnit×(PUnit×(PUnit×(PUnit×(Int×(PUnit×(PUnit×(PUnit×(List ((LI)×(LJ)))))))))))))):=cP 0 (uB (kF P (Hf P 132) (fun z4 z5=>um P 132 7 2 10 [.var [Sl 10,Sl 11],.var [Sl 7,Sl 8],.var [In 0],.var [Sl 12],.var [.fn 116 [] [.pv 6 0]],.var [.fn 132 [] (frm 6 [(0,.pv 0 0),(1,.pv 1 0),(2,.pv 2 0),(3,.pv 3 0),(4,.pv 4 0),(5,.pv 5 0)])],.var [Sl 9],Rw [],Rww [],.row Bool.true (.pair (.sl (.int .i64)) (.sl (.sl (.int .i64)))) [],Ro [],Ro [],Ro []] z4 z5)))
def c29:Code:=cB c27
def c30:Code:=cB (cB (cB (cC (cA c29))))
def c31:Code:=cB c29
def K32(k k1:Nat):cS (PUnit×((LI)×((LJ)×(PUnit×(PUnit×(PUnit×(PUnit×(Int×(PUnit×(PUnit×(PUnit×(List ((LI)×(LJ)))))))))))))):=LK k 132 c27 k1 K28
def K33(k k1:Nat):cS (PUnit×((LI)×((LJ)×(PUnit×(PUnit×(PUnit×(PUnit×(Int×(PUnit×(PUnit×(PUnit×(List ((LI)×(LJ)))))))))))))):=cP 1 (JK k 132 c31 (K32 k k1))
def ag.L0(k j:Nat)(x0 x1 x2:Int)(x3:LI)(x4:LJ)(x5 x6 x7:LI)(x8:List ((LI)×(LJ))):Option (PUnit×((LI)×((LJ)×(PUnit×(PUnit×(PUnit×(PUnit×(Int×(PUnit×(PUnit×(PUnit×(List ((LI)×(LJ)))))))))))))):=LL k 132 c27 j K28 [frm 112 [(1,In x0),(2,.pv 0 0),(3,.pv 1 0),(4,.pv 2 0),(7,.pv 3 0),(10,In x1)],frm 13 [(0,.pv 0 0),(1,.pv 1 0),(2,.pv 2 0),(3,.pv 4 0),(4,.pv 5 0),(5,.pv 3 0),(6,.pv 6 0),(7,Sl 7),(8,Sl 8),(10,Sl 9),(11,Sl 10),(12,Sl 11)]] [.var [Sl 9,Sl 10],.var [Sl 7,Sl 8],.var [In x2],.var [.fn 132 [] (frm 6 [(0,.pv 0 0),(1,.pv 1 0),(2,.pv 2 0),(3,.pv 4 0),(4,.pv 5 0),(5,.pv 3 0)])],.var [Sl 11],.var [.fn 116 [] [.pv 6 0]],.var [Sl 12],Rw x3,Rww x4,Ro x5,Ro x6,Ro x7,.row Bool.true (.pair (.sl (.int .i64)) (.sl (.sl (.int .i64)))) x8]
def ag.J1(k k1:Nat)(x0 x1 x2:Int)(x3:Bool)(x4:Int)(x5:LI)(x6:LJ)(x7 x8 x9:LI)(x10:List ((LI)×(LJ))):Option (PUnit×((LI)×((LJ)×(PUnit×(PUnit×(PUnit×(PUnit×(Int×(PUnit×(PUnit×(PUnit×(List ((LI)×(LJ)))))))))))))):=JJ k 132 c30 (K33 k k1) [frm 112 [(1,In x0),(2,.pv 0 0),(3,.pv 1 0),(4,.pv 2 0),(7,.pv 3 0),(10,In x1),(11,In x2),(13,.bool x3)],frm 13 [(0,.pv 0 0),(1,.pv 1 0),(2,.pv 2 0),(3,.pv 4 0),(4,.pv 5 0),(5,.pv 3 0),(6,.pv 6 0),(7,Sl 7),(8,Sl 8),(10,Sl 9),(11,Sl 10),(12,Sl 11)]] [.var [Sl 9,Sl 10],.var [Sl 7,Sl 8],.var [In x4],.var [.fn 132 [] (frm 6 [(0,.pv 0 0),(1,.pv 1 0),(2,.pv 2 0),(3,.pv 4 0),(4,.pv 5 0),(5,.pv 3 0)])],.var [Sl 11],.var [.fn 116 [] [.pv 6 0]],.var [Sl 12],Rw x5,Rww x6,Ro x7,Ro x8,Ro x9,.row Bool.true (.pair (.sl (.int .i64)) (.sl (.sl (.int .i64)))) x10]
def ag.J2(k k1:Nat)(x0 x1 x2:Int)(x3:LI)(x4:LJ)(x5 x6 x7:LI)(x8:List ((LI)×(LJ))):Option (PUnit×((LI)×((LJ)×(PUnit×(PUnit×(PUnit×(PUnit×(Int×(PUnit×(PUnit×(PUnit×(List ((LI)×(LJ)))))))))))))):=JJ k 132 c31 (K32 k k1) [frm 112 [(1,In x0),(2,.pv 0 0),(3,.pv 1 0),(4,.pv 2 0),(7,.pv 3 0),(10,In x1)],frm 13 [(0,.pv 0 0),(1,.pv 1 0),(2,.pv 2 0),(3,.pv 4 0),(4,.pv 5 0),(5,.pv 3 0),(6,.pv 6 0),(7,Sl 7),(8,Sl 8),(10,Sl 9),(11,Sl 10),(12,Sl 11)]] [.var [Sl 9,Sl 10],.var [Sl 7,Sl 8],.var [In x2],.var [.fn 132 [] (frm 6 [(0,.pv 0 0),(1,.pv 1 0),(2,.pv 2 0),(3,.pv 4 0),(4,.pv 5 0),(5,.pv 3 0)])],.var [Sl 11],.var [.fn 116 [] [.pv 6 0]],.var [Sl 12],Rw x3,Rww x4,Ro x5,Ro x6,Ro x7,.row Bool.true (.pair (.sl (.int .i64)) (.sl (.sl (.int .i64)))) x8]
def ag.J3(k k1:Nat)(x0 x1 x2:Int)(x3:LI)(x4:LJ)(x5 x6 x7:LI)(x8:List ((LI)×(LJ))):Option (PUnit×((LI)×((LJ)×(PUnit×(PUnit×(PUnit×(PUnit×(Int×(PUnit×(PUnit×(PUnit×(List ((LI)×(LJ)))))))))))))):=JJ k 132 (cB c30) (K33 k k1) [frm 112 [(1,In x0),(2,.pv 0 0),(3,.pv 1 0),(4,.pv 2 0),(7,.pv 3 0),(10,In x1)],frm 13 [(0,.pv 0 0),(1,.pv 1 0),(2,.pv 2 0),(3,.pv 4 0),(4,.pv 5 0),(5,.pv 3 0),(6,.pv 6 0),(7,Sl 7),(8,Sl 8),(10,Sl 9),(11,Sl 10),(12,Sl 11)]] [.var [Sl 9,Sl 10],.var [Sl 7,Sl 8],.var [In x2],.var [.fn 132 [] (frm 6 [(0,.pv 0 0),(1,.pv 1 0),(2,.pv 2 0),(3,.pv 4 0),(4,.pv 5 0),(5,.pv 3 0)])],.var [Sl 11],.var [.fn 116 [] [.pv 6 0]],.var [Sl 12],Rw x3,Rww x4,Ro x5,Ro x6,Ro x7,.row Bool.true (.pair (.sl (.int .i64)) (.sl (.sl (.int .i64)))) x8]
theorem ag.eq(k:Nat)(x0 x1 x2 x3 x4 x5 x6 x7 x8):ag (k+1) x0 x1 x2 x3 x4 x5 x6 x7 x8=T (D.eq x1 0) (T (D.le 0 1) (T (D.leN (V 1) (N x8)) (B (iu k (Z .i64 (A x2 1)) x3 x4 x5 x6 x7 (D.take (D.subN (N x8) (V 1)) (D.drop (V 1) x8))) fun r0=>some ((),(r0.2.1,(r0.2.2.1,((),((),((),((),(x2,((),((),((),r0.2.2.2)))))))))))) none) none) (ag.L0 k k x1 x0 x2 x3 x4 x6 x7 x8 x5):=by kernel_rfl
theorem ag.cN(k j:Nat)(x0 x1 x2 x3 x4 x5 x6 x7 x8):ag.L0 k (j+1) x0 x1 x2 x3 x4 x5 x6 x7 x8=T (D.lt x1 (O (N x5))) (B (dX k x6 x1) fun r1=>T (D.le 0 x1) (T (U (V x1) (N x4)) (T (U (V x1) (N x4)) (T (U (V x1) (N x4)) (B (bP k (x3,x4) (Z .i64 (M x1 1)) (Z .i64 (A r1 (O (N (E x4 (V x1) [])))))) fun r2=>T (D.lt 0 x1) (B (dX k x6 (Z .i64 (M x1 1))) fun r3=>T (D.le r3 (Z .i64 (A r1 (O (N (E x4 (V x1) [])))))) (T (D.eq r2 0) (ag.J1 k j x0 x1 (Z .i64 (A r1 (O (N (E x4 (V x1) []))))) true x2 x3 x4 x5 x6 x7 x8) (ag.J1 k j x0 x1 (Z .i64 (A r1 (O (N (E x4 (V x1) []))))) (D.eq r2 x2) x2 x3 x4 x5 x6 x7 x8)) (ag.J1 k j x0 x1 (Z .i64 (A r1 (O (N (E x4 (V x1) []))))) false x2 x3 x4 x5 x6 x7 x8)) (ag.J1 k j x0 x1 (Z .i64 (A r1 (O (N (E x4 (V x1) []))))) false x2 x3 x4 x5 x6 x7 x8)) none) none) none) none) (some ((),(x3,(x4,((),((),((),((),(x2,((),((),((),x8)))))))))))):=(jn _ _).trans (by kernel_rfl)
theorem ag.wm(k k1:Nat)(x0 x1 x2 x3 x4 x5 x6 x7 x8 x9 x10):ag.J1 k k1 x0 x1 x2 x3 x4 x5 x6 x7 x8 x9 x10=T (D.le 0 x1) (T (U (V x1) (N x7)) (T (U (V x1) (N x7)) (T (D.eq x2 (E x7 (V x1) 0)) (ag.J2 k k1 x0 x1 x4 x5 x6 x7 x8 x9 x10) (T x3 (ag.J2 k k1 x0 x1 x4 x5 x6 x7 x8 x9 x10) (ag.J3 k k1 x0 x1 x4 x5 x6 x7 x8 x9 x10))) none) none) none:=(jn _ _).trans (by kernel_rfl)
theorem ag.wA(k k1:Nat)(x0 x1 x2 x3 x4 x5 x6 x7 x8):ag.J2 k k1 x0 x1 x2 x3 x4 x5 x6 x7 x8=ag.L0 k k1 x0 (Z .i64 (A x1 1)) x2 x3 x4 x5 x6 x7 x8:=(jn _ _).trans (by kernel_rfl)
theorem ag.HA(k k1:Nat)(x0 x1 x2 x3 x4 x5 x6 x7 x8):ag.J3 k k1 x0 x1 x2 x3 x4 x5 x6 x7 x8=T (D.le 0 x1) (T (U (V x1) (N x4)) (T (U (V x1) (N x4)) (T (U (V x1) (N x4)) (T (D.leN (N (D.app (E x4 (V x1) []) (x2::([]:LI)))) 1099511627776) (T (D.le 0 x1) (T (U (V x1) (N x4)) (T (U (V x1) (N x4)) (T (D.eqP (((V x1),0)::([]:List (Nat×Nat))) (((V x1),0)::([]:List (Nat×Nat)))) (B (ag k x1 (Z .i64 (M x0 1)) x2 x3 (D.set x4 (V x1) (D.app (E x4 (V x1) []) (x2::([]:LI)))) x8 x5 x6 x7) fun r4=>T (D.le 0 x1) (T (U (V x1) (N r4.2.2.1)) (T (U (V x1) (N r4.2.2.1)) (T (D.le 0 x1) (T (U (V x1) (N r4.2.2.1)) (T (U (V x1) (N r4.2.2.1)) (T (U (V x1) (N r4.2.2.1)) (T (U (V x1) (N r4.2.2.1)) (T (D.le 0 (Z .i64 (M (O (N (E r4.2.2.1 (V x1) []))) 1))) (T (D.leN (V (Z .i64 (M (O (N (E r4.2.2.1 (V x1) []))) 1))) (N (E r4.2.2.1 (V x1) []))) (T (D.le 0 x1) (T (U (V x1) (N r4.2.2.1)) (T (U (V x1) (N r4.2.2.1)) (T (U (V x1) (N r4.2.2.1)) (T (D.eqP (((V x1),0)::([]:List (Nat×Nat))) (((V x1),0)::([]:List (Nat×Nat)))) (ag.J2 k k1 x0 x1 r4.2.2.2.2.2.2.2.1 r4.2.1 (D.set r4.2.2.1 (V x1) (D.take (D.subN (V (Z .i64 (M (O (N (E r4.2.2.1 (V x1) []))) 1))) 0) (D.drop 0 (E r4.2.2.1 (V x1) [])))) x5 x6 x7 r4.2.2.2.2.2.2.2.2.2.2.2) none) none) none) none) none) none) none) none) none) none) none) none) none) none) none) none) none) none) none) none) none) none) none) none:=(jn _ _).trans (by kernel_rfl)
def aK(k:Nat)(x0:Int)(x1:LI)(x2:LJ)(x3:List ((LI)×(LJ)))(x4 x5 x6:LI):Option (PUnit×((LI)×((LJ)×(List ((LI)×(LJ)))))):=IO_ k 115 1 2 4 [.var [Sl 3],Rw [],Rww [],.row Bool.true (.pair (.sl (.int .i64)) (.sl (.sl (.int .i64)))) [],Ro [],Ro [],Ro []] [frm 5 [(0,.agg [Sl 4,Sl 5]),(1,.agg [Sl 1,Sl 2]),(2,In x0),(3,Sl 6),(4,.fn 116 [] [.pv 0 0])],frm 7 [(0,.pv 0 0),(1,Sl 1),(2,Sl 2),(4,Sl 4),(5,Sl 5),(6,Sl 6)]] [.var [Sl 3],Rw x1,Rww x2,.row Bool.true (.pair (.sl (.int .i64)) (.sl (.sl (.int .i64)))) x3,Ro x4,Ro x5,Ro x6]
theorem aK.eq(k:Nat)(x0 x1 x2 x3 x4 x5 x6):aK (k+2) x0 x1 x2 x3 x4 x5 x6=T (D.eq (O (N x6)) 0) (B (aU (k+1) (x1,x2)) fun r0=>T (D.leN (N (D.app x3 ((r0.1,r0.2)::([]:List ((LI)×(LJ)))))) 1099511627776) (some ((),(x1,(x2,(D.app x3 ((r0.1,r0.2)::([]:List ((LI)×(LJ))))))))) none) (T (D.le 0 0) (T (U (V 0) (N x6)) (T (U (V 0) (N x6)) (B (ag (k+1) 0 (E x6 (V 0) 0) x0 x1 x2 x3 x4 x5 x6) fun r1=>some ((),(r1.2.1,(r1.2.2.1,r1.2.2.2.2.2.2.2.2.2.2.2)))) none) none) none):=by kernel_rfl
def c34:Code:=cB (cB (fm P 83))
def c35:Code:=cB c34
def bq(k:Nat)(a0:(LI)×(LJ)):Option (((LI)×(LI))×Bool):=call k 83 a0
def bq.J0(k:Nat)(x0:LI)(x1:LJ)(x2 x3:LI):Option (((LI)×(LI))×Bool):=JJ k 83 c34 (R0 83) [frm 51 [(1,.pv 0 0),(2,.pv 1 0)]] [.var [Sl 2,Sl 3],.var [Sl 4,Sl 5],Ro x0,Roo x1,Rw x2,Rw x3]
def bq.L1(k j:Nat)(x0 x1:Int)(x2:LJ)(x3 x4 x5 x6 x7:LI):Option (((LI)×(LI))×Bool):=LL k 83 (cC (cC (cB (cA c35)))) j (cP 0 (JK k 83 (cB c35) (R0 83))) [frm 51 [(1,.pv 0 0),(2,.pv 1 0),(4,.pv 2 0),(26,Sl 3),(27,In x0),(28,In x1)]] [.var [Sl 4,Sl 3],.var [Sl 5,Sl 6],.var [Sl 7,Sl 8],Roo x2,Ro x3,Rw x4,Rw x5,Rw x6,Rw x7]
theorem bq.eq(k:Nat)(a0):bq (k+1) a0=B (az k a0.1) fun r0=>T (D.no r0) (some ((([]:LI),([]:LI)),false)) (T (D.lt (O (N a0.2)) (O (N a0.1))) (some ((([]:LI),([]:LI)),false)) (bq.J0 k a0.1 a0.2 ([]:LI) ([]:LI))):=by kernel_rfl
theorem bq.my(k:Nat)(x0 x1 x2 x3):bq.J0 k x0 x1 x2 x3=B (aZ k x0) fun r1=>bq.L1 k k (O (N x1)) 0 x1 x0 x2 x3 ([]:LI) r1:=(jn _ _).trans (by kernel_rfl)
theorem bq.lJ(k j:Nat)(x0 x1 x2 x3 x4 x5 x6 x7):bq.L1 k (j+1) x0 x1 x2 x3 x4 x5 x6 x7=T (D.lt x1 x0) (T (D.le 0 x1) (T (U (V x1) (N x2)) (T (U (V x1) (N x2)) (B (dX k x3 x1) fun r2=>T (U (V x1) (N x2)) (T (D.leN (N (D.app x6 ((Z .i64 (A r2 (O (N (E x2 (V x1) [])))))::([]:LI)))) 1099511627776) (bq.L1 k j x0 (Z .i64 (A x1 1)) x2 x3 x4 x5 (D.app x6 ((Z .i64 (A r2 (O (N (E x2 (V x1) [])))))::([]:LI))) x7) none) none) none) none) none) (B (dq k (x6,x7)) fun r3=>T (D.no r3) (some ((([]:LI),([]:LI)),false)) (some ((x6,x7),true))):=(jn _ _).trans (by kernel_rfl)
def c36:Code:=cB (cB (fm P 78))
def c37:Code:=cC (cC (cB (cA c36)))
def K38(k:Nat):cS (den (resTy P 78)):=cP 0 (JK k 78 (cB c36) (R0 78))
def c39:Code:=cB (cB c37)
def c40:Code:=cC (cC (cB (cB (cC (cA c39)))))
def K41(k k1:Nat):cS (den (resTy P 78)):=cP 2 (cP 1 (JK k 78 (cB c39) (LK k 78 c37 k1 (K38 k))))
def au(k:Nat)(a0:(LI)×(LJ)):Option Bool:=call k 78 a0
def au.L0(k j:Nat)(x0 x1:Int)(x2:LJ)(x3:LI):Option Bool:=LL k 78 c37 j (K38 k) [frm 67 [(1,.pv 0 0),(17,Sl 1),(18,In x0),(19,In x1)]] [.var [Sl 2,Sl 1],Roo x2,Ro x3]
def au.L1(k k1 j:Nat)(x0:Int)(x1:Nat)(x2 x3:Int)(x4:Nat)(x5 x6:Int)(x7:LJ)(x8:LI):Option Bool:=LL k 78 c40 j (K41 k k1) [frm 67 [(1,.pv 0 0),(5,In x0),(6,.sl 1 [(x1,0)] Option.none),(17,Sl 1),(18,In x2),(19,In x3),(24,.sl 1 [(x4,0)] Option.none),(25,In x5),(26,In x6)]] [.var [Sl 2,Sl 1],Roo x7,Ro x8]
def au.J2(k k1 k2:Nat)(x0:Int)(x1:Nat)(x2 x3:Int)(x4:Nat)(x5 x6:Int)(x7:LJ)(x8:LI):Option Bool:=JJ k 78 (cB (cB (cB c40))) (LK k 78 c40 k2 (K41 k k1)) [frm 67 [(1,.pv 0 0),(5,In x0),(6,.sl 1 [(x1,0)] Option.none),(17,Sl 1),(18,In x2),(19,In x3),(24,.sl 1 [(x4,0)] Option.none),(25,In x5),(26,In x6)]] [.var [Sl 2,Sl 1],Roo x7,Ro x8]
theorem au.eq(k:Nat)(a0):au (k+1) a0=B (bq k (a0.1,a0.2)) fun r0=>T (D.no r0.2) (some false) (au.L0 k k (O (N a0.2)) 0 a0.2 a0.1):=by kernel_rfl
theorem au.cN(k j:Nat)(x0 x1 x2 x3):au.L0 k (j+1) x0 x1 x2 x3=T (D.lt x1 x0) (T (D.le 0 x1) (T (U (V x1) (N x2)) (T (U (V x1) (N x2)) (T (U (V x1) (N x2)) (au.L1 k j k x1 (V x1) x0 x1 (V x1) (O (N (E x2 (V x1) []))) 0 x2 x3) none) none) none) none) (some true):=(jn _ _).trans (by kernel_rfl)
theorem au.lJ(k k1 j:Nat)(x0 x1 x2 x3 x4 x5 x6 x7 x8):au.L1 k k1 (j+1) x0 x1 x2 x3 x4 x5 x6 x7 x8=T (D.lt x6 x5) (T (U x4 (N x7)) (T (D.le 0 x6) (T (U (V x6) (N (E x7 x4 []))) (T (U x4 (N x7)) (T (U (V x6) (N (E x7 x4 []))) (B (ct k (E (E x7 x4 []) (V x6) 0) 1 9) fun r1=>T (D.no r1) (some false) (T (D.lt 0 x6) (T (U x1 (N x7)) (T (D.le 0 (Z .i64 (M x6 1))) (T (U (V (Z .i64 (M x6 1))) (N (E x7 x1 []))) (T (U x1 (N x7)) (T (U (V (Z .i64 (M x6 1))) (N (E x7 x1 []))) (T (D.lt (E (E x7 x4 []) (V x6) 0) (E (E x7 x1 []) (V (Z .i64 (M x6 1))) 0)) (some false) (T (D.lt 0 x0) (B (dX k x8 x0) fun r2=>B (bP k (x8,x7) (Z .i64 (M x0 1)) (Z .i64 (A r2 x6))) fun r3=>T (D.le (E (E x7 x4 []) (V x6) 0) r3) (some false) (au.J2 k k1 j x0 x1 x2 x3 x4 x5 x6 x7 x8)) (au.J2 k k1 j x0 x1 x2 x3 x4 x5 x6 x7 x8))) none) none) none) none) none) (T (D.lt 0 x0) (B (dX k x8 x0) fun r4=>B (bP k (x8,x7) (Z .i64 (M x0 1)) (Z .i64 (A r4 x6))) fun r5=>T (D.le (E (E x7 x4 []) (V x6) 0) r5) (some false) (au.J2 k k1 j x0 x1 x2 x3 x4 x5 x6 x7 x8)) (au.J2 k k1 j x0 x1 x2 x3 x4 x5 x6 x7 x8)))) none) none) none) none) none) (au.L0 k k1 x2 (Z .i64 (A x3 1)) x7 x8):=(jn _ _).trans (by kernel_rfl)
theorem au.wA(k k1 k2:Nat)(x0 x1 x2 x3 x4 x5 x6 x7 x8):au.J2 k k1 k2 x0 x1 x2 x3 x4 x5 x6 x7 x8=au.L1 k k1 k2 x0 x1 x2 x3 x4 x5 (Z .i64 (A x6 1)) x7 x8:=(jn _ _).trans (by kernel_rfl)
def strings_Repeat(k:Nat)(a0:ByteArray)(a1:Int):Option ByteArray:=call k 79 (a0,a1)
theorem strings_Repeat.eq(k:Nat)(a0 a1):strings_Repeat (k+1) a0 a1=xa a0 a1:=by kernel_rfl
def strconv_Itoa(k:Nat)(a0:Int):Option ByteArray:=call k 84 a0
theorem strconv_Itoa.eq(k:Nat)(a0):strconv_Itoa (k+1) a0=sH a0:=by kernel_rfl
def fb(k:Nat)(a0:Int):Option ByteArray:=call k 49 a0
theorem fb.eq(k:Nat)(a0):fb (k+1) a0=B (strconv_Itoa k a0) fun r0=>some r0:=by kernel_rfl
def strings_Join(k:Nat)(a0:List ByteArray)(a1:ByteArray):Option ByteArray:=call k 77 (a0,a1)
theorem strings_Join.eq(k:Nat)(a0 a1):strings_Join (k+1) a0 a1=sg a0 a1:=by kernel_rfl
def ik(k:Nat)(a0:List ByteArray)(a1:ByteArray):Option ByteArray:=call k 45 (a0,a1)
theorem ik.eq(k:Nat)(a0 a1):ik (k+1) a0 a1=B (strings_Join k a0 a1) fun r0=>some r0:=by kernel_rfl
def c42:Code:=cB (cB (fm P 81))
def bV(k:Nat)(a0:LI)(a1:ByteArray):Option ByteArray:=call k 81 (a0,a1)
def bV.L0(k j:Nat)(x0:ByteArray)(x1 x2:Int)(x3:List ByteArray)(x4:LI):Option ByteArray:=LL k 81 (cC (cC (cB (cA c42)))) j (cP 0 (JK k 81 (cB c42) (R0 81))) [frm 24 [(1,.str x0),(5,Sl 0),(9,Sl 1),(10,In x1),(11,In x2)]] [.row Bool.true .str x3,Ro x4]
theorem bV.eq(k:Nat)(a0 a1):bV (k+1) a0 a1=bV.L0 k k a1 (O (N a0)) 0 ([]:List ByteArray) a0:=by kernel_rfl
theorem bV.cN(k j:Nat)(x0 x1 x2 x3 x4):bV.L0 k (j+1) x0 x1 x2 x3 x4=T (D.lt x2 x1) (T (D.le 0 x2) (T (U (V x2) (N x4)) (T (U (V x2) (N x4)) (B (fb k (E x4 (V x2) 0)) fun r0=>T (D.leN (N (D.app x3 (r0::([]:List ByteArray)))) 1099511627776) (bV.L0 k j x0 x1 (Z .i64 (A x2 1)) (D.app x3 (r0::([]:List ByteArray))) x4) none) none) none) none) (B (ik k x3 x0) fun r1=>some r1):=(jn _ _).trans (by kernel_rfl)
def c43:Code:=cB (cB (cB (fm P 46)))
def aO(k:Nat)(a0:(LI)×(LJ)):Option ByteArray:=call k 46 a0
def aO.L0(k j:Nat)(x0 x1:Int)(x2:List ByteArray)(x3:LJ)(x4:LI):Option ByteArray:=LL k 46 (cC (cC (cB (cA c43)))) j (cP 1 (JK k 46 (cB c43) (R0 46))) [frm 38 [(1,.pv 0 0),(3,Sl 1),(17,Sl 2),(18,In x0),(19,In x1)]] [.var [Sl 3,Sl 2],.row Bool.true .str x2,Roo x3,Ro x4]
theorem aO.eq(k:Nat)(a0):aO (k+1) a0=B (au k (a0.1,a0.2)) fun r0=>T (D.no r0) (some (⟨#[]⟩:ByteArray)) (T (D.eq (O (N a0.2)) 0) (some (⟨#[45]⟩:ByteArray)) (aO.L0 k k (O (N a0.2)) 0 ([]:List ByteArray) a0.2 a0.1)):=by kernel_rfl
theorem aO.cN(k j:Nat)(x0 x1 x2 x3 x4):aO.L0 k (j+1) x0 x1 x2 x3 x4=T (D.lt x1 x0) (T (D.le 0 x1) (T (U (V x1) (N x3)) (T (U (V x1) (N x3)) (B (dX k x4 x1) fun r1=>B (strings_Repeat k (⟨#[46]⟩:ByteArray) r1) fun r2=>T (U (V x1) (N x3)) (B (bV k (E x3 (V x1) []) (⟨#[]⟩:ByteArray)) fun r3=>T (D.leN (D.addN (D.lenS r2) (D.lenS r3)) 1099511627776) (T (D.leN (N (D.app x2 ((D.catS r2 r3)::([]:List ByteArray)))) 1099511627776) (aO.L0 k j x0 (Z .i64 (A x1 1)) (D.app x2 ((D.catS r2 r3)::([]:List ByteArray))) x3 x4) none) none) none) none) none) none) (B (ik k x2 (⟨#[47]⟩:ByteArray)) fun r4=>some r4):=(jn _ _).trans (by kernel_rfl)
def strings_Compare(k:Nat)(a0 a1:ByteArray):Option Int:=call k 119 (a0,a1)
theorem strings_Compare.eq(k:Nat)(a0 a1):strings_Compare (k+1) a0 a1=Eh a0 a1:=by kernel_rfl
def eD(k:Nat)(a0 a1:(LI)×(LJ)):Option Int:=call k 118 (a0,a1)
theorem eD.eq(k:Nat)(a0 a1):eD (k+1) a0 a1=B (aO k (a0.1,a0.2)) fun r0=>B (aO k (a1.1,a1.2)) fun r1=>B (strings_Compare k r0 r1) fun r2=>some r2:=by kernel_rfl
def ef(k:Nat)(a0:(LI)×(LI))(a1:LI):Option (List ((LI)×(LJ))):=call k 89 (a0,a1)
theorem ef.eq(k:Nat)(a0 a1):ef (k+2) a0 a1=B (cG (k+1) a1) fun r0=>B (eZ (k+1) (a0.1,a0.2)) fun r1=>T (D.no (D.eq r0 r1)) (some ([]:List ((LI)×(LJ)))) (B (aZ (k+1) a0.2) fun r2=>T (D.le 0 (O (N a0.1))) (T (D.le (O (N a0.1)) (O (N a0.1))) (T (D.leN (V (O (N a0.1))) 1099511627776) (B (aK (k+1) 1 r2 (D.rep (V (O (N a0.1))) ([]:LI)) ([]:List ((LI)×(LJ))) a0.1 a0.2 a1) fun r3=>B (D.srt (fun a b=>eD (k+1) a b) r3.2.2.2) fun r4=>some r4) none) none) none):=by kernel_rfl
def bn(k:Nat)(a0:(LI)×(LI))(a1:LI):Option (List ((LI)×(LJ))):=call k 59 (a0,a1)
def bn.J0(k:Nat)(x0 x1 x2:LI):Option (List ((LI)×(LJ))):=JJ k 59 (cB (cB (fm P 59))) (R0 59) [frm 16 [(1,Sl 0),(2,.pv 1 0)]] [Ro x0,.var [Sl 2,Sl 3],Ro x1,Ro x2]
theorem bn.eq(k:Nat)(a0 a1):bn (k+1) a0 a1=B (dq k (a0.1,a0.2)) fun r0=>T (D.no r0) (some ([]:List ((LI)×(LJ)))) (B (fA k a1) fun r1=>T (D.no r1) (some ([]:List ((LI)×(LJ)))) (bn.J0 k a1 a0.1 a0.2)):=by kernel_rfl
theorem bn.my(k:Nat)(x0 x1 x2):bn.J0 k x0 x1 x2=B (ef k (x1,x2) x0) fun r2=>some r2:=(jn _ _).trans (by kernel_rfl)
def dv(k:Nat)(a0:(LI)×(LI))(a1:LI):Option Int:=call k 22 (a0,a1)
theorem dv.eq(k:Nat)(a0 a1):dv (k+1) a0 a1=B (bn k (a0.1,a0.2) a1) fun r0=>some (O (N r0)):=by kernel_rfl
def c44:Code:=cB (cB (fm P 15))
def bw(k:Nat)(a0 a1:LI):Option Bool:=call k 15 (a0,a1)
def bw.L0(k j:Nat)(x0:Int)(x1 x2:LI):Option Bool:=LL k 15 (cC (cC (cB (cA c44)))) j (cP 0 (JK k 15 (cB c44) (R0 15))) [frm 26 [(0,Sl 0),(1,Sl 1),(5,In x0)]] [Ro x1,Ro x2]
theorem bw.eq(k:Nat)(a0 a1):bw (k+1) a0 a1=T (D.no (D.eq (O (N a0)) (O (N a1)))) (some false) (bw.L0 k k 0 a0 a1):=by kernel_rfl
theorem bw.cN(k j:Nat)(x0 x1 x2):bw.L0 k (j+1) x0 x1 x2=T (D.lt x0 (O (N x1))) (T (D.le 0 x0) (T (U (V x0) (N x1)) (T (U (V x0) (N x1)) (T (D.le 0 x0) (T (U (V x0) (N x2)) (T (U (V x0) (N x2)) (T (D.no (D.eq (E x1 (V x0) 0) (E x2 (V x0) 0))) (some false) (bw.L0 k j (Z .i64 (A x0 1)) x1 x2)) none) none) none) none) none) none) (some true):=(jn _ _).trans (by kernel_rfl)
def gn(k:Nat)(a0 a1:(LI)×(LI)):Option Bool:=call k 20 (a0,a1)
theorem gn.eq(k:Nat)(a0 a1):gn (k+1) a0 a1=B (bw k a0.1 a1.1) fun r0=>T (D.no r0) (some false) (B (bw k a0.2 a1.2) fun r1=>T (D.no r1) (some false) (some true)):=by kernel_rfl
def bS(k:Nat)(a0:(LI)×(LI))(a1:LI):Option Bool:=call k 6 (a0,a1)
theorem bS.eq(k:Nat)(a0 a1):bS (k+1) a0 a1=T (D.lt 1048576 (O (N a1))) (some true) (B (gm k (a0.1,a0.2) 1048576) fun r0=>T (D.lt r0 0) (some true) (B (eM k (a0.1,a0.2)) fun r1=>B (bt k a1) fun r2=>B (bF k (r1.1,r1.2) r2) fun r3=>B (eM k (a0.1,a0.2)) fun r4=>B (bt k a1) fun r5=>B (dv k (r4.1,r4.2) r5) fun r6=>T (D.no (D.eq r6 r3)) (some false) (B (eM k (a0.1,a0.2)) fun r7=>B (gn k (r4.1,r4.2) (r7.1,r7.2)) fun r8=>T (D.no r8) (some false) (B (bt k a1) fun r9=>B (bw k r5 r9) fun r10=>T (D.no r10) (some false) (some true))))):=by kernel_rfl
end Go.Am.Seat
