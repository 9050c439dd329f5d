/- The machine's equations for the functions that the law reaches, each checked by the kernel; no conditions. -/
import Derived.Test.YtlfpegcoaebmkaaCfgCornerTableau
import Derived.Test.YtlfpegcoaebmkaaProg
set_option linter.unusedSimpArgs false
set_option linter.unusedVariables false
set_option linter.unnecessarySimpa false
set_option linter.unusedSectionVars false
noncomputable section
namespace Go.Am.Seat
open Go Go.Am Go.Proofs
set_option linter.unusedVariables false
set_option linter.unusedSectionVars false
set_option maxRecDepth 100000
variable [D] [DJ]
abbrev P:Program:=Go.Proofs.Try.prog
def ext:Ext P:=fun _=>none
def X{R:Type}(k f:Nat)(c:Code):St→cn R→Option R:=exec P cfg (nA P cfg ext k) k f c
abbrev call(k f:Nat)(x:den (fJ P f)):Option (den (resTy P f)):=tF P cfg ext k f x
def R0(f:Nat):cn (den (resTy P f)):=pK (finish P f (yB P f))
def JK{T:Type}(k f:Nat)(c:Code)(K:cn T):cn T:=mU (fun a b=>eU (Cfg.joins cfg f (key c)) (fun s=>X k f c s b) a) K
def LK{T:Type}(k f:Nat)(c:Code)(j:Nat)(K:cn T):cn T:=mU (fun a b=>eU (Cfg.loops cfg f (key c)) (fun s=>g5 (fun x y=>X k f c x y) (Cfg.loops cfg f (key c)) j s b) a) K
def trN:Nat→List (Nat×Touch)
 |0=> []
 |n+1=>(n,dL)::trN n
def LL{T:Type}(k f:Nat)(c:Code)(j:Nat)(K:cn T)(fr:List (List AV))(rs:List ak):Option T:=D.jn (fun a=>g5 (fun x y=>X k f c x y) (Cfg.loops cfg f (key c)) j a K) (St.mk fr rs)
def JJ{T:Type}(k f:Nat)(c:Code)(K:cn T)(fr:List (List AV))(rs:List ak):Option T:=D.jn (fun a=>X k f c a K) (St.mk fr rs)
abbrev IO_(k f nV nD n:Nat)(rs0:List ak)(fr:List (List AV))(rs:List ak):Option (den (resTy P f)×den (ou nV nD n rs0)):=iN (nA P cfg ext k) f nV nD n rs0 (St.mk fr rs)
def Sl(n:Nat):AV:= .sl n [] none
def In(n:Int):AV:= .int .i64 n
def Rw(x:List Int):ak:= .row Bool.true (.int .i64) x
def Rww(x:List (List Int)):ak:= .row Bool.true (.sl (.int .i64)) x
def Ro(x:List Int):ak:= .row Bool.false (.int .i64) x
def Roo(x:List (List Int)):ak:= .row Bool.false (.sl (.int .i64)) x
open Go.Am.D renaming test → T, bnd → B, len → N, nat → V, ltN → U, rd → E, ofN → O, wrap → Z, add → A, sub → M
open Go.Am.DJ renaming jn_eq → jn
open Go.Am.Code (cA cB cC cT)
def dK(k:Nat)(a0:List Int)(a1:Int):Option Int:=call k 58 (a0,a1)
theorem dK.eq(k:Nat)(a0 a1):dK (k+1) a0 a1=T (D.lt (Z .i64 (M a1 (O (N a0)))) 0) (some (-1)) (some (Z .i64 (M a1 (O (N a0))))):=by kernel_rfl
def c1:Code:=cB (cB (cB (cH P 59)))
def bD(k:Nat)(a0:List (List Int))(a1:Int):Option Int:=call k 59 (a0,a1)
def bD.L0(k j:Nat)(x0 x1:Int)(x2:List (List Int)):Option Int:=LL k 59 (cC (cC (cB (cA c1)))) j (bN 0 (JK k 59 (cB c1) (R0 59))) [frm 27 [(0,Sl 0),(1,In x0),(5,In x1)]] [Roo x2]
theorem bD.eq(k:Nat)(a0 a1):bD (k+1) a0 a1=T (D.lt (Z .i64 (M a1 (O (N a0)))) 0) (some (-1)) (bD.L0 k k (Z .i64 (M a1 (O (N a0)))) 0 a0):=by kernel_rfl
theorem bD.cj(k j:Nat)(x0 x1 x2):bD.L0 k (j+1) x0 x1 x2=T (D.lt x1 (O (N x2))) (T (D.le 0 x1) (T (U (V x1) (N x2)) (T (U (V x1) (N x2)) (T (U (V x1) (N x2)) (B (dK k (E x2 (V x1) []) x0) fun r0=>T (D.lt r0 0) (some (-1)) (bD.L0 k j r0 (Z .i64 (A x1 1)) x2)) none) none) none) none) (some x0):=(jn _ _).trans (by kernel_rfl)
def cz(k:Nat)(a0:(List Int)×(List (List Int)))(a1:Int):Option Int:=call k 7 (a0,a1)
theorem cz.eq(k:Nat)(a0 a1):cz (k+1) a0 a1=B (dK k a0.1 a1) fun r0=>T (D.lt r0 0) (some (-1)) (B (bD k a0.2 r0) fun r1=>T (D.lt r1 0) (some (-1)) (some r1)):=by kernel_rfl
def c2:Code:=cB (cB (cH P 62))
def bF(k:Nat)(a0:List Int):Option (List Int):=call k 62 a0
def bF.L0(k j:Nat)(x0:Int)(x1 x2:List Int):Option (List Int):=LL k 62 (cC (cC (cB (cA c2)))) j (bN 0 (JK k 62 (cB c2) (R0 62))) [frm 22 [(0,Sl 0),(3,Sl 1),(4,In x0)]] [Ro x1,Rw x2]
theorem bF.eq(k:Nat)(a0):bF (k+1) a0=T (D.le 0 (O (N a0))) (T (D.le (O (N a0)) (O (N a0))) (T (D.leN (V (O (N a0))) 1099511627776) (bF.L0 k k 0 a0 (D.rep (V (O (N a0))) (0:Int))) none) none) none:=by kernel_rfl
theorem bF.cj(k j:Nat)(x0 x1 x2):bF.L0 k (j+1) x0 x1 x2=T (D.lt x0 (O (N x1))) (T (D.le 0 x0) (T (U (V x0) (N x1)) (T (U (V x0) (N x1)) (T (D.le 0 x0) (T (U (V x0) (N x2)) (T (U (V x0) (N x2)) (bF.L0 k j (Z .i64 (A x0 1)) x1 (D.set x2 (V x0) (E x1 (V x0) 0))) none) none) none) none) none) none) (some x2):=(jn _ _).trans (by kernel_rfl)
def c3:Code:=cB (cB (cH P 63))
def bB(k:Nat)(a0:List (List Int)):Option (List (List Int)):=call k 63 a0
def bB.L0(k j:Nat)(x0:Int)(x1 x2:List (List Int)):Option (List (List Int)):=LL k 63 (cC (cC (cB (cA c3)))) j (bN 0 (JK k 63 (cB c3) (R0 63))) [frm 23 [(0,Sl 0),(3,Sl 1),(4,In x0)]] [Roo x1,Rww x2]
theorem bB.eq(k:Nat)(a0):bB (k+1) a0=T (D.le 0 (O (N a0))) (T (D.le (O (N a0)) (O (N a0))) (T (D.leN (V (O (N a0))) 1099511627776) (bB.L0 k k 0 a0 (D.rep (V (O (N a0))) ([]:List Int))) none) none) none:=by kernel_rfl
theorem bB.cj(k j:Nat)(x0 x1 x2):bB.L0 k (j+1) x0 x1 x2=T (D.lt x0 (O (N x1))) (T (D.le 0 x0) (T (U (V x0) (N x1)) (T (U (V x0) (N x1)) (T (U (V x0) (N x1)) (B (bF k (E x1 (V x0) [])) fun r0=>T (D.le 0 x0) (T (U (V x0) (N x2)) (T (U (V x0) (N x2)) (bB.L0 k j (Z .i64 (A x0 1)) x1 (D.set x2 (V x0) r0)) none) none) none) none) none) none) none) (some x2):=(jn _ _).trans (by kernel_rfl)
def bw(k:Nat)(a0:(List Int)×(List (List Int))):Option ((List Int)×(List (List Int))):=call k 9 a0
theorem bw.eq(k:Nat)(a0):bw (k+1) a0=B (bF k a0.1) fun r0=>B (bB k a0.2) fun r1=>some (r0,r1):=by kernel_rfl
def fA(k:Nat)(a0 a1 a2:Int):Option Bool:=call k 113 (a0,a1,a2)
theorem fA.eq(k:Nat)(a0 a1 a2):fA (k+1) a0 a1 a2=T (D.le a1 a0) (some (D.le a0 a2)) (some false):=by kernel_rfl
def c4:Code:=cB (cB (cH P 144))
def c5:Code:=cC (cC (cB (cA c4)))
def K6(k:Nat):cn (den (resTy P 144)):=bN 0 (JK k 144 (cB c4) (R0 144))
def c7:Code:=cB c5
def aC(k:Nat)(a0:List Int):Option Bool:=call k 144 a0
def aC.L0(k j:Nat)(x0 x1:Int)(x2:List Int):Option Bool:=LL k 144 c5 j (K6 k) [frm 41 [(0,Sl 0),(3,In x0),(4,In x1)]] [Ro x2]
def aC.J1(k k1:Nat)(x0 x1:Int)(x2:List Int):Option Bool:=JJ k 144 (cB (cC (cA c7))) (bN 1 (JK k 144 (cB c7) (LK k 144 c5 k1 (K6 k)))) [frm 41 [(0,Sl 0),(3,In x0),(4,In x1)]] [Ro x2]
theorem aC.eq(k:Nat)(a0):aC (k+1) a0=aC.L0 k k 0 0 a0:=by kernel_rfl
theorem aC.cj(k j:Nat)(x0 x1 x2):aC.L0 k (j+1) x0 x1 x2=T (D.lt x1 (O (N x2))) (T (D.le 0 x1) (T (U (V x1) (N x2)) (T (U (V x1) (N x2)) (B (fA k (E x2 (V x1) 0) 1 9) fun r0=>T (D.no r0) (some false) (T (D.lt 0 x1) (T (D.le 0 x1) (T (U (V x1) (N x2)) (T (U (V x1) (N x2)) (T (D.le 0 (Z .i64 (M x1 1))) (T (U (V (Z .i64 (M x1 1))) (N x2)) (T (U (V (Z .i64 (M x1 1))) (N x2)) (T (D.lt (E x2 (V (Z .i64 (M x1 1))) 0) (E x2 (V x1) 0)) (some false) (aC.J1 k j x0 x1 x2)) none) none) none) none) none) none) (aC.J1 k j x0 x1 x2))) none) none) none) (some true):=(jn _ _).trans (by kernel_rfl)
theorem aC.kq(k k1:Nat)(x0 x1 x2):aC.J1 k k1 x0 x1 x2=T (D.le 0 x1) (T (U (V x1) (N x2)) (T (U (V x1) (N x2)) (T (D.lt 9 (Z .i64 (A x0 (E x2 (V x1) 0)))) (some false) (aC.L0 k k1 (Z .i64 (A x0 (E x2 (V x1) 0))) (Z .i64 (A x1 1)) x2)) none) none) none:=(jn _ _).trans (by kernel_rfl)
def cE(k:Nat)(a0:List Int)(a1:Int):Option Int:=call k 134 (a0,a1)
def cE.J0(k:Nat)(x0:Int)(x1:List Int):Option Int:=JJ k 134 (cB (cB (cH P 134))) (R0 134) [frm 17 [(0,Sl 0),(1,In x0)]] [Ro x1]
theorem cE.eq(k:Nat)(a0 a1):cE (k+1) a0 a1=T (D.lt a1 0) (some 0) (T (D.le (O (N a0)) a1) (some 0) (cE.J0 k a1 a0)):=by kernel_rfl
theorem cE.fP(k:Nat)(x0 x1):cE.J0 k x0 x1=T (D.le 0 x0) (T (U (V x0) (N x1)) (T (U (V x0) (N x1)) (some (E x1 (V x0) 0)) none) none) none:=(jn _ _).trans (by kernel_rfl)
def c8:Code:=cB (cB (cH P 178))
def aW(k:Nat)(a0 a1:List Int):Option Bool:=call k 178 (a0,a1)
def aW.J0(k:Nat)(x0 x1:List Int):Option Bool:=JJ k 178 c8 (R0 178) [frm 36 [(0,Sl 0),(1,Sl 1)]] [Ro x0,Ro x1]
def aW.L1(k j:Nat)(x0:Int)(x1 x2:List Int):Option Bool:=LL k 178 (cC (cC (cB (cA c8)))) j (bN 0 (JK k 178 (cB c8) (R0 178))) [frm 36 [(0,Sl 0),(1,Sl 1),(5,In x0)]] [Ro x1,Ro x2]
theorem aW.eq(k:Nat)(a0 a1):aW (k+1) a0 a1=B (aC k a0) fun r0=>T (D.no r0) (some false) (B (aC k a1) fun r1=>T (D.no r1) (some false) (T (D.lt (O (N a1)) (O (N a0))) (some false) (aW.J0 k a0 a1))):=by kernel_rfl
theorem aW.fP(k:Nat)(x0 x1):aW.J0 k x0 x1=aW.L1 k k 0 x0 x1:=(jn _ _).trans (by kernel_rfl)
theorem aW.fm(k j:Nat)(x0 x1 x2):aW.L1 k (j+1) x0 x1 x2=T (D.lt x0 (O (N x1))) (T (D.le 0 x0) (T (U (V x0) (N x1)) (T (U (V x0) (N x1)) (T (D.le 0 x0) (T (U (V x0) (N x2)) (T (U (V x0) (N x2)) (T (D.lt (E x2 (V x0) 0) (E x1 (V x0) 0)) (some false) (aW.L1 k j (Z .i64 (A x0 1)) x1 x2)) none) none) none) none) none) none) (some true):=(jn _ _).trans (by kernel_rfl)
def eG(k:Nat)(a0:(List Int)×(List Int)):Option Bool:=call k 147 a0
theorem eG.eq(k:Nat)(a0):eG (k+1) a0=B (aW k a0.2 a0.1) fun r0=>some r0:=by kernel_rfl
def c9:Code:=cB (cB (cB (cH P 87)))
def ba(k:Nat)(a0:(List Int)×(List (List Int))):Option (((List Int)×(List Int))×Bool):=call k 87 a0
def ba.J0(k:Nat)(x0:List Int)(x1:List (List Int))(x2 x3 x4 x5:List Int):Option (((List Int)×(List Int))×Bool):=JJ k 87 c9 (R0 87) [frm 59 [(1,.pv 0 0),(2,.pv 1 0),(4,.pv 2 0)]] [.var [Sl 3,Sl 4],.var [Sl 5,Sl 6],.var [Sl 7,Sl 8],Ro x0,Roo x1,Rw x2,Rw x3,Rw x4,Rw x5]
def ba.L1(k j:Nat)(x0:Int)(x1:List Int)(x2:List (List Int))(x3 x4 x5 x6:List Int):Option (((List Int)×(List Int))×Bool):=LL k 87 (cC (cC (cB (cA c9)))) j (bN 0 (JK k 87 (cB c9) (R0 87))) [frm 59 [(1,.pv 0 0),(2,.pv 1 0),(4,.pv 2 0),(5,In x0)]] [.var [Sl 3,Sl 4],.var [Sl 5,Sl 6],.var [Sl 7,Sl 8],Ro x1,Roo x2,Rw x3,Rw x4,Rw x5,Rw x6]
theorem ba.eq(k:Nat)(a0):ba (k+1) a0=T (D.leN (N (D.app ([]:List Int) a0.1)) 1099511627776) (B (aC k a0.1) fun r0=>T (D.no r0) (some ((([]:List Int),([]:List Int)),false)) (T (D.lt (O (N a0.2)) (O (N a0.1))) (some ((([]:List Int),([]:List Int)),false)) (T (D.lt 9 (O (N a0.2))) (some ((([]:List Int),([]:List Int)),false)) (ba.J0 k a0.1 a0.2 ([]:List Int) ([]:List Int) ([]:List Int) (D.app ([]:List Int) a0.1))))) none:=by kernel_rfl
theorem ba.fP(k:Nat)(x0 x1 x2 x3 x4 x5):ba.J0 k x0 x1 x2 x3 x4 x5=ba.L1 k k 0 x0 x1 x2 x3 x4 x5:=(jn _ _).trans (by kernel_rfl)
theorem ba.fm(k j:Nat)(x0 x1 x2 x3 x4 x5 x6):ba.L1 k (j+1) x0 x1 x2 x3 x4 x5 x6=T (D.lt x0 (O (N x2))) (B (cE k x1 x0) fun r1=>T (D.le 0 x0) (T (U (V x0) (N x2)) (T (U (V x0) (N x2)) (T (U (V x0) (N x2)) (T (D.leN (N (D.app x5 ((Z .i64 (A r1 (O (N (E x2 (V x0) [])))))::([]:List Int)))) 1099511627776) (ba.L1 k j (Z .i64 (A x0 1)) x1 x2 x3 x4 (D.app x5 ((Z .i64 (A r1 (O (N (E x2 (V x0) [])))))::([]:List Int))) x6) none) none) none) none) none) (B (eG k (x5,x6)) fun r2=>T (D.no r2) (some ((([]:List Int),([]:List Int)),false)) (some ((x5,x6),true))):=(jn _ _).trans (by kernel_rfl)
def c10:Code:=cB (cB (cH P 135))
def bo(k:Nat)(a0:(List Int)×(List (List Int)))(a1 a2:Int):Option Int:=call k 135 (a0,a1,a2)
def bo.J0(k:Nat)(x0 x1:Int)(x2:List Int)(x3:List (List Int)):Option Int:=JJ k 135 c10 (R0 135) [frm 43 [(1,In x0),(2,In x1),(3,.pv 0 0)]] [.var [Sl 1,Sl 2],Ro x2,Roo x3]
def bo.J1(k:Nat)(x0 x1:Int)(x2:List Int)(x3:List (List Int)):Option Int:=JJ k 135 (cB (cB c10)) (R0 135) [frm 43 [(1,In x0),(3,.pv 0 0),(7,In x1)]] [.var [Sl 1,Sl 2],Ro x2,Roo x3]
theorem bo.eq(k:Nat)(a0 a1 a2):bo (k+1) a0 a1 a2=T (D.lt a1 0) (some 0) (T (D.le (O (N a0.2)) a1) (some 0) (bo.J0 k a1 a2 a0.1 a0.2)):=by kernel_rfl
theorem bo.fP(k:Nat)(x0 x1 x2 x3):bo.J0 k x0 x1 x2 x3=B (cE k x2 x0) fun r0=>T (D.lt (Z .i64 (M x1 r0)) 0) (some 0) (T (D.le 0 x0) (T (U (V x0) (N x3)) (T (U (V x0) (N x3)) (T (U (V x0) (N x3)) (T (D.le (O (N (E x3 (V x0) []))) (Z .i64 (M x1 r0))) (some 0) (bo.J1 k x0 (Z .i64 (M x1 r0)) x2 x3)) none) none) none) none):=(jn _ _).trans (by kernel_rfl)
theorem bo.kq(k:Nat)(x0 x1 x2 x3):bo.J1 k x0 x1 x2 x3=T (D.le 0 x0) (T (U (V x0) (N x3)) (T (U (V x0) (N x3)) (T (U (V x0) (N x3)) (T (D.le 0 x1) (T (U (V x1) (N (E x3 (V x0) []))) (T (U (V x0) (N x3)) (T (U (V x1) (N (E x3 (V x0) []))) (some (E (E x3 (V x0) []) (V x1) 0)) none) none) none) none) none) none) none) none:=(jn _ _).trans (by kernel_rfl)
def c11:Code:=cB (cB (cB (cH P 61)))
def c12:Code:=cC (cC (cB (cA c11)))
def K13(k:Nat):cn (den (resTy P 61)):=bN 0 (JK k 61 (cB c11) (R0 61))
def c14:Code:=cB c12
def c15:Code:=cC (cC (cB (cC (cA c14))))
def K16(k k1:Nat):cn (den (resTy P 61)):=bN 2 (bN 1 (JK k 61 (cB c14) (LK k 61 c12 k1 (K13 k))))
def c17:Code:=cB c15
def c18:Code:=cB c17
def K19(k k1 k2:Nat):cn (den (resTy P 61)):=LK k 61 c15 k2 (K16 k k1)
def ar(k:Nat)(a0:(List Int)×(List (List Int))):Option Bool:=call k 61 a0
def ar.L0(k j:Nat)(x0:Int)(x1:List Int)(x2:List (List Int))(x3 x4:List Int):Option Bool:=LL k 61 c12 j (K13 k) [frm 64 [(1,.pv 0 0),(3,.pv 1 0),(5,In x0)]] [.var [Sl 2,Sl 3],.var [Sl 4,Sl 5],Ro x1,Roo x2,Rw x3,Rw x4]
def ar.L1(k k1 j:Nat)(x0 x1:Int)(x2:List Int)(x3:List (List Int))(x4 x5:List Int):Option Bool:=LL k 61 c15 j (K16 k k1) [frm 64 [(1,.pv 0 0),(3,.pv 1 0),(5,In x0),(6,In x1)]] [.var [Sl 2,Sl 3],.var [Sl 4,Sl 5],Ro x2,Roo x3,Rw x4,Rw x5]
def ar.J2(k k1 k2:Nat)(x0 x1 x2 x3:Int)(x4:List Int)(x5:List (List Int))(x6 x7:List Int):Option Bool:=JJ k 61 (cB (cB (cB (cC (cA c17))))) (bN 3 (JK k 61 c18 (K19 k k1 k2))) [frm 64 [(1,.pv 0 0),(3,.pv 1 0),(5,In x0),(6,In x1),(7,In x2),(8,In x3)]] [.var [Sl 2,Sl 3],.var [Sl 4,Sl 5],Ro x4,Roo x5,Rw x6,Rw x7]
def ar.J3(k k1 k2:Nat)(x0 x1:Int)(x2:List Int)(x3:List (List Int))(x4 x5:List Int):Option Bool:=JJ k 61 c18 (K19 k k1 k2) [frm 64 [(1,.pv 0 0),(3,.pv 1 0),(5,In x0),(6,In x1)]] [.var [Sl 2,Sl 3],.var [Sl 4,Sl 5],Ro x2,Roo x3,Rw x4,Rw x5]
theorem ar.eq(k:Nat)(a0):ar (k+1) a0=B (ba k (a0.1,a0.2)) fun r0=>T (D.no r0.2) (some false) (ar.L0 k k 0 a0.1 a0.2 r0.1.1 r0.1.2):=by kernel_rfl
theorem ar.cj(k j:Nat)(x0 x1 x2 x3 x4):ar.L0 k (j+1) x0 x1 x2 x3 x4=T (D.lt x0 (O (N x3))) (B (cE k x4 x0) fun r1=>ar.L1 k j k x0 r1 x1 x2 x3 x4) (some true):=(jn _ _).trans (by kernel_rfl)
theorem ar.fm(k k1 j:Nat)(x0 x1 x2 x3 x4 x5):ar.L1 k k1 (j+1) x0 x1 x2 x3 x4 x5=T (D.le 0 x0) (T (U (V x0) (N x4)) (T (U (V x0) (N x4)) (T (D.lt x1 (E x4 (V x0) 0)) (B (bo k (x2,x3) x0 x1) fun r2=>T (D.lt 0 x1) (B (bo k (x2,x3) x0 (Z .i64 (M x1 1))) fun r3=>ar.J2 k k1 j x0 x1 r2 r3 x2 x3 x4 x5) (ar.J2 k k1 j x0 x1 r2 0 x2 x3 x4 x5)) (ar.L0 k k1 (Z .i64 (A x0 1)) x2 x3 x4 x5)) none) none) none:=(jn _ _).trans (by kernel_rfl)
theorem ar.qo(k k1 k2:Nat)(x0 x1 x2 x3 x4 x5 x6 x7):ar.J2 k k1 k2 x0 x1 x2 x3 x4 x5 x6 x7=B (fA k x2 1 9) fun r4=>T (D.no r4) (some false) (T (D.lt x2 x3) (some false) (B (bo k (x4,x5) (Z .i64 (M x0 1)) x1) fun r5=>T (D.le x2 r5) (some false) (ar.J3 k k1 k2 x0 x1 x4 x5 x6 x7))):=(jn _ _).trans (by kernel_rfl)
theorem ar.yZ(k k1 k2:Nat)(x0 x1 x2 x3 x4 x5):ar.J3 k k1 k2 x0 x1 x2 x3 x4 x5=ar.L1 k k1 k2 x0 (Z .i64 (A x1 1)) x2 x3 x4 x5:=(jn _ _).trans (by kernel_rfl)
def dk(k:Nat)(a0:(List Int)×(List (List Int))):Option Bool:=call k 60 a0
theorem dk.eq(k:Nat)(a0):dk (k+1) a0=B (ar k (a0.1,a0.2)) fun r0=>T r0 (some (D.eq (O (N a0.1)) 0)) (some false):=by kernel_rfl
def c20:Code:=cB (cB (cH P 8))
def c21:Code:=cB (cB c20)
def c22:Code:=cB c21
def c23:Code:=cC (cC (cB (cA c22)))
def c24:Code:=cB c22
def K25(k:Nat):cn (den (resTy P 8)):=bN 0 (JK k 8 c24 (R0 8))
def c26:Code:=cB c23
def ai(k:Nat)(a0 a1:(List Int)×(List (List Int))):Option (((List Int)×(List (List Int)))×Bool):=call k 8 (a0,a1)
def ai.J0(k:Nat)(x0:List Int)(x1:List (List Int))(x2:List Int)(x3:List (List Int))(x4:List Int)(x5:List (List Int)):Option (((List Int)×(List (List Int)))×Bool):=JJ k 8 c20 (R0 8) [frm 80 [(2,.pv 0 0),(3,.pv 1 0),(4,.pv 2 0)]] [.var [Sl 3,Sl 4],.var [Sl 5,Sl 6],.var [Sl 7,Sl 8],Ro x0,Roo x1,Ro x2,Roo x3,Rw x4,Rww x5]
def ai.J1(k:Nat)(x0:Int)(x1:List Int)(x2:List (List Int))(x3:List Int)(x4:List (List Int))(x5:List Int)(x6:List (List Int)):Option (((List Int)×(List (List Int)))×Bool):=JJ k 8 c21 (R0 8) [frm 80 [(2,.pv 0 0),(3,.pv 1 0),(4,.pv 2 0),(6,In x0)]] [.var [Sl 3,Sl 4],.var [Sl 5,Sl 6],.var [Sl 7,Sl 8],Ro x1,Roo x2,Ro x3,Roo x4,Rw x5,Rww x6]
def ai.L2(k j:Nat)(x0 x1:Int)(x2:List Int)(x3:List (List Int))(x4:List Int)(x5:List (List Int))(x6:List Int)(x7:List (List Int))(x8:List Int)(x9:List (List Int)):Option (((List Int)×(List (List Int)))×Bool):=LL k 8 c23 j (K25 k) [frm 80 [(2,.pv 0 0),(3,.pv 1 0),(4,.pv 2 0),(6,In x0),(7,.pv 3 0),(8,In x1)]] [.var [Sl 4,Sl 5],.var [Sl 6,Sl 7],.var [Sl 8,Sl 9],.var [Sl 10,Sl 11],Ro x2,Roo x3,Ro x4,Roo x5,Rw x6,Rww x7,Rw x8,Rww x9]
def ai.J3(k k1:Nat)(x0 x1:Int)(x2:List Int)(x3:List (List Int))(x4:List Int)(x5:List (List Int))(x6:List Int)(x7:List (List Int))(x8:List Int)(x9:List (List Int)):Option (((List Int)×(List (List Int)))×Bool):=JJ k 8 (cB (cC (cA c26))) (bN 1 (JK k 8 (cB c26) (LK k 8 c23 k1 (K25 k)))) [frm 80 [(2,.pv 0 0),(3,.pv 1 0),(4,.pv 2 0),(6,In x0),(7,.pv 3 0),(8,In x1)]] [.var [Sl 4,Sl 5],.var [Sl 6,Sl 7],.var [Sl 8,Sl 9],.var [Sl 10,Sl 11],Ro x2,Roo x3,Ro x4,Roo x5,Rw x6,Rww x7,Rw x8,Rww x9]
def ai.L4(k j:Nat)(x0:Int)(x1:List Int)(x2:List (List Int))(x3:List Int)(x4:List (List Int))(x5:List Int)(x6:List (List Int)):Option (((List Int)×(List (List Int)))×Bool):=LL k 8 (cC (cC (cB (cA c24)))) j (bN 2 (JK k 8 (cB c24) (R0 8))) [frm 80 [(2,.pv 0 0),(4,.pv 1 0),(7,.pv 2 0),(9,In x0)]] [.var [Sl 3,Sl 4],.var [Sl 5,Sl 6],.var [Sl 7,Sl 8],Ro x1,Roo x2,Rw x3,Rww x4,Rw x5,Rww x6]
theorem ai.eq(k:Nat)(a0 a1):ai (k+1) a0 a1=B (dk k (a0.1,a0.2)) fun r0=>T (D.no r0) (some ((([]:List Int),([]:List (List Int))),false)) (B (dk k (a1.1,a1.2)) fun r1=>T (D.no r1) (some ((([]:List Int),([]:List (List Int))),false)) (ai.J0 k a0.1 a0.2 a1.1 a1.2 ([]:List Int) ([]:List (List Int)))):=by kernel_rfl
theorem ai.fP(k:Nat)(x0 x1 x2 x3 x4 x5):ai.J0 k x0 x1 x2 x3 x4 x5=T (D.lt 0 (O (N x1))) (T (D.le 0 0) (T (U (V 0) (N x1)) (T (U (V 0) (N x1)) (T (U (V 0) (N x1)) (ai.J1 k (O (N (E x1 (V 0) []))) x0 x1 x2 x3 x4 x5) none) none) none) none) (ai.J1 k 0 x0 x1 x2 x3 x4 x5):=(jn _ _).trans (by kernel_rfl)
theorem ai.kq(k:Nat)(x0 x1 x2 x3 x4 x5 x6):ai.J1 k x0 x1 x2 x3 x4 x5 x6=ai.L2 k k x0 0 x1 x2 x3 x4 x5 x6 ([]:List Int) ([]:List (List Int)):=(jn _ _).trans (by kernel_rfl)
theorem ai.uz(k j:Nat)(x0 x1 x2 x3 x4 x5 x6 x7 x8 x9):ai.L2 k (j+1) x0 x1 x2 x3 x4 x5 x6 x7 x8 x9=T (D.lt x1 (O (N x5))) (T (D.lt 0 x0) (T (D.leN (N (D.app x8 (x0::([]:List Int)))) 1099511627776) (ai.J3 k j x0 x1 x2 x3 x4 x5 x6 x7 (D.app x8 (x0::([]:List Int))) x9) none) (ai.J3 k j x0 x1 x2 x3 x4 x5 x6 x7 x8 x9)) (ai.L4 k k 0 x2 x3 x6 x7 x8 x9):=(jn _ _).trans (by kernel_rfl)
theorem ai.yZ(k k1:Nat)(x0 x1 x2 x3 x4 x5 x6 x7 x8 x9):ai.J3 k k1 x0 x1 x2 x3 x4 x5 x6 x7 x8 x9=T (D.le 0 x1) (T (U (V x1) (N x5)) (T (U (V x1) (N x5)) (T (U (V x1) (N x5)) (T (D.leN (N (D.app ([]:List Int) (E x5 (V x1) []))) 1099511627776) (T (D.leN (N (D.app x9 ((D.app ([]:List Int) (E x5 (V x1) []))::([]:List (List Int))))) 1099511627776) (ai.L2 k k1 x0 (Z .i64 (A x1 1)) x2 x3 x4 x5 x6 x7 x8 (D.app x9 ((D.app ([]:List Int) (E x5 (V x1) []))::([]:List (List Int))))) none) none) none) none) none) none:=(jn _ _).trans (by kernel_rfl)
theorem ai.Au(k j:Nat)(x0 x1 x2 x3 x4 x5 x6):ai.L4 k (j+1) x0 x1 x2 x3 x4 x5 x6=T (D.lt x0 (O (N x2))) (T (D.le 0 x0) (T (U (V x0) (N x2)) (T (U (V x0) (N x2)) (T (U (V x0) (N x2)) (T (D.leN (N (D.app ([]:List Int) (E x2 (V x0) []))) 1099511627776) (T (D.leN (N (D.app x6 ((D.app ([]:List Int) (E x2 (V x0) []))::([]:List (List Int))))) 1099511627776) (ai.L4 k j (Z .i64 (A x0 1)) x1 x2 x3 x4 x5 (D.app x6 ((D.app ([]:List Int) (E x2 (V x0) []))::([]:List (List Int))))) none) none) none) none) none) none) (B (ar k (x5,x6)) fun r2=>T (D.no r2) (some ((([]:List Int),([]:List (List Int))),false)) (some ((x5,x6),true))):=(jn _ _).trans (by kernel_rfl)
def cr(k:Nat)(a0 a1 a2:Int):Option Bool:=call k 97 (a0,a1,a2)
theorem cr.eq(k:Nat)(a0 a1 a2):cr (k+1) a0 a1 a2=T (D.le a1 a0) (some (D.le a0 a2)) (some false):=by kernel_rfl
def c27:Code:=cB (cB (cH P 142))
def c28:Code:=cC (cC (cB (cA c27)))
def K29(k:Nat):cn (den (resTy P 142)):=bN 0 (JK k 142 (cB c27) (R0 142))
def c30:Code:=cB (cB c28)
def aD(k:Nat)(a0:List Int):Option Bool:=call k 142 a0
def aD.L0(k j:Nat)(x0 x1 x2:Int)(x3:List Int):Option Bool:=LL k 142 c28 j (K29 k) [frm 35 [(0,Sl 0),(3,In x0),(6,Sl 0),(7,In x1),(8,In x2)]] [Ro x3]
def aD.J1(k k1:Nat)(x0 x1 x2 x3:Int)(x4:List Int):Option Bool:=JJ k 142 (cB (cB (cC (cA c30)))) (bN 1 (JK k 142 (cB c30) (LK k 142 c28 k1 (K29 k)))) [frm 35 [(0,Sl 0),(3,In x0),(5,In x1),(6,Sl 0),(7,In x2),(8,In x3)]] [Ro x4]
theorem aD.eq(k:Nat)(a0):aD (k+1) a0=aD.L0 k k 0 (O (N a0)) 0 a0:=by kernel_rfl
theorem aD.cj(k j:Nat)(x0 x1 x2 x3):aD.L0 k (j+1) x0 x1 x2 x3=T (D.lt x2 x1) (T (D.le 0 x2) (T (U (V x2) (N x3)) (T (U (V x2) (N x3)) (B (cr k (E x3 (V x2) 0) 1 9) fun r0=>T (D.no r0) (some false) (T (D.lt 0 x2) (T (D.le 0 (Z .i64 (M x2 1))) (T (U (V (Z .i64 (M x2 1))) (N x3)) (T (U (V (Z .i64 (M x2 1))) (N x3)) (T (D.lt (E x3 (V (Z .i64 (M x2 1))) 0) (E x3 (V x2) 0)) (some false) (aD.J1 k j x0 (E x3 (V x2) 0) x1 x2 x3)) none) none) none) (aD.J1 k j x0 (E x3 (V x2) 0) x1 x2 x3))) none) none) none) (some true):=(jn _ _).trans (by kernel_rfl)
theorem aD.kq(k k1:Nat)(x0 x1 x2 x3 x4):aD.J1 k k1 x0 x1 x2 x3 x4=T (D.lt 9 (Z .i64 (A x0 x1))) (some false) (aD.L0 k k1 (Z .i64 (A x0 x1)) x2 (Z .i64 (A x3 1)) x4):=(jn _ _).trans (by kernel_rfl)
def bk(k:Nat)(a0:List Int):Option (List Int):=call k 137 a0
theorem bk.eq(k:Nat)(a0):bk (k+1) a0=T (D.eqN (N a0) 0) (D.both (some ([]:List Int)) (T (D.leN (N (D.app ([]:List Int) a0)) 1099511627776) (some (D.app ([]:List Int) a0)) none)) (T (D.leN (N (D.app ([]:List Int) a0)) 1099511627776) (some (D.app ([]:List Int) a0)) none):=by kernel_rfl
def eF(k:Nat)(a0:List Int)(a1:Int):Option Int:=call k 99 (a0,a1)
theorem eF.eq(k:Nat)(a0 a1):eF (k+1) a0 a1=B (cr k a1 0 (Z .i64 (M (O (N a0)) 1))) fun r0=>T (D.no r0) (some 0) (T (D.le 0 a1) (T (U (V a1) (N a0)) (T (U (V a1) (N a0)) (some (E a0 (V a1) 0)) none) none) none):=by kernel_rfl
def c31:Code:=cB (cB (cH P 177))
def aU(k:Nat)(a0 a1:List Int):Option Bool:=call k 177 (a0,a1)
def aU.J0(k:Nat)(x0 x1:List Int):Option Bool:=JJ k 177 c31 (R0 177) [frm 28 [(0,Sl 0),(1,Sl 1)]] [Ro x0,Ro x1]
def aU.L1(k j:Nat)(x0 x1:Int)(x2 x3:List Int):Option Bool:=LL k 177 (cC (cC (cB (cA c31)))) j (bN 0 (JK k 177 (cB c31) (R0 177))) [frm 28 [(1,Sl 0),(15,Sl 1),(16,In x0),(17,In x1)]] [Ro x2,Ro x3]
theorem aU.eq(k:Nat)(a0 a1):aU (k+1) a0 a1=B (aD k a0) fun r0=>T (D.no r0) (some false) (B (aD k a1) fun r1=>T (D.no r1) (some false) (aU.J0 k a0 a1)):=by kernel_rfl
theorem aU.fP(k:Nat)(x0 x1):aU.J0 k x0 x1=aU.L1 k k (O (N x0)) 0 x1 x0:=(jn _ _).trans (by kernel_rfl)
theorem aU.fm(k j:Nat)(x0 x1 x2 x3):aU.L1 k (j+1) x0 x1 x2 x3=T (D.lt x1 x0) (T (D.le 0 x1) (T (U (V x1) (N x3)) (T (U (V x1) (N x3)) (B (eF k x2 x1) fun r2=>T (D.lt r2 (E x3 (V x1) 0)) (some false) (aU.L1 k j x0 (Z .i64 (A x1 1)) x2 x3)) none) none) none) (some true):=(jn _ _).trans (by kernel_rfl)
def eI(k:Nat)(a0:(List Int)×(List Int)):Option Bool:=call k 146 a0
theorem eI.eq(k:Nat)(a0):eI (k+1) a0=B (aU k a0.2 a0.1) fun r0=>some r0:=by kernel_rfl
def c32:Code:=cB (cB (cH P 85))
def c33:Code:=cB c32
def a8(k:Nat)(a0:(List Int)×(List (List Int))):Option (((List Int)×(List Int))×Bool):=call k 85 a0
def a8.J0(k:Nat)(x0:List Int)(x1:List (List Int))(x2 x3:List Int):Option (((List Int)×(List Int))×Bool):=JJ k 85 c32 (R0 85) [frm 51 [(1,.pv 0 0),(2,.pv 1 0)]] [.var [Sl 2,Sl 3],.var [Sl 4,Sl 5],Ro x0,Roo x1,Rw x2,Rw x3]
def a8.L1(k j:Nat)(x0 x1:Int)(x2:List (List Int))(x3 x4 x5 x6 x7:List Int):Option (((List Int)×(List Int))×Bool):=LL k 85 (cC (cC (cB (cA c33)))) j (bN 0 (JK k 85 (cB c33) (R0 85))) [frm 51 [(1,.pv 0 0),(2,.pv 1 0),(4,.pv 2 0),(26,Sl 3),(27,In x0),(28,In x1)]] [.var [Sl 4,Sl 3],.var [Sl 5,Sl 6],.var [Sl 7,Sl 8],Roo x2,Ro x3,Rw x4,Rw x5,Rw x6,Rw x7]
theorem a8.eq(k:Nat)(a0):a8 (k+1) a0=B (aD k a0.1) fun r0=>T (D.no r0) (some ((([]:List Int),([]:List Int)),false)) (T (D.lt (O (N a0.2)) (O (N a0.1))) (some ((([]:List Int),([]:List Int)),false)) (a8.J0 k a0.1 a0.2 ([]:List Int) ([]:List Int))):=by kernel_rfl
theorem a8.fP(k:Nat)(x0 x1 x2 x3):a8.J0 k x0 x1 x2 x3=B (bk k x0) fun r1=>a8.L1 k k (O (N x1)) 0 x1 x0 x2 x3 ([]:List Int) r1:=(jn _ _).trans (by kernel_rfl)
theorem a8.fm(k j:Nat)(x0 x1 x2 x3 x4 x5 x6 x7):a8.L1 k (j+1) x0 x1 x2 x3 x4 x5 x6 x7=T (D.lt x1 x0) (T (D.le 0 x1) (T (U (V x1) (N x2)) (T (U (V x1) (N x2)) (B (eF k x3 x1) fun r2=>T (U (V x1) (N x2)) (T (D.leN (N (D.app x6 ((Z .i64 (A r2 (O (N (E x2 (V x1) [])))))::([]:List Int)))) 1099511627776) (a8.L1 k j x0 (Z .i64 (A x1 1)) x2 x3 x4 x5 (D.app x6 ((Z .i64 (A r2 (O (N (E x2 (V x1) [])))))::([]:List Int))) x7) none) none) none) none) none) (B (eI k (x6,x7)) fun r3=>T (D.no r3) (some ((([]:List Int),([]:List Int)),false)) (some ((x6,x7),true))):=(jn _ _).trans (by kernel_rfl)
def b6(k:Nat)(a0:(List Int)×(List (List Int)))(a1 a2:Int):Option Int:=call k 98 (a0,a1,a2)
theorem b6.eq(k:Nat)(a0 a1 a2):b6 (k+1) a0 a1 a2=B (cr k a1 0 (Z .i64 (M (O (N a0.2)) 1))) fun r0=>T (D.no r0) (some 0) (T (D.le 0 a1) (T (U (V a1) (N a0.2)) (T (U (V a1) (N a0.2)) (B (eF k a0.1 a1) fun r1=>T (U (V a1) (N a0.2)) (B (eF k (E a0.2 (V a1) []) (Z .i64 (M a2 r1))) fun r2=>some r2) none) none) none) none):=by kernel_rfl
def c34:Code:=cB (cB (cH P 27))
def c35:Code:=cC (cC (cB (cA c34)))
def K36(k:Nat):cn (den (resTy P 27)):=bN 0 (JK k 27 (cB c34) (R0 27))
def c37:Code:=cB (cB c35)
def c38:Code:=cC (cC (cB (cB (cC (cA c37)))))
def K39(k k1:Nat):cn (den (resTy P 27)):=bN 2 (bN 1 (JK k 27 (cB c37) (LK k 27 c35 k1 (K36 k))))
def aw(k:Nat)(a0:(List Int)×(List (List Int))):Option Bool:=call k 27 a0
def aw.L0(k j:Nat)(x0 x1:Int)(x2:List (List Int))(x3:List Int):Option Bool:=LL k 27 c35 j (K36 k) [frm 67 [(1,.pv 0 0),(17,Sl 1),(18,In x0),(19,In x1)]] [.var [Sl 2,Sl 1],Roo x2,Ro x3]
def aw.L1(k k1 j:Nat)(x0:Int)(x1:Nat)(x2 x3:Int)(x4:Nat)(x5 x6:Int)(x7:List (List Int))(x8:List Int):Option Bool:=LL k 27 c38 j (K39 k k1) [frm 67 [(1,.pv 0 0),(5,In x0),(6,.sl 1 [(x1,0)] Option.none),(17,Sl 1),(18,In x2),(19,In x3),(24,.sl 1 [(x4,0)] Option.none),(25,In x5),(26,In x6)]] [.var [Sl 2,Sl 1],Roo x7,Ro x8]
def aw.J2(k k1 k2:Nat)(x0:Int)(x1:Nat)(x2 x3:Int)(x4:Nat)(x5 x6:Int)(x7:List (List Int))(x8:List Int):Option Bool:=JJ k 27 (cB (cB (cB c38))) (LK k 27 c38 k2 (K39 k k1)) [frm 67 [(1,.pv 0 0),(5,In x0),(6,.sl 1 [(x1,0)] Option.none),(17,Sl 1),(18,In x2),(19,In x3),(24,.sl 1 [(x4,0)] Option.none),(25,In x5),(26,In x6)]] [.var [Sl 2,Sl 1],Roo x7,Ro x8]
theorem aw.eq(k:Nat)(a0):aw (k+1) a0=B (a8 k (a0.1,a0.2)) fun r0=>T (D.no r0.2) (some false) (aw.L0 k k (O (N a0.2)) 0 a0.2 a0.1):=by kernel_rfl
theorem aw.cj(k j:Nat)(x0 x1 x2 x3):aw.L0 k (j+1) x0 x1 x2 x3=T (D.lt x1 x0) (T (D.le 0 x1) (T (U (V x1) (N x2)) (T (U (V x1) (N x2)) (T (U (V x1) (N x2)) (aw.L1 k j k x1 (V x1) x0 x1 (V x1) (O (N (E x2 (V x1) []))) 0 x2 x3) none) none) none) none) (some true):=(jn _ _).trans (by kernel_rfl)
theorem aw.fm(k k1 j:Nat)(x0 x1 x2 x3 x4 x5 x6 x7 x8):aw.L1 k k1 (j+1) x0 x1 x2 x3 x4 x5 x6 x7 x8=T (D.lt x6 x5) (T (U x4 (N x7)) (T (D.le 0 x6) (T (U (V x6) (N (E x7 x4 []))) (T (U x4 (N x7)) (T (U (V x6) (N (E x7 x4 []))) (B (cr k (E (E x7 x4 []) (V x6) 0) 1 9) fun r1=>T (D.no r1) (some false) (T (D.lt 0 x6) (T (U x1 (N x7)) (T (D.le 0 (Z .i64 (M x6 1))) (T (U (V (Z .i64 (M x6 1))) (N (E x7 x1 []))) (T (U x1 (N x7)) (T (U (V (Z .i64 (M x6 1))) (N (E x7 x1 []))) (T (D.lt (E (E x7 x4 []) (V x6) 0) (E (E x7 x1 []) (V (Z .i64 (M x6 1))) 0)) (some false) (T (D.lt 0 x0) (B (eF k x8 x0) fun r2=>B (b6 k (x8,x7) (Z .i64 (M x0 1)) (Z .i64 (A r2 x6))) fun r3=>T (D.le (E (E x7 x4 []) (V x6) 0) r3) (some false) (aw.J2 k k1 j x0 x1 x2 x3 x4 x5 x6 x7 x8)) (aw.J2 k k1 j x0 x1 x2 x3 x4 x5 x6 x7 x8))) none) none) none) none) none) (T (D.lt 0 x0) (B (eF k x8 x0) fun r4=>B (b6 k (x8,x7) (Z .i64 (M x0 1)) (Z .i64 (A r4 x6))) fun r5=>T (D.le (E (E x7 x4 []) (V x6) 0) r5) (some false) (aw.J2 k k1 j x0 x1 x2 x3 x4 x5 x6 x7 x8)) (aw.J2 k k1 j x0 x1 x2 x3 x4 x5 x6 x7 x8)))) none) none) none) none) none) (aw.L0 k k1 x2 (Z .i64 (A x3 1)) x7 x8):=(jn _ _).trans (by kernel_rfl)
theorem aw.qo(k k1 k2:Nat)(x0 x1 x2 x3 x4 x5 x6 x7 x8):aw.J2 k k1 k2 x0 x1 x2 x3 x4 x5 x6 x7 x8=aw.L1 k k1 k2 x0 x1 x2 x3 x4 x5 (Z .i64 (A x6 1)) x7 x8:=(jn _ _).trans (by kernel_rfl)
def dm(k:Nat)(a0:(List Int)×(List (List Int))):Option Bool:=call k 64 a0
theorem dm.eq(k:Nat)(a0):dm (k+1) a0=T (D.eq (O (N a0.1)) 0) (B (aw k (a0.1,a0.2)) fun r0=>some r0) (some false):=by kernel_rfl
def c40:Code:=cB (cB (cH P 66))
def aR(k:Nat)(a0:(List Int)×(List (List Int))):Option ((List Int)×(List (List Int))):=call k 66 a0
def aR.L0(k j:Nat)(x0 x1:Int)(x2:List (List Int))(x3:List Int)(x4:List (List Int))(x5:List Int)(x6:List (List Int)):Option ((List Int)×(List (List Int))):=LL k 66 (cC (cC (cB (cA c40)))) j (bN 0 (JK k 66 (cB c40) (R0 66))) [frm 26 [(2,.pv 0 0),(3,.pv 1 0),(11,Sl 2),(12,In x0),(13,In x1)]] [.var [Sl 3,Sl 4],.var [Sl 5,Sl 6],Roo x2,Rw x3,Rww x4,Rw x5,Rww x6]
theorem aR.eq(k:Nat)(a0):aR (k+1) a0=B (bk k a0.1) fun r0=>aR.L0 k k (O (N a0.2)) 0 a0.2 ([]:List Int) ([]:List (List Int)) r0 ([]:List (List Int)):=by kernel_rfl
theorem aR.cj(k j:Nat)(x0 x1 x2 x3 x4 x5 x6):aR.L0 k (j+1) x0 x1 x2 x3 x4 x5 x6=T (D.lt x1 x0) (T (D.le 0 x1) (T (U (V x1) (N x2)) (T (U (V x1) (N x2)) (T (U (V x1) (N x2)) (B (bk k (E x2 (V x1) [])) fun r1=>T (D.leN (N (D.app x6 (r1::([]:List (List Int))))) 1099511627776) (aR.L0 k j x0 (Z .i64 (A x1 1)) x2 x3 x4 x5 (D.app x6 (r1::([]:List (List Int))))) none) none) none) none) none) (some (x5,x6)):=(jn _ _).trans (by kernel_rfl)
def c41:Code:=cB (cB (cB (cH P 65)))
def c42:Code:=cA c41
def aQ(k:Nat)(x0 x1:List (List Int)):Option ((List (List Int))×PUnit):=IO_ k 65 0 0 3 [.var [Sl 1,Sl 2],Rww [],Rww []] [[.lit 0 2],[.pv 0 0,.undef,.undef]] [.var [Sl 1,Sl 2],Rww x0,Rww x1]
def aQ.J0(k:Nat)(x0 x1 x2 x3:Int)(x4:Bool)(x5 x6 x7 x8:Int)(x9:Bool)(x10 x11:Int)(x12 x13 x14:List (List Int)):Option ((List (List Int))×PUnit):=JJ (k+6) 136 (cB (cB (cH P 136))) (pK (fW P (yB P 136) (fun z1 z2=>St.force (St.put z2 (Go.Oper.dst (zM (Code.ops c42) 1)) (oH z1)) ((fun z3 z4=>fx (Code.ops c42) 1 (zM (Code.ops c42) 1) z4 ((fun z5 z6=>cR P cfg (nA P cfg ext (k+7)) Option.none (Code.ops c42) [2] (trN 2) z6 (fun z7 z8=>JK (k+7) 65 (cB c41) (pK (fW P (yB P 65) (fun z12 z13=>pk P 65 0 0 3 [.var [Sl 1,Sl 2],Rww [],Rww []] z12 z13))) .normal z8)) z3)) (Touch.mk [] [] [] Bool.true))))) [frm 27 [(0,.nilS),(1,In x0)],frm 36 [(0,.lit 0 2),(1,.tup []),(2,Sl 1),(3,In x1),(4,.tup []),(5,Sl 2),(6,.tup []),(7,.tup []),(8,.tup []),(9,.lit 0 2),(10,In x2),(11,In x3),(12,.bool x4),(13,.pv 0 1),(14,Sl 2),(15,In x5),(16,Sl 2),(17,In x6),(18,In x7),(19,In x8),(20,.bool x9),(21,.tup []),(22,In x10),(23,In x11),(24,.tup []),(25,.tup []),(26,.tup []),(27,.tup []),(28,.tup []),(29,.tup []),(30,.tup []),(31,.tup []),(32,.tup []),(33,.tup []),(34,.tup []),(35,.tup [])],[.pv 0 0,.undef,.undef]] [.var [Sl 3,Sl 2],Rww x12,Rww x13,Rww x14]
theorem aQ.eq(k:Nat)(x0 x1):aQ (k+8) x0 x1=T (D.lt (Z .i64 (A 0 (O (N x0)))) 0) none (T (D.lt (Z .i64 (A (Z .i64 (A 0 (O (N x0)))) (O (N x1)))) 0) none (T (D.lt (Z .i64 (A (Z .i64 (A 0 (O (N x0)))) (O (N x1)))) 0) none (aQ.J0 k (Z .i64 (A (Z .i64 (A 0 (O (N x0)))) (O (N x1)))) (Z .i64 (A (Z .i64 (A 0 (O (N x0)))) (O (N x1)))) 2 2 false (Z .i64 (A 0 (O (N x0)))) (O (N x1)) (Z .i64 (A (Z .i64 (A 0 (O (N x0)))) (O (N x1)))) (Z .i64 (A (Z .i64 (A 0 (O (N x0)))) (O (N x1)))) (D.lt (Z .i64 (A (Z .i64 (A 0 (O (N x0)))) (O (N x1)))) 0) 2 (Z .i64 (A (Z .i64 (A 0 (O (N x0)))) (O (N x1)))) ([]:List (List Int)) x1 x0))):=by kernel_rfl
theorem aQ.fP(k:Nat)(x0 x1 x2 x3 x4 x5 x6 x7 x8 x9 x10 x11 x12 x13 x14):aQ.J0 k x0 x1 x2 x3 x4 x5 x6 x7 x8 x9 x10 x11 x12 x13 x14=T (D.lt 0 (Z .i64 (M x0 (Z .i64 (M 0 0))))) (T (D.le 0 0) (T (D.leN (V 0) 0) (T (D.le 1 (Z .i64 (M x0 (Z .i64 (M 0 0))))) (T (D.leN (V (Z .i64 (M x0 (Z .i64 (M 0 0))))) 1099511627776) (T (D.le 0 0) (T (D.leN (V 0) (N (D.rep (V (Z .i64 (M x0 (Z .i64 (M 0 0))))) ([]:List Int)))) (T (D.leN (N (D.app (D.take (D.subN (V 0) 0) (D.drop 0 (D.rep (V (Z .i64 (M x0 (Z .i64 (M 0 0))))) ([]:List Int)))) x14)) 1099511627776) (T (D.leN (N (D.app (D.app (D.take (D.subN (V 0) 0) (D.drop 0 (D.rep (V (Z .i64 (M x0 (Z .i64 (M 0 0))))) ([]:List Int)))) x14) x13)) 1099511627776) (some ((D.app (D.app (D.take (D.subN (V 0) 0) (D.drop 0 (D.rep (V (Z .i64 (M x0 (Z .i64 (M 0 0))))) ([]:List Int)))) x14) x13),())) none) none) none) none) none) none) none) none) (T (D.leN (N (D.app ([]:List (List Int)) x14)) 1099511627776) (T (D.leN (N (D.app (D.app ([]:List (List Int)) x14) x13)) 1099511627776) (some ((D.app (D.app ([]:List (List Int)) x14) x13),())) none) none):=(jn _ _).trans (by kernel_rfl)
def c43:Code:=cB (cB (cH P 67))
def c44:Code:=cC (cC (cB (cA c43)))
def K45(k:Nat):cn (den (resTy P 67)):=bN 0 (JK k 67 (cB c43) (R0 67))
def c46:Code:=cB (cB c44)
def c47:Code:=cC (cC (cB (cB (cC (cA c46)))))
def K48(k k1:Nat):cn (den (resTy P 67)):=bN 2 (bN 1 (JK k 67 (cB c46) (LK k 67 c44 k1 (K45 k))))
def c49:Code:=cB (cB c47)
def ay(k:Nat)(a0:(List Int)×(List (List Int))):Option (List (List Int)):=call k 67 a0
def ay.L0(k j:Nat)(x0 x1:Int)(x2 x3:List (List Int)):Option (List (List Int)):=LL k 67 c44 j (K45 k) [frm 43 [(3,Sl 0),(10,Sl 1),(11,In x0),(12,In x1)]] [Rww x2,Roo x3]
def ay.L1(k k1 j:Nat)(x0 x1:Int)(x2:Nat)(x3 x4:Int)(x5 x6:List (List Int)):Option (List (List Int)):=LL k 67 c47 j (K48 k k1) [frm 43 [(3,Sl 0),(10,Sl 1),(11,In x0),(12,In x1),(16,.sl 1 [(x2,0)] Option.none),(17,In x3),(18,In x4)]] [Rww x5,Roo x6]
def ay.J2(k k1 k2:Nat)(x0 x1 x2 x3:Int)(x4:Nat)(x5 x6:Int)(x7 x8:List (List Int)):Option (List (List Int)):=JJ k 67 (cB (cB (cC (cA c49)))) (bN 3 (JK k 67 (cB c49) (LK k 67 c47 k2 (K48 k k1)))) [frm 43 [(3,Sl 0),(6,In x0),(7,In x1),(10,Sl 1),(11,In x2),(12,In x3),(16,.sl 1 [(x4,0)] Option.none),(17,In x5),(18,In x6)]] [Rww x7,Roo x8]
theorem ay.eq(k:Nat)(a0):ay (k+1) a0=ay.L0 k k (O (N a0.2)) 0 ([]:List (List Int)) a0.2:=by kernel_rfl
theorem ay.cj(k j:Nat)(x0 x1 x2 x3):ay.L0 k (j+1) x0 x1 x2 x3=T (D.lt x1 x0) (T (D.le 0 x1) (T (U (V x1) (N x3)) (T (U (V x1) (N x3)) (T (U (V x1) (N x3)) (ay.L1 k j k x0 x1 (V x1) (O (N (E x3 (V x1) []))) 0 x2 x3) none) none) none) none) (some x2):=(jn _ _).trans (by kernel_rfl)
theorem ay.fm(k k1 j:Nat)(x0 x1 x2 x3 x4 x5 x6):ay.L1 k k1 (j+1) x0 x1 x2 x3 x4 x5 x6=T (D.lt x4 x3) (T (U x2 (N x6)) (T (D.le 0 x4) (T (U (V x4) (N (E x6 x2 []))) (T (U x2 (N x6)) (T (U (V x4) (N (E x6 x2 []))) (T (D.eq x4 (O (N x5))) (T (D.leN (N (D.app x5 (([]:List Int)::([]:List (List Int))))) 1099511627776) (ay.J2 k k1 j x4 (E (E x6 x2 []) (V x4) 0) x0 x1 x2 x3 x4 (D.app x5 (([]:List Int)::([]:List (List Int)))) x6) none) (ay.J2 k k1 j x4 (E (E x6 x2 []) (V x4) 0) x0 x1 x2 x3 x4 x5 x6)) none) none) none) none) none) (ay.L0 k k1 x0 (Z .i64 (A x1 1)) x5 x6):=(jn _ _).trans (by kernel_rfl)
theorem ay.qo(k k1 k2:Nat)(x0 x1 x2 x3 x4 x5 x6 x7 x8):ay.J2 k k1 k2 x0 x1 x2 x3 x4 x5 x6 x7 x8=T (D.le 0 x0) (T (U (V x0) (N x7)) (T (U (V x0) (N x7)) (T (U (V x0) (N x7)) (T (D.leN (N (D.app (E x7 (V x0) []) (x1::([]:List Int)))) 1099511627776) (T (D.le 0 x0) (T (U (V x0) (N x7)) (T (U (V x0) (N x7)) (T (D.eqP (((V x0),0)::([]:List (Nat×Nat))) (((V x0),0)::([]:List (Nat×Nat)))) (ay.L1 k k1 k2 x2 x3 x4 x5 (Z .i64 (A x6 1)) (D.set x7 (V x0) (D.app (E x7 (V x0) []) (x1::([]:List Int)))) x8) none) none) none) none) none) none) none) none) none:=(jn _ _).trans (by kernel_rfl)
def dg(k:Nat)(a0 a1:Int):Option (Int×Int):=call k 174 (a0,a1)
theorem dg.eq(k:Nat)(a0 a1):dg (k+1) a0 a1=T (D.le 0 32) (T (D.le 0 32) (T (D.le 0 32) (T (D.le 0 32) (T (D.le 0 32) (some ((Z .u64 (A (Z .u64 (A (Z .u64 (D.mul (D.shrI .u64 a0 32) (D.shrI .u64 a1 32))) (D.shrI .u64 (Z .u64 (A (Z .u64 (D.mul (D.shrI .u64 a0 32) (D.andI .u64 a1 4294967295))) (D.shrI .u64 (Z .u64 (D.mul (D.andI .u64 a0 4294967295) (D.andI .u64 a1 4294967295))) 32))) 32))) (D.shrI .u64 (Z .u64 (A (D.andI .u64 (Z .u64 (A (Z .u64 (D.mul (D.shrI .u64 a0 32) (D.andI .u64 a1 4294967295))) (D.shrI .u64 (Z .u64 (D.mul (D.andI .u64 a0 4294967295) (D.andI .u64 a1 4294967295))) 32))) 4294967295) (Z .u64 (D.mul (D.andI .u64 a0 4294967295) (D.shrI .u64 a1 32))))) 32))),(Z .u64 (D.mul a0 a1)))) none) none) none) none) none:=by kernel_rfl
def dt(k:Nat)(a0 a1:Int):Option (Int×Int):=call k 138 (a0,a1)
theorem dt.eq(k:Nat)(a0 a1):dt (k+1) a0 a1=B (dg k a0 a1) fun r0=>some (r0.1,r0.2):=by kernel_rfl
def c50:Code:=cB (cB (cH P 68))
def c51:Code:=cB (cB c50)
def c52:Code:=cB (cB c51)
def an(k:Nat)(a0:List Int)(a1:Int):Option (List Int):=call k 68 (a0,a1)
def an.J0(k:Nat)(x0:Int)(x1:List Int):Option (List Int):=JJ k 68 c50 (R0 68) [frm 48 [(0,Sl 0),(1,In x0)]] [Ro x1]
def an.J1(k:Nat)(x0:Int)(x1:List Int):Option (List Int):=JJ k 68 c51 (R0 68) [frm 48 [(0,Sl 0),(6,.int .u64 x0)]] [Ro x1]
def an.L2(k j:Nat)(x0:Int)(x1:List Int):Option (List Int):=LL k 68 (cC (cC (cA c52))) j (bN 0 (JK k 68 (cB c52) (R0 68))) [frm 48 [(7,Sl 0),(8,In x0)]] [Rw x1]
theorem an.eq(k:Nat)(a0 a1):an (k+1) a0 a1=T (D.lt a1 0) none (an.J0 k a1 a0):=by kernel_rfl
theorem an.fP(k:Nat)(x0 x1):an.J0 k x0 x1=B (dt k (Z .u64 (O (N x1))) (Z .u64 x0)) fun r0=>T (D.lt 0 r0.1) none (T (D.lt 9223372036854775807 r0.2) none (an.J1 k r0.2 x1)):=(jn _ _).trans (by kernel_rfl)
theorem an.kq(k:Nat)(x0 x1):an.J1 k x0 x1=T (D.le 0 (Z .i64 x0)) (T (D.le (Z .i64 x0) (Z .i64 x0)) (T (D.leN (V (Z .i64 x0)) 1099511627776) (an.L2 k k (O (N (D.take (N (D.rep (V (Z .i64 x0)) (0:Int))) x1))) (D.app (D.take 0 (D.rep (V (Z .i64 x0)) (0:Int))) (D.app (D.take (N (D.rep (V (Z .i64 x0)) (0:Int))) x1) (D.drop (N (D.take (N (D.rep (V (Z .i64 x0)) (0:Int))) x1)) (D.rep (V (Z .i64 x0)) (0:Int)))))) none) none) none:=(jn _ _).trans (by kernel_rfl)
theorem an.uz(k j:Nat)(x0 x1):an.L2 k (j+1) x0 x1=T (D.lt x0 (O (N x1))) (T (D.le 0 x0) (T (D.leN (V x0) (N x1)) (T (D.le 0 x0) (T (D.leN (V x0) (N x1)) (an.L2 k j (Z .i64 (A x0 (O (N (D.take (D.subN (N x1) (V x0)) (D.take (D.subN (V x0) 0) (D.drop 0 x1))))))) (D.app (D.take (D.addN (V x0) 0) x1) (D.app (D.take (D.subN (N x1) (V x0)) (D.take (D.subN (V x0) 0) (D.drop 0 x1))) (D.drop (D.addN (V x0) (N (D.take (D.subN (N x1) (V x0)) (D.take (D.subN (V x0) 0) (D.drop 0 x1))))) x1)))) none) none) none) none) (some x1):=(jn _ _).trans (by kernel_rfl)
def c53:Code:=cB (cB (cH P 10))
def aM(k:Nat)(a0 a1:(List Int)×(List (List Int))):Option (((List Int)×(List (List Int)))×Bool):=call k 10 (a0,a1)
def aM.J0(k:Nat)(x0:List Int)(x1:List (List Int))(x2:List Int)(x3:List (List Int))(x4:List Int)(x5:List (List Int)):Option (((List Int)×(List (List Int)))×Bool):=JJ (k+5) 10 c53 (R0 10) [frm 43 [(2,.pv 0 0),(3,.pv 1 0),(4,.pv 2 0)]] [.var [Sl 3,Sl 4],.var [Sl 5,Sl 6],.var [Sl 7,Sl 8],Ro x0,Roo x1,Ro x2,Roo x3,Rw x4,Rww x5]
def aM.J1(k:Nat)(x0:List Int)(x1:List (List Int))(x2:List Int)(x3:List (List Int)):Option (((List Int)×(List (List Int)))×Bool):=JJ (k+5) 10 (cB (cB c53)) (R0 10) [frm 43 [(4,.pv 0 0),(6,.pv 1 0)]] [.var [Sl 2,Sl 3],.var [Sl 4,Sl 5],Rw x0,Rww x1,Rw x2,Rww x3]
theorem aM.eq(k:Nat)(a0 a1):aM (k+6) a0 a1=B (dm (k+5) (a0.1,a0.2)) fun r0=>T (D.no r0) (some ((([]:List Int),([]:List (List Int))),false)) (B (dm (k+5) (a1.1,a1.2)) fun r1=>T (D.no r1) (some ((([]:List Int),([]:List (List Int))),false)) (aM.J0 k a0.1 a0.2 a1.1 a1.2 ([]:List Int) ([]:List (List Int)))):=by kernel_rfl
theorem aM.fP(k:Nat)(x0 x1 x2 x3 x4 x5):aM.J0 k x0 x1 x2 x3 x4 x5=B (aR (k+5) (x2,x3)) fun r2=>B (aR (k+5) (x0,x1)) fun r3=>B (aQ (k+5) r2.2 r3.2) fun r4=>B (ay (k+5) (x0,x1)) fun r5=>T (D.lt 0 (O (N r5))) (B (an (k+5) ((O (N r5))::([]:List Int)) (O (N x3))) fun r6=>aM.J1 k x4 x5 r6 r4.1) (aM.J1 k x4 x5 ([]:List Int) r4.1):=(jn _ _).trans (by kernel_rfl)
theorem aM.kq(k:Nat)(x0 x1 x2 x3):aM.J1 k x0 x1 x2 x3=B (aw (k+5) (x2,x3)) fun r7=>T (D.no r7) (some ((([]:List Int),([]:List (List Int))),false)) (some ((x2,x3),true)):=(jn _ _).trans (by kernel_rfl)
def c54:Code:=cB (cB (cH P 69))
def bG(k:Nat)(a0 a1:List Int):Option Bool:=call k 69 (a0,a1)
def bG.L0(k j:Nat)(x0:Int)(x1 x2:List Int):Option Bool:=LL k 69 (cC (cC (cB (cA c54)))) j (bN 0 (JK k 69 (cB c54) (R0 69))) [frm 26 [(0,Sl 0),(1,Sl 1),(5,In x0)]] [Ro x1,Ro x2]
theorem bG.eq(k:Nat)(a0 a1):bG (k+1) a0 a1=T (D.no (D.eq (O (N a0)) (O (N a1)))) (some false) (bG.L0 k k 0 a0 a1):=by kernel_rfl
theorem bG.cj(k j:Nat)(x0 x1 x2):bG.L0 k (j+1) x0 x1 x2=T (D.lt x0 (O (N x1))) (T (D.le 0 x0) (T (U (V x0) (N x1)) (T (U (V x0) (N x1)) (T (D.le 0 x0) (T (U (V x0) (N x2)) (T (U (V x0) (N x2)) (T (D.no (D.eq (E x1 (V x0) 0) (E x2 (V x0) 0))) (some false) (bG.L0 k j (Z .i64 (A x0 1)) x1 x2)) none) none) none) none) none) none) (some true):=(jn _ _).trans (by kernel_rfl)
def c55:Code:=cB (cB (cH P 70))
def bz(k:Nat)(a0 a1:List (List Int)):Option Bool:=call k 70 (a0,a1)
def bz.L0(k j:Nat)(x0:Int)(x1 x2:List (List Int)):Option Bool:=LL k 70 (cC (cC (cB (cA c55)))) j (bN 0 (JK k 70 (cB c55) (R0 70))) [frm 27 [(0,Sl 0),(1,Sl 1),(5,In x0)]] [Roo x1,Roo x2]
theorem bz.eq(k:Nat)(a0 a1):bz (k+1) a0 a1=T (D.no (D.eq (O (N a0)) (O (N a1)))) (some false) (bz.L0 k k 0 a0 a1):=by kernel_rfl
theorem bz.cj(k j:Nat)(x0 x1 x2):bz.L0 k (j+1) x0 x1 x2=T (D.lt x0 (O (N x1))) (T (D.le 0 x0) (T (U (V x0) (N x1)) (T (U (V x0) (N x1)) (T (D.le 0 x0) (T (U (V x0) (N x2)) (T (U (V x0) (N x2)) (T (U (V x0) (N x1)) (T (U (V x0) (N x2)) (B (bG k (E x1 (V x0) []) (E x2 (V x0) [])) fun r0=>T (D.no r0) (some false) (bz.L0 k j (Z .i64 (A x0 1)) x1 x2)) none) none) none) none) none) none) none) none) (some true):=(jn _ _).trans (by kernel_rfl)
def bP(k:Nat)(a0 a1:(List Int)×(List (List Int))):Option Bool:=call k 11 (a0,a1)
theorem bP.eq(k:Nat)(a0 a1):bP (k+1) a0 a1=B (bG k a0.1 a1.1) fun r0=>T (D.no r0) (some false) (B (bz k a0.2 a1.2) fun r1=>T (D.no r1) (some false) (some true)):=by kernel_rfl
def c56:Code:=cB (cH P 71)
def aT(k:Nat)(x0:Int)(x1:List Int):Option (Int×(List Int)):=IO_ k 71 0 1 1 [Rw []] [[Sl 0,In x0],[Sl 0]] [Rw x1]
def aT.L0(k j:Nat)(x0 x1:Int)(x2:List Int):Option (Int×(List Int)):=LL k 71 (cC (cC (cB (cA c56)))) j (bN 0 (JK k 71 (cB c56) (pK (fW P (yB P 71) (fun z6 z7=>pk P 71 0 1 1 [Rw []] z6 z7))))) [frm 19 [(0,Sl 0),(1,In x0),(5,In x1)],[Sl 0]] [Rw x2]
theorem aT.eq(k:Nat)(x0 x1):aT (k+1) x0 x1=aT.L0 k k x0 0 x1:=by kernel_rfl
theorem aT.cj(k j:Nat)(x0 x1 x2):aT.L0 k (j+1) x0 x1 x2=T (D.lt x1 (O (N x2))) (T (D.le 0 x1) (T (U (V x1) (N x2)) (T (U (V x1) (N x2)) (aT.L0 k j (Z .i64 (A x0 1)) (Z .i64 (A x1 1)) (D.set x2 (V x1) x0)) none) none) none) (some (x0,x2)):=(jn _ _).trans (by kernel_rfl)
def c57:Code:=cB (cH P 72)
def c58:Code:=cC (cC (cB (cA c57)))
def K59(k:Nat):cn (Int×(List (List Int))):=bN 0 (JK (k+1) 72 (cB c57) (pK (fW P (yB P 72) (fun z6 z7=>pk P 72 0 1 1 [Rww []] z6 z7))))
def c60:Code:=cB (cH P 71)
def c61:Code:=cB c58
def c62:Code:=cC (cA c61)
def az(k:Nat)(x0:Int)(x1:List (List Int)):Option (Int×(List (List Int))):=IO_ k 72 0 1 1 [Rww []] [[Sl 0,In x0],[Sl 0]] [Rww x1]
def az.L0(k j:Nat)(x0 x1:Int)(x2:List (List Int)):Option (Int×(List (List Int))):=LL (k+1) 72 c58 j (K59 k) [frm 19 [(0,Sl 0),(1,In x0),(5,In x1)],[Sl 0]] [Rww x2]
def az.L1(k k1 j x0:Nat)(x1 x2 x3 x4 x5 x6:Int)(x7:Bool)(x8:Int)(x9 x10:Nat)(x11:Int)(x12:List (List Int)):Option (Int×(List (List Int))):=LL k 71 (cC (cC (cB (cA c60)))) j (bN 0 (JK k 71 (cB c60) (pK (fW P (yB P 71) (fun z6 z7=>St.force (St.put z7 (Go.Oper.dst (zM (Code.ops c62) 5)) (oH z6)) ((fun z8 z9=>fx (Code.ops c62) 5 (zM (Code.ops c62) 5) z9 ((fun z10 z11=>cR P cfg (nA P cfg ext (k+1)) Option.none (Code.ops c62) [6] (trN 6) z11 (fun z12 z13=>bN 1 (JK (k+1) 72 (cB c61) (LK (k+1) 72 c58 k1 (K59 k))) .normal z13)) z8)) (Touch.mk [] [] [] Bool.true))))))) [frm 19 [(0,.sl 0 [(x0,0)] Option.none),(1,In x1),(5,In x2)],frm 19 [(0,Sl 0),(1,In x3),(5,In x4),(6,In x5),(7,Sl 0),(8,In x6),(9,.bool x7),(12,Sl 0),(13,In x8),(14,.pe 0 [] x9 0),(15,.sl 0 [(x10,0)] Option.none),(16,In x11)],[Sl 0]] [Rww x12]
theorem az.eq(k:Nat)(x0 x1):az (k+2) x0 x1=az.L0 k (k+1) x0 0 x1:=by kernel_rfl
theorem az.cj(k j:Nat)(x0 x1 x2):az.L0 k (j+1) x0 x1 x2=T (D.lt x1 (O (N x2))) (T (D.le 0 x1) (T (U (V x1) (N x2)) (T (U (V x1) (N x2)) (az.L1 k j k (V x1) x0 0 x0 x1 x1 (O (N x2)) (D.lt x1 (O (N x2))) x1 (V x1) (V x1) x0 x2) none) none) none) (some (x0,x2)):=(jn _ _).trans (by kernel_rfl)
theorem az.fm(k k1 j:Nat)(x0 x1 x2 x3 x4 x5 x6 x7 x8 x9 x10 x11 x12):az.L1 k k1 (j+1) x0 x1 x2 x3 x4 x5 x6 x7 x8 x9 x10 x11 x12=T (U x0 (N x12)) (T (D.lt x2 (O (N (E x12 x0 [])))) (T (U x0 (N x12)) (T (D.le 0 x2) (T (U (V x2) (N (E x12 x0 []))) (T (U x0 (N x12)) (T (U (V x2) (N (E x12 x0 []))) (az.L1 k k1 j x0 (Z .i64 (A x1 1)) (Z .i64 (A x2 1)) x3 x4 x5 x6 x7 x8 x9 x10 x11 (D.set x12 x0 (D.set (E x12 x0 []) (V x2) x1))) none) none) none) none) none) (az.L0 k k1 x1 (Z .i64 (A x4 1)) x12)) none:=(jn _ _).trans (by kernel_rfl)
def bp(k:Nat)(x0:Int)(x1:List Int)(x2:List (List Int)):Option (Int×((List Int)×(List (List Int)))):=IO_ k 12 0 2 2 [Rw [],Rww []] [[.agg [Sl 0,Sl 1],In x0],[Sl 0,Sl 1]] [Rw x1,Rww x2]
theorem bp.eq(k:Nat)(x0 x1 x2):bp (k+1) x0 x1 x2=B (aT k x0 x1) fun r0=>B (az k r0.1 x2) fun r1=>some (r1.1,(r0.2,r1.2)):=by kernel_rfl
def c63:Code:=cB (cH P 73)
def bh(k:Nat)(a0:List Int)(a1:Int):Option Int:=call k 73 (a0,a1)
def bh.L0(k j:Nat)(x0 x1:Int)(x2:List Int):Option Int:=LL k 73 (cC (cC (cB (cA c63)))) j (bN 0 (JK k 73 (cB c63) (R0 73))) [frm 21 [(0,Sl 0),(1,In x0),(5,In x1)]] [Ro x2]
theorem bh.eq(k:Nat)(a0 a1):bh (k+1) a0 a1=bh.L0 k k a1 0 a0:=by kernel_rfl
theorem bh.cj(k j:Nat)(x0 x1 x2):bh.L0 k (j+1) x0 x1 x2=T (D.lt x1 (O (N x2))) (T (D.le 0 x1) (T (U (V x1) (N x2)) (T (U (V x1) (N x2)) (T (D.no (D.eq (E x2 (V x1) 0) x0)) (some (-1)) (bh.L0 k j (Z .i64 (A x0 1)) (Z .i64 (A x1 1)) x2)) none) none) none) (some x0):=(jn _ _).trans (by kernel_rfl)
def c64:Code:=cB (cH P 74)
def bj(k:Nat)(a0:List (List Int))(a1:Int):Option Int:=call k 74 (a0,a1)
def bj.L0(k j:Nat)(x0 x1:Int)(x2:List (List Int)):Option Int:=LL k 74 (cC (cC (cB (cA c64)))) j (bN 0 (JK k 74 (cB c64) (R0 74))) [frm 21 [(0,Sl 0),(1,In x0),(5,In x1)]] [Roo x2]
theorem bj.eq(k:Nat)(a0 a1):bj (k+1) a0 a1=bj.L0 k k a1 0 a0:=by kernel_rfl
theorem bj.cj(k j:Nat)(x0 x1 x2):bj.L0 k (j+1) x0 x1 x2=T (D.lt x1 (O (N x2))) (T (D.le 0 x1) (T (U (V x1) (N x2)) (T (U (V x1) (N x2)) (T (U (V x1) (N x2)) (B (bh k (E x2 (V x1) []) x0) fun r0=>T (D.lt r0 0) (some (-1)) (bj.L0 k j r0 (Z .i64 (A x1 1)) x2)) none) none) none) none) (some x0):=(jn _ _).trans (by kernel_rfl)
def ct(k:Nat)(a0:(List Int)×(List (List Int)))(a1:Int):Option Int:=call k 13 (a0,a1)
theorem ct.eq(k:Nat)(a0 a1):ct (k+1) a0 a1=B (bh k a0.1 a1) fun r0=>T (D.lt r0 0) (some (-1)) (B (bj k a0.2 r0) fun r1=>T (D.lt r1 0) (some (-1)) (some r1)):=by kernel_rfl
def c65:Code:=cB (cB (cB (cB (cB (cB (cB (cB (cB (cB (cB (cH P 3)))))))))))
def c66:Code:=cB (cB (cB (cB (cB (cB c65)))))
def ao(k:Nat)(a0 a1:(List Int)×(List (List Int))):Option Bool:=call k 3 (a0,a1)
def ao.J0(k:Nat)(x0 x1:Bool)(x2:List Int)(x3:List (List Int))(x4:List Int)(x5:List (List Int))(x6:List Int)(x7:List (List Int))(x8:List Int)(x9:List (List Int))(x10:List Int)(x11:List (List Int))(x12:List Int)(x13:List (List Int)):Option Bool:=JJ k 3 c65 (R0 3) [frm 119 [(2,.pv 0 0),(3,.pv 1 0),(6,.pv 2 0),(7,.bool x0),(8,.pv 3 0),(9,.pv 4 0),(10,.pv 5 0),(11,.bool x1)]] [.var [Sl 6,Sl 7],.var [Sl 8,Sl 9],.var [Sl 10,Sl 11],.var [Sl 12,Sl 13],.var [Sl 14,Sl 15],.var [Sl 16,Sl 17],Ro x2,Roo x3,Ro x4,Roo x5,Rw x6,Rww x7,Rw x8,Rww x9,Rw x10,Rww x11,Rw x12,Rww x13]
def ao.J1(k:Nat)(x0:Bool)(x1:List Int)(x2:List (List Int))(x3:List Int)(x4:List (List Int))(x5:List Int)(x6:List (List Int))(x7:List Int)(x8:List (List Int)):Option Bool:=JJ k 3 c66 (R0 3) [frm 119 [(2,.pv 0 0),(3,.pv 1 0),(6,.pv 2 0),(7,.bool x0),(10,.pv 3 0)]] [.var [Sl 4,Sl 5],.var [Sl 6,Sl 7],.var [Sl 8,Sl 9],.var [Sl 10,Sl 11],Ro x1,Roo x2,Ro x3,Roo x4,Rw x5,Rww x6,Rw x7,Rww x8]
def ao.J2(k:Nat)(x0:Int)(x1:List Int)(x2:List (List Int)):Option Bool:=JJ k 3 (cB (cB (cB (cB (cB (cB (cB (cB c66)))))))) (R0 3) [frm 119 [(10,.pv 0 0),(13,In x0)]] [.var [Sl 1,Sl 2],Rw x1,Rww x2]
theorem ao.eq(k:Nat)(a0 a1):ao (k+1) a0 a1=B (cz k (a0.1,a0.2) 1048576) fun r0=>T (D.lt r0 0) (some true) (B (cz k (a1.1,a1.2) r0) fun r1=>T (D.lt r1 0) (some true) (B (bw k (a0.1,a0.2)) fun r2=>B (bw k (a1.1,a1.2)) fun r3=>B (ai k (r2.1,r2.2) (r3.1,r3.2)) fun r4=>B (bw k (a0.1,a0.2)) fun r5=>B (bw k (a1.1,a1.2)) fun r6=>B (aM k (r5.1,r5.2) (r6.1,r6.2)) fun r7=>B (bP k (r7.1.1,r7.1.2) (r4.1.1,r4.1.2)) fun r8=>T (D.no r8) (some false) (T (D.no (D.eqB r7.2 r4.2)) (some false) (ao.J0 k r4.2 r7.2 a0.1 a0.2 a1.1 a1.2 r4.1.1 r4.1.2 r5.1 r5.2 r6.1 r6.2 r7.1.1 r7.1.2)))):=by kernel_rfl
theorem ao.fP(k:Nat)(x0 x1 x2 x3 x4 x5 x6 x7 x8 x9 x10 x11 x12 x13):ao.J0 k x0 x1 x2 x3 x4 x5 x6 x7 x8 x9 x10 x11 x12 x13=B (bw k (x2,x3)) fun r9=>B (bP k (x8,x9) (r9.1,r9.2)) fun r10=>T (D.no r10) (some false) (B (bw k (x4,x5)) fun r11=>B (bP k (x10,x11) (r11.1,r11.2)) fun r12=>T (D.no r12) (some false) (B (bp k 1 x8 x9) fun r13=>B (bp k r13.1 x10 x11) fun r14=>T (D.lt r14.1 0) (some false) (B (bP k (x12,x13) (x6,x7)) fun r15=>T (D.no r15) (some false) (T (D.no (D.eqB x1 x0)) (some false) (ao.J1 k x0 x2 x3 x4 x5 x6 x7 x12 x13))))):=(jn _ _).trans (by kernel_rfl)
theorem ao.kq(k:Nat)(x0 x1 x2 x3 x4 x5 x6 x7 x8):ao.J1 k x0 x1 x2 x3 x4 x5 x6 x7 x8=B (bp k 1 x7 x8) fun r16=>B (ct k (r16.2.1,r16.2.2) 1) fun r17=>T (D.lt r17 0) (some false) (T (D.no (D.eq r17 r16.1)) (some false) (B (bw k (x1,x2)) fun r18=>B (bw k (x3,x4)) fun r19=>B (aM k (r18.1,r18.2) (r19.1,r19.2)) fun r20=>B (bP k (r20.1.1,r20.1.2) (x5,x6)) fun r21=>T (D.no r21) (some false) (T (D.no (D.eqB r20.2 x0)) (some false) (ao.J2 k r16.1 r16.2.1 r16.2.2)))):=(jn _ _).trans (by kernel_rfl)
theorem ao.qo(k:Nat)(x0 x1 x2):ao.J2 k x0 x1 x2=B (ct k (x1,x2) 1) fun r22=>T (D.lt r22 0) (some false) (T (D.no (D.eq r22 x0)) (some false) (some true)):=(jn _ _).trans (by kernel_rfl)
end Go.Am.Seat
