/- The machine's equations for the functions that the law reaches, each checked by the kernel; no conditions. -/
import Derived.Test.YtloognjnfelgfaaDoorCfgDescribeWord
import Derived.Test.YtloognjnfelgfaaDoorProg
set_option linter.unusedSimpArgs false
set_option linter.unusedVariables false
set_option linter.unnecessarySimpa false
set_option linter.unusedSectionVars false
noncomputable section
namespace Go.Am.Seat
open Go Go.Am Go.Proofs
set_option linter.unusedVariables false
set_option linter.unusedSectionVars false
set_option maxRecDepth 100000
variable [D] [DJ]
abbrev LI:=List Int
abbrev LJ:=List (List Int)
abbrev P:Program:=Go.Proofs.Tryd.prog
def ext:Ext P:=DF P Dl
def X{R:Type}(k f:Nat)(c:Code):St→cU R→Option R:=exec P cfg (qo P cfg ext k) k f c
abbrev call(k f:Nat)(x:den (fF P f)):Option (den (resTy P f)):=wW P cfg ext k f x
def R0(f:Nat):cU (den (resTy P f)):=rH (finish P f (CM P f))
def JK{T:Type}(k f:Nat)(c:Code)(K:cU T):cU T:=qa (fun a b=>hO (Cfg.joins cfg f (key c)) (fun s=>X k f c s b) a) K
def LK{T:Type}(k f:Nat)(c:Code)(j:Nat)(K:cU T):cU T:=qa (fun a b=>hO (Cfg.loops cfg f (key c)) (fun s=>jJ (fun x y=>X k f c x y) (Cfg.loops cfg f (key c)) j s b) a) K
def LL{T:Type}(k f:Nat)(c:Code)(j:Nat)(K:cU T)(fr:List (List AV))(rs:List ak):Option T:=D.jn (fun a=>jJ (fun x y=>X k f c x y) (Cfg.loops cfg f (key c)) j a K) (St.mk fr rs)
def JJ{T:Type}(k f:Nat)(c:Code)(K:cU T)(fr:List (List AV))(rs:List ak):Option T:=D.jn (fun a=>X k f c a K) (St.mk fr rs)
abbrev IO_(k f nV nD n:Nat)(rs0:List ak)(fr:List (List AV))(rs:List ak):Option (den (resTy P f)×den (rD nV nD n rs0)):=kD (qo P cfg ext k) f nV nD n rs0 (St.mk fr rs)
def Sl(n:Nat):AV:= .sl n [] none
def In(n:Int):AV:= .int .i64 n
def Rw(x:LI):ak:= .row Bool.true (.int .i64) x
def Rww(x:LJ):ak:= .row Bool.true (.sl (.int .i64)) x
def Ro(x:LI):ak:= .row Bool.false (.int .i64) x
def Roo(x:LJ):ak:= .row Bool.false (.sl (.int .i64)) x
open Go.Am.D renaming test → T, bnd → B, len → N, nat → V, ltN → U, rd → E, ofN → O, wrap → Z, add → A, sub → M
open Go.Am.DJ renaming jn_eq → jn
open Go.Am.Code (cA cB cC cT)
def c1:Code:=cB (cB (cQ P 13))
def cp(k:Nat)(a0:LI):Option LI:=call k 13 a0
def cp.L0(k j:Nat)(x0:Int)(x1 x2:LI):Option LI:=LL k 13 (cC (cC (cB (cA c1)))) j (bI 0 (JK k 13 (cB c1) (R0 13))) [frm 22 [(0,Sl 0),(3,Sl 1),(4,In x0)]] [Ro x1,Rw x2]
theorem cp.eq(k:Nat)(a0):cp (k+1) a0=T (D.le 0 (O (N a0))) (T (D.le (O (N a0)) (O (N a0))) (T (D.leN (V (O (N a0))) 1099511627776) (cp.L0 k k 0 a0 (D.rep (V (O (N a0))) (0:Int))) none) none) none:=by kernel_rfl
theorem cp.bt(k j:Nat)(x0 x1 x2):cp.L0 k (j+1) x0 x1 x2=T (D.lt x0 (O (N x1))) (T (D.le 0 x0) (T (U (V x0) (N x1)) (T (U (V x0) (N x1)) (T (D.le 0 x0) (T (U (V x0) (N x2)) (T (U (V x0) (N x2)) (cp.L0 k j (Z .i64 (A x0 1)) x1 (D.set x2 (V x0) (E x1 (V x0) 0))) none) none) none) none) none) none) (some x2):=(jn _ _).trans (by kernel_rfl)
def fp(k:Nat)(a0 a1 a2:Int):Option Bool:=call k 61 (a0,a1,a2)
theorem fp.eq(k:Nat)(a0 a1 a2):fp (k+1) a0 a1 a2=T (D.le a1 a0) (some (D.le a0 a2)) (some false):=by kernel_rfl
def c2:Code:=cB (cQ P 30)
def aT(k:Nat)(a0:LI):Option Bool:=call k 30 a0
def aT.L0(k j:Nat)(x0:Int)(x1:LI):Option Bool:=LL k 30 (cC (cC (cB (cA c2)))) j (bI 0 (JK k 30 (cB c2) (R0 30))) [frm 19 [(0,Sl 0),(3,In x0)]] [Ro x1]
theorem aT.eq(k:Nat)(a0):aT (k+1) a0=aT.L0 k k 0 a0:=by kernel_rfl
theorem aT.bt(k j:Nat)(x0 x1):aT.L0 k (j+1) x0 x1=T (D.lt x0 (O (N x1))) (T (D.le 0 x0) (T (U (V x0) (N x1)) (T (U (V x0) (N x1)) (B (fp k (E x1 (V x0) 0) 1 9) fun r0=>T (D.no r0) (some false) (aT.L0 k j (Z .i64 (A x0 1)) x1)) none) none) none) (some (D.le (O (N x1)) 9)):=(jn _ _).trans (by kernel_rfl)
def c3:Code:=cB (cB (cQ P 95))
def cO(k:Nat)(a0:(LI)×(LJ)):Option ((LI)×(LJ)):=call k 95 a0
def cO.L0(k j:Nat)(x0:Int)(x1:LI)(x2:LJ)(x3:LI)(x4:LJ)(x5:LI)(x6:LJ):Option ((LI)×(LJ)):=LL k 95 (cC (cC (cB (cA c3)))) j (bI 0 (JK k 95 (cB c3) (R0 95))) [frm 30 [(1,.pv 0 0),(2,.pv 1 0),(3,.pv 2 0),(4,In x0)]] [.var [Sl 3,Sl 4],.var [Sl 5,Sl 6],.var [Sl 7,Sl 8],Ro x1,Roo x2,Rw x3,Rww x4,Rw x5,Rww x6]
theorem cO.eq(k:Nat)(a0):cO (k+1) a0=T (D.leN (N (D.app ([]:LI) a0.1)) 1099511627776) (cO.L0 k k 0 a0.1 a0.2 ([]:LI) ([]:LJ) (D.app ([]:LI) a0.1) ([]:LJ)) none:=by kernel_rfl
theorem cO.bt(k j:Nat)(x0 x1 x2 x3 x4 x5 x6):cO.L0 k (j+1) x0 x1 x2 x3 x4 x5 x6=T (D.lt x0 (O (N x2))) (T (D.le 0 x0) (T (U (V x0) (N x2)) (T (U (V x0) (N x2)) (T (U (V x0) (N x2)) (T (D.leN (N (D.app ([]:LI) (E x2 (V x0) []))) 1099511627776) (T (D.leN (N (D.app x6 ((D.app ([]:LI) (E x2 (V x0) []))::([]:LJ)))) 1099511627776) (cO.L0 k j (Z .i64 (A x0 1)) x1 x2 x3 x4 x5 (D.app x6 ((D.app ([]:LI) (E x2 (V x0) []))::([]:LJ)))) none) none) none) none) none) none) (some (x5,x6)):=(jn _ _).trans (by kernel_rfl)
def c4:Code:=cB (cB (cQ P 62))
def c5:Code:=cC (cC (cB (cA c4)))
def K6(k:Nat):cU (den (resTy P 62)):=bI 0 (JK k 62 (cB c4) (R0 62))
def c7:Code:=cB c5
def c8:Code:=cB (cC (cA c7))
def c9:Code:=cC (cC (cA c8))
def c10:Code:=cB c8
def K11(k k1:Nat):cU (den (resTy P 62)):=bI 1 (JK k 62 (cB c7) (LK k 62 c5 k1 (K6 k)))
def K12(k k1:Nat):cU (den (resTy P 62)):=bI 2 (JK k 62 c10 (K11 k k1))
def aE(k:Nat)(a0:(LI)×(LJ))(a1:Int):Option (((LI)×(LJ))×Int):=call k 62 (a0,a1)
def aE.L0(k j:Nat)(x0 x1:Int)(x2:LI)(x3:LJ)(x4:LI)(x5:LJ):Option (((LI)×(LJ))×Int):=LL k 62 c5 j (K6 k) [frm 92 [(1,In x0),(4,.pv 0 0),(6,.pv 1 0),(7,In x1)]] [.var [Sl 2,Sl 3],.var [Sl 4,Sl 5],Rw x2,Rww x3,Rw x4,Rww x5]
def aE.L1(k k1 j:Nat)(x0 x1 x2:Int)(x3:LI)(x4:LJ)(x5:LI)(x6:LJ):Option (((LI)×(LJ))×Int):=LL k 62 c9 j (K12 k k1) [frm 92 [(1,In x0),(4,.pv 0 0),(6,.pv 1 0),(7,In x1),(8,In x2)]] [.var [Sl 2,Sl 3],.var [Sl 4,Sl 5],Rw x3,Rww x4,Rw x5,Rww x6]
def aE.J2(k k1 k2:Nat)(x0 x1 x2:Int)(x3:LI)(x4:LJ)(x5:LI)(x6:LJ):Option (((LI)×(LJ))×Int):=JJ k 62 (cB c9) (LK k 62 c9 k2 (K12 k k1)) [frm 92 [(1,In x0),(4,.pv 0 0),(6,.pv 1 0),(7,In x1),(8,In x2)]] [.var [Sl 2,Sl 3],.var [Sl 4,Sl 5],Rw x3,Rww x4,Rw x5,Rww x6]
def aE.J3(k k1:Nat)(x0 x1 x2:Int)(x3:LI)(x4:LJ)(x5:LI)(x6:LJ):Option (((LI)×(LJ))×Int):=JJ k 62 c10 (K11 k k1) [frm 92 [(1,In x0),(4,.pv 0 0),(6,.pv 1 0),(7,In x1),(8,In x2)]] [.var [Sl 2,Sl 3],.var [Sl 4,Sl 5],Rw x3,Rww x4,Rw x5,Rww x6]
theorem aE.eq(k:Nat)(a0 a1):aE (k+1) a0 a1=B (cO k (a0.1,a0.2)) fun r0=>aE.L0 k k a1 0 ([]:LI) ([]:LJ) r0.1 r0.2:=by kernel_rfl
theorem aE.bt(k j:Nat)(x0 x1 x2 x3 x4 x5):aE.L0 k (j+1) x0 x1 x2 x3 x4 x5=T (D.lt x1 (O (N x5))) (aE.L1 k j k x0 x1 0 x2 x3 x4 x5) (T (D.leN (N (D.app x5 ((x0::([]:LI))::([]:LJ)))) 1099511627776) (some ((x4,(D.app x5 ((x0::([]:LI))::([]:LJ)))),(Z .i64 (M (O (N (D.app x5 ((x0::([]:LI))::([]:LJ))))) 1)))) none):=(jn _ _).trans (by kernel_rfl)
theorem aE.fh(k k1 j:Nat)(x0 x1 x2 x3 x4 x5 x6):aE.L1 k k1 (j+1) x0 x1 x2 x3 x4 x5 x6=T (D.le 0 x1) (T (U (V x1) (N x6)) (T (U (V x1) (N x6)) (T (U (V x1) (N x6)) (T (D.lt x2 (O (N (E x6 (V x1) [])))) (T (D.le 0 x1) (T (U (V x1) (N x6)) (T (U (V x1) (N x6)) (T (U (V x1) (N x6)) (T (D.le 0 x2) (T (U (V x2) (N (E x6 (V x1) []))) (T (U (V x1) (N x6)) (T (U (V x2) (N (E x6 (V x1) []))) (T (D.le (E (E x6 (V x1) []) (V x2) 0) x0) (aE.J2 k k1 j x0 x1 x2 x3 x4 x5 x6) (aE.J3 k k1 x0 x1 x2 x3 x4 x5 x6)) none) none) none) none) none) none) none) none) (aE.J3 k k1 x0 x1 x2 x3 x4 x5 x6)) none) none) none) none:=(jn _ _).trans (by kernel_rfl)
theorem aE.lU(k k1 k2:Nat)(x0 x1 x2 x3 x4 x5 x6):aE.J2 k k1 k2 x0 x1 x2 x3 x4 x5 x6=aE.L1 k k1 k2 x0 x1 (Z .i64 (A x2 1)) x3 x4 x5 x6:=(jn _ _).trans (by kernel_rfl)
theorem aE.yF(k k1:Nat)(x0 x1 x2 x3 x4 x5 x6):aE.J3 k k1 x0 x1 x2 x3 x4 x5 x6=T (D.le 0 x1) (T (U (V x1) (N x6)) (T (U (V x1) (N x6)) (T (U (V x1) (N x6)) (T (D.eq x2 (O (N (E x6 (V x1) [])))) (T (D.le 0 x1) (T (U (V x1) (N x6)) (T (U (V x1) (N x6)) (T (U (V x1) (N x6)) (T (D.leN (N (D.app (E x6 (V x1) []) (x0::([]:LI)))) 1099511627776) (T (D.le 0 x1) (T (U (V x1) (N x6)) (T (U (V x1) (N x6)) (T (D.eqP (((V x1),0)::([]:List (Nat×Nat))) (((V x1),0)::([]:List (Nat×Nat)))) (some ((x5,(D.set x6 (V x1) (D.app (E x6 (V x1) []) (x0::([]:LI))))),x1)) none) none) none) none) none) none) none) none) none) (T (D.le 0 x1) (T (U (V x1) (N x6)) (T (U (V x1) (N x6)) (T (U (V x1) (N x6)) (T (D.le 0 x2) (T (U (V x2) (N (E x6 (V x1) []))) (T (U (V x1) (N x6)) (T (U (V x2) (N (E x6 (V x1) []))) (T (D.le 0 x1) (T (U (V x1) (N x6)) (T (U (V x1) (N x6)) (T (U (V x1) (N x6)) (T (D.le 0 x2) (T (U (V x2) (N (E x6 (V x1) []))) (T (U (V x1) (N x6)) (T (U (V x2) (N (E x6 (V x1) []))) (aE.L0 k k1 (E (E x6 (V x1) []) (V x2) 0) (Z .i64 (A x1 1)) x3 x4 x5 (D.set x6 (V x1) (D.set (E x6 (V x1) []) (V x2) x0))) none) none) none) none) none) none) none) none) none) none) none) none) none) none) none) none)) none) none) none) none:=(jn _ _).trans (by kernel_rfl)
def c13:Code:=cB (cB (cB (cQ P 31)))
def c14:Code:=cC (cC (cB (cA c13)))
def K15(k:Nat):cU (den (resTy P 31)):=bI 0 (JK k 31 (cB c13) (R0 31))
def c16:Code:=cB c14
def bn(k:Nat)(a0:LI):Option (((LI)×(LJ))×((LI)×(LJ))):=call k 31 a0
def bn.L0(k j:Nat)(x0:Int)(x1 x2:LI)(x3:LJ)(x4:LI)(x5:LJ)(x6:LI)(x7:LJ)(x8:LI)(x9:LJ):Option (((LI)×(LJ))×((LI)×(LJ))):=LL k 31 c14 j (K15 k) [frm 53 [(0,Sl 0),(2,.pv 1 0),(3,.pv 2 0),(4,.pv 3 0),(5,.pv 4 0),(6,In x0)]] [Ro x1,.var [Sl 5,Sl 6],.var [Sl 7,Sl 8],.var [Sl 9,Sl 10],.var [Sl 11,Sl 12],Rw x2,Rww x3,Rw x4,Rww x5,Rw x6,Rww x7,Rw x8,Rww x9]
def bn.J1(k k1:Nat)(x0 x1:Int)(x2 x3:LI)(x4:LJ)(x5:LI)(x6:LJ)(x7:LI)(x8:LJ)(x9:LI)(x10:LJ):Option (((LI)×(LJ))×((LI)×(LJ))):=JJ k 31 (cB (cB (cB (cC (cA c16))))) (bI 1 (JK k 31 (cB c16) (LK k 31 c14 k1 (K15 k)))) [frm 53 [(0,Sl 0),(2,.pv 1 0),(3,.pv 2 0),(4,.pv 3 0),(5,.pv 4 0),(6,In x0),(8,In x1)]] [Ro x2,.var [Sl 5,Sl 6],.var [Sl 7,Sl 8],.var [Sl 9,Sl 10],.var [Sl 11,Sl 12],Rw x3,Rww x4,Rw x5,Rww x6,Rw x7,Rww x8,Rw x9,Rww x10]
theorem bn.eq(k:Nat)(a0):bn (k+1) a0=bn.L0 k k 0 a0 ([]:LI) ([]:LJ) ([]:LI) ([]:LJ) ([]:LI) ([]:LJ) ([]:LI) ([]:LJ):=by kernel_rfl
theorem bn.bt(k j:Nat)(x0 x1 x2 x3 x4 x5 x6 x7 x8 x9):bn.L0 k (j+1) x0 x1 x2 x3 x4 x5 x6 x7 x8 x9=T (D.lt x0 (O (N x1))) (T (D.le 0 x0) (T (U (V x0) (N x1)) (T (U (V x0) (N x1)) (B (aE k (x6,x7) (E x1 (V x0) 0)) fun r0=>T (D.eq r0.2 (O (N x9))) (T (D.leN (N (D.app x9 (([]:LI)::([]:LJ)))) 1099511627776) (bn.J1 k j x0 r0.2 x1 x2 x3 x4 x5 r0.1.1 r0.1.2 x8 (D.app x9 (([]:LI)::([]:LJ)))) none) (bn.J1 k j x0 r0.2 x1 x2 x3 x4 x5 r0.1.1 r0.1.2 x8 x9)) none) none) none) (some ((x6,x7),(x8,x9))):=(jn _ _).trans (by kernel_rfl)
theorem bn.il(k k1:Nat)(x0 x1 x2 x3 x4 x5 x6 x7 x8 x9 x10):bn.J1 k k1 x0 x1 x2 x3 x4 x5 x6 x7 x8 x9 x10=T (D.le 0 x1) (T (U (V x1) (N x10)) (T (U (V x1) (N x10)) (T (U (V x1) (N x10)) (T (D.leN (N (D.app (E x10 (V x1) []) ((Z .i64 (A x0 1))::([]:LI)))) 1099511627776) (T (D.le 0 x1) (T (U (V x1) (N x10)) (T (U (V x1) (N x10)) (T (D.eqP (((V x1),0)::([]:List (Nat×Nat))) (((V x1),0)::([]:List (Nat×Nat)))) (bn.L0 k k1 (Z .i64 (A x0 1)) x2 x3 x4 x5 x6 x7 x8 x9 (D.set x10 (V x1) (D.app (E x10 (V x1) []) ((Z .i64 (A x0 1))::([]:LI))))) none) none) none) none) none) none) none) none) none:=(jn _ _).trans (by kernel_rfl)
def c17:Code:=cB (cB (cQ P 32))
def c18:Code:=cC (cC (cB (cA c17)))
def K19(k:Nat):cU (den (resTy P 32)):=bI 0 (JK k 32 (cB c17) (R0 32))
def c20:Code:=cB c18
def K21(k k1:Nat):cU (den (resTy P 32)):=LK k 32 c18 k1 (K19 k)
def aM(k:Nat)(a0:LI):Option Bool:=call k 32 a0
def aM.L0(k j:Nat)(x0:Int)(x1 x2:LI):Option Bool:=LL k 32 c18 j (K19 k) [frm 56 [(0,Sl 0),(3,Sl 1),(4,In x0)]] [Ro x1,Rw x2]
def aM.J1(k k1:Nat)(x0:Int)(x1 x2:LI):Option Bool:=JJ k 32 c20 (K21 k k1) [frm 56 [(0,Sl 0),(3,Sl 1),(4,In x0)]] [Ro x1,Rw x2]
def aM.J2(k k1:Nat)(x0:Int)(x1 x2:LI):Option Bool:=JJ k 32 (cB c20) (K21 k k1) [frm 56 [(0,Sl 0),(3,Sl 1),(4,In x0)]] [Ro x1,Rw x2]
theorem aM.eq(k:Nat)(a0):aM (k+1) a0=T (D.le 0 11) (T (D.le 11 11) (T (D.leN (V 11) 1099511627776) (aM.L0 k k (Z .i64 (M (O (N a0)) 1)) a0 (D.rep (V 11) (0:Int))) none) none) none:=by kernel_rfl
theorem aM.bt(k j:Nat)(x0 x1 x2):aM.L0 k (j+1) x0 x1 x2=T (D.le 0 x0) (B (aT k x1) fun r0=>T r0 (aM.J1 k j x0 x1 x2) (B (aT k x1) fun r1=>some r1)) (B (aT k x1) fun r2=>some r2):=(jn _ _).trans (by kernel_rfl)
theorem aM.il(k k1:Nat)(x0 x1 x2):aM.J1 k k1 x0 x1 x2=T (D.le 0 x0) (T (U (V x0) (N x1)) (T (U (V x0) (N x1)) (T (D.le 0 x0) (T (U (V x0) (N x1)) (T (U (V x0) (N x1)) (T (D.le 0 (E x1 (V x0) 0)) (T (U (V (E x1 (V x0) 0)) (N x2)) (T (U (V (E x1 (V x0) 0)) (N x2)) (T (D.le 0 (E x1 (V x0) 0)) (T (U (V (E x1 (V x0) 0)) (N x2)) (T (U (V (E x1 (V x0) 0)) (N x2)) (T (D.le 0 x0) (T (U (V x0) (N x1)) (T (U (V x0) (N x1)) (T (D.lt 1 (E x1 (V x0) 0)) (T (D.le 0 x0) (T (U (V x0) (N x1)) (T (U (V x0) (N x1)) (T (D.le 0 (E x1 (V x0) 0)) (T (U (V (E x1 (V x0) 0)) (N (D.set x2 (V (E x1 (V x0) 0)) (Z .i64 (A (E x2 (V (E x1 (V x0) 0)) 0) 1))))) (T (U (V (E x1 (V x0) 0)) (N (D.set x2 (V (E x1 (V x0) 0)) (Z .i64 (A (E x2 (V (E x1 (V x0) 0)) 0) 1))))) (T (D.le 0 x0) (T (U (V x0) (N x1)) (T (U (V x0) (N x1)) (T (D.le 0 (Z .i64 (M (E x1 (V x0) 0) 1))) (T (U (V (Z .i64 (M (E x1 (V x0) 0) 1))) (N (D.set x2 (V (E x1 (V x0) 0)) (Z .i64 (A (E x2 (V (E x1 (V x0) 0)) 0) 1))))) (T (U (V (Z .i64 (M (E x1 (V x0) 0) 1))) (N (D.set x2 (V (E x1 (V x0) 0)) (Z .i64 (A (E x2 (V (E x1 (V x0) 0)) 0) 1))))) (T (D.lt (E (D.set x2 (V (E x1 (V x0) 0)) (Z .i64 (A (E x2 (V (E x1 (V x0) 0)) 0) 1))) (V (Z .i64 (M (E x1 (V x0) 0) 1))) 0) (E (D.set x2 (V (E x1 (V x0) 0)) (Z .i64 (A (E x2 (V (E x1 (V x0) 0)) 0) 1))) (V (E x1 (V x0) 0)) 0)) (some false) (aM.J2 k k1 x0 x1 (D.set x2 (V (E x1 (V x0) 0)) (Z .i64 (A (E x2 (V (E x1 (V x0) 0)) 0) 1))))) none) none) none) none) none) none) none) none) none) none) none) none) (aM.J2 k k1 x0 x1 (D.set x2 (V (E x1 (V x0) 0)) (Z .i64 (A (E x2 (V (E x1 (V x0) 0)) 0) 1))))) none) none) none) none) none) none) none) none) none) none) none) none) none) none) none:=(jn _ _).trans (by kernel_rfl)
theorem aM.lU(k k1:Nat)(x0 x1 x2):aM.J2 k k1 x0 x1 x2=aM.L0 k k1 (Z .i64 (M x0 1)) x1 x2:=(jn _ _).trans (by kernel_rfl)
def gL(k:Nat)(a0:LI)(a1:Int):Option Bool:=call k 96 (a0,a1)
theorem gL.eq(k:Nat)(a0 a1):gL (k+1) a0 a1=B (aT k a0) fun r0=>T r0 (B (fp k a1 1 8) fun r1=>some r1) (some false):=by kernel_rfl
def c22:Code:=cB (cB (cB (cQ P 97)))
def c23:Code:=cC (cC (cB (cA c22)))
def K24(k:Nat):cU (den (resTy P 97)):=bI 0 (JK k 97 (cB c22) (R0 97))
def c25:Code:=cB (cB c23)
def K26(k k1:Nat):cU (den (resTy P 97)):=LK k 97 c23 k1 (K24 k)
def aC(k:Nat)(a0:LI)(a1:Int):Option ((LI)×(LI)):=call k 97 (a0,a1)
def aC.L0(k j:Nat)(x0 x1:Int)(x2 x3 x4:LI):Option ((LI)×(LI)):=LL k 97 c23 j (K24 k) [frm 59 [(0,Sl 0),(1,In x0),(6,Sl 1),(7,Sl 2),(8,In x1)]] [Ro x2,Rw x3,Rw x4]
def aC.J1(k k1:Nat)(x0 x1:Int)(x2 x3 x4:LI):Option ((LI)×(LI)):=JJ k 97 c25 (K26 k k1) [frm 59 [(0,Sl 0),(1,In x0),(6,Sl 1),(7,Sl 2),(8,In x1)]] [Ro x2,Rw x3,Rw x4]
def aC.J2(k k1:Nat)(x0:Int)(x1 x2:Nat)(x3:Int)(x4 x5 x6:LI):Option ((LI)×(LI)):=JJ k 97 c25 (K26 k k1) [frm 59 [(0,Sl 0),(1,In x0),(6,Sl 1),(7,.sl 2 [] (Option.some (x1,x2))),(8,In x3)]] [Ro x4,Rw x5,Rw x6]
def aC.L3(k j:Nat)(x0:Int)(x1 x2:Nat)(x3:Int)(x4 x5 x6:LI):Option ((LI)×(LI)):=LL k 97 c23 j (K24 k) [frm 59 [(0,Sl 0),(1,In x0),(6,Sl 1),(7,.sl 2 [] (Option.some (x1,x2))),(8,In x3)]] [Ro x4,Rw x5,Rw x6]
theorem aC.eq(k:Nat)(a0 a1):aC (k+1) a0 a1=aC.L0 k k a1 0 a0 ([]:LI) ([]:LI):=by kernel_rfl
theorem aC.bt(k j:Nat)(x0 x1 x2 x3 x4):aC.L0 k (j+1) x0 x1 x2 x3 x4=T (D.lt x1 (O (N x2))) (T (D.le 0 x1) (T (U (V x1) (N x2)) (T (U (V x1) (N x2)) (T (D.eq (E x2 (V x1) 0) (Z .i64 (A x0 1))) (T (D.leN (N (D.app x4 (x1::([]:LI)))) 1099511627776) (aC.J1 k j x0 x1 x2 x3 (D.app x4 (x1::([]:LI)))) none) (T (D.le 0 x1) (T (U (V x1) (N x2)) (T (U (V x1) (N x2)) (T (D.eq (E x2 (V x1) 0) x0) (T (D.lt 0 (O (N x4))) (T (D.le 0 (Z .i64 (M (O (N x4)) 1))) (T (D.leN (V (Z .i64 (M (O (N x4)) 1))) (N x4)) (aC.J2 k j x0 0 (D.subN (V (Z .i64 (M (O (N x4)) 1))) 0) x1 x2 x3 x4) none) none) (T (D.le 0 x1) (T (U (V x1) (N x2)) (T (U (V x1) (N x2)) (T (D.eq (E x2 (V x1) 0) x0) (T (D.leN (N (D.app x3 (x1::([]:LI)))) 1099511627776) (aC.J1 k j x0 x1 x2 (D.app x3 (x1::([]:LI))) x4) none) (aC.J1 k j x0 x1 x2 x3 x4)) none) none) none)) (T (D.le 0 x1) (T (U (V x1) (N x2)) (T (U (V x1) (N x2)) (T (D.eq (E x2 (V x1) 0) x0) (T (D.leN (N (D.app x3 (x1::([]:LI)))) 1099511627776) (aC.J1 k j x0 x1 x2 (D.app x3 (x1::([]:LI))) x4) none) (aC.J1 k j x0 x1 x2 x3 x4)) none) none) none)) none) none) none)) none) none) none) (some (x3,x4)):=(jn _ _).trans (by kernel_rfl)
theorem aC.il(k k1:Nat)(x0 x1 x2 x3 x4):aC.J1 k k1 x0 x1 x2 x3 x4=aC.L0 k k1 x0 (Z .i64 (A x1 1)) x2 x3 x4:=(jn _ _).trans (by kernel_rfl)
theorem aC.lU(k k1:Nat)(x0 x1 x2 x3 x4 x5 x6):aC.J2 k k1 x0 x1 x2 x3 x4 x5 x6=aC.L3 k k1 x0 x1 x2 (Z .i64 (A x3 1)) x4 x5 x6:=(jn _ _).trans (by kernel_rfl)
theorem aC.EI(k j:Nat)(x0 x1 x2 x3 x4 x5 x6):aC.L3 k (j+1) x0 x1 x2 x3 x4 x5 x6=T (D.lt x3 (O (N x4))) (T (D.le 0 x3) (T (U (V x3) (N x4)) (T (U (V x3) (N x4)) (T (D.eq (E x4 (V x3) 0) (Z .i64 (A x0 1))) (T (D.leN (N (D.app (D.take x2 (D.drop x1 x6)) (x3::([]:LI)))) 1099511627776) (aC.J1 k j x0 x3 x4 x5 (D.app (D.take x2 (D.drop x1 x6)) (x3::([]:LI)))) none) (T (D.le 0 x3) (T (U (V x3) (N x4)) (T (U (V x3) (N x4)) (T (D.eq (E x4 (V x3) 0) x0) (T (D.lt 0 (O x2)) (T (D.le 0 (Z .i64 (M (O x2) 1))) (T (D.leN (V (Z .i64 (M (O x2) 1))) x2) (aC.J2 k j x0 (D.addN x1 0) (D.subN (V (Z .i64 (M (O x2) 1))) 0) x3 x4 x5 x6) none) none) (T (D.le 0 x3) (T (U (V x3) (N x4)) (T (U (V x3) (N x4)) (T (D.eq (E x4 (V x3) 0) x0) (T (D.leN (N (D.app x5 (x3::([]:LI)))) 1099511627776) (aC.J2 k j x0 x1 x2 x3 x4 (D.app x5 (x3::([]:LI))) x6) none) (aC.J2 k j x0 x1 x2 x3 x4 x5 x6)) none) none) none)) (T (D.le 0 x3) (T (U (V x3) (N x4)) (T (U (V x3) (N x4)) (T (D.eq (E x4 (V x3) 0) x0) (T (D.leN (N (D.app x5 (x3::([]:LI)))) 1099511627776) (aC.J2 k j x0 x1 x2 x3 x4 (D.app x5 (x3::([]:LI))) x6) none) (aC.J2 k j x0 x1 x2 x3 x4 x5 x6)) none) none) none)) none) none) none)) none) none) none) (some (x5,(D.take x2 (D.drop x1 x6)))):=(jn _ _).trans (by kernel_rfl)
def fu(k:Nat)(a0:LI)(a1:Int):Option ((LI)×Bool):=call k 63 (a0,a1)
theorem fu.eq(k:Nat)(a0 a1):fu (k+1) a0 a1=B (gL k a0 a1) fun r0=>T (D.no r0) (some (([]:LI),false)) (B (aC k a0 a1) fun r1=>T (D.eq (O (N r1.2)) 0) (some (([]:LI),false)) (T (D.leN (N (D.app ([]:LI) a0)) 1099511627776) (T (D.le 0 0) (T (U (V 0) (N r1.2)) (T (U (V 0) (N r1.2)) (T (D.le 0 (E r1.2 (V 0) 0)) (T (U (V (E r1.2 (V 0) 0)) (N (D.app ([]:LI) a0))) (T (U (V (E r1.2 (V 0) 0)) (N (D.app ([]:LI) a0))) (some ((D.set (D.app ([]:LI) a0) (V (E r1.2 (V 0) 0)) a1),true)) none) none) none) none) none) none) none)):=by kernel_rfl
def c27:Code:=cB (cB (cB (cQ P 33)))
def bT(k:Nat)(a0:LI):Option ((LI)×Bool):=call k 33 a0
def bT.L0(k j:Nat)(x0:Int)(x1:LI):Option ((LI)×Bool):=LL k 33 (cC (cC (cB (cA c27)))) j (bI 0 (JK k 33 (cB c27) (R0 33))) [frm 28 [(4,Sl 0),(5,In x0)]] [Rw x1]
theorem bT.eq(k:Nat)(a0):bT (k+1) a0=B (aT k a0) fun r0=>T (D.no r0) (some (([]:LI),false)) (T (D.leN (N (D.app ([]:LI) a0)) 1099511627776) (bT.L0 k k 1 (D.app ([]:LI) a0)) none):=by kernel_rfl
theorem bT.bt(k j:Nat)(x0 x1):bT.L0 k (j+1) x0 x1=T (D.lt x0 9) (B (fu k x1 x0) fun r1=>T r1.2 (bT.L0 k j 1 r1.1) (bT.L0 k j (Z .i64 (A x0 1)) x1)) (some (x1,true)):=(jn _ _).trans (by kernel_rfl)
def c28:Code:=cB (cB (cQ P 67))
def c29:Code:=cC (cC (cB (cA c28)))
def K30(k:Nat):cU (den (resTy P 67)):=bI 0 (JK k 67 (cB c28) (R0 67))
def c31:Code:=cB c29
def aG(k:Nat)(a0:LI):Option Bool:=call k 67 a0
def aG.L0(k j:Nat)(x0 x1:Int)(x2:LI):Option Bool:=LL k 67 c29 j (K30 k) [frm 41 [(0,Sl 0),(3,In x0),(4,In x1)]] [Ro x2]
def aG.J1(k k1:Nat)(x0 x1:Int)(x2:LI):Option Bool:=JJ k 67 (cB (cC (cA c31))) (bI 1 (JK k 67 (cB c31) (LK k 67 c29 k1 (K30 k)))) [frm 41 [(0,Sl 0),(3,In x0),(4,In x1)]] [Ro x2]
theorem aG.eq(k:Nat)(a0):aG (k+1) a0=aG.L0 k k 0 0 a0:=by kernel_rfl
theorem aG.bt(k j:Nat)(x0 x1 x2):aG.L0 k (j+1) x0 x1 x2=T (D.lt x1 (O (N x2))) (T (D.le 0 x1) (T (U (V x1) (N x2)) (T (U (V x1) (N x2)) (B (fp k (E x2 (V x1) 0) 1 9) fun r0=>T (D.no r0) (some false) (T (D.lt 0 x1) (T (D.le 0 x1) (T (U (V x1) (N x2)) (T (U (V x1) (N x2)) (T (D.le 0 (Z .i64 (M x1 1))) (T (U (V (Z .i64 (M x1 1))) (N x2)) (T (U (V (Z .i64 (M x1 1))) (N x2)) (T (D.lt (E x2 (V (Z .i64 (M x1 1))) 0) (E x2 (V x1) 0)) (some false) (aG.J1 k j x0 x1 x2)) none) none) none) none) none) none) (aG.J1 k j x0 x1 x2))) none) none) none) (some true):=(jn _ _).trans (by kernel_rfl)
theorem aG.il(k k1:Nat)(x0 x1 x2):aG.J1 k k1 x0 x1 x2=T (D.le 0 x1) (T (U (V x1) (N x2)) (T (U (V x1) (N x2)) (T (D.lt 9 (Z .i64 (A x0 (E x2 (V x1) 0)))) (some false) (aG.L0 k k1 (Z .i64 (A x0 (E x2 (V x1) 0))) (Z .i64 (A x1 1)) x2)) none) none) none:=(jn _ _).trans (by kernel_rfl)
def dD(k:Nat)(a0:LI)(a1:Int):Option Int:=call k 65 (a0,a1)
def dD.J0(k:Nat)(x0:Int)(x1:LI):Option Int:=JJ k 65 (cB (cB (cQ P 65))) (R0 65) [frm 17 [(0,Sl 0),(1,In x0)]] [Ro x1]
theorem dD.eq(k:Nat)(a0 a1):dD (k+1) a0 a1=T (D.lt a1 0) (some 0) (T (D.le (O (N a0)) a1) (some 0) (dD.J0 k a1 a0)):=by kernel_rfl
theorem dD.kF(k:Nat)(x0 x1):dD.J0 k x0 x1=T (D.le 0 x0) (T (U (V x0) (N x1)) (T (U (V x0) (N x1)) (some (E x1 (V x0) 0)) none) none) none:=(jn _ _).trans (by kernel_rfl)
def c32:Code:=cB (cB (cQ P 85))
def bC(k:Nat)(a0 a1:LI):Option Bool:=call k 85 (a0,a1)
def bC.J0(k:Nat)(x0 x1:LI):Option Bool:=JJ k 85 c32 (R0 85) [frm 36 [(0,Sl 0),(1,Sl 1)]] [Ro x0,Ro x1]
def bC.L1(k j:Nat)(x0:Int)(x1 x2:LI):Option Bool:=LL k 85 (cC (cC (cB (cA c32)))) j (bI 0 (JK k 85 (cB c32) (R0 85))) [frm 36 [(0,Sl 0),(1,Sl 1),(5,In x0)]] [Ro x1,Ro x2]
theorem bC.eq(k:Nat)(a0 a1):bC (k+1) a0 a1=B (aG k a0) fun r0=>T (D.no r0) (some false) (B (aG k a1) fun r1=>T (D.no r1) (some false) (T (D.lt (O (N a1)) (O (N a0))) (some false) (bC.J0 k a0 a1))):=by kernel_rfl
theorem bC.kF(k:Nat)(x0 x1):bC.J0 k x0 x1=bC.L1 k k 0 x0 x1:=(jn _ _).trans (by kernel_rfl)
theorem bC.fh(k j:Nat)(x0 x1 x2):bC.L1 k (j+1) x0 x1 x2=T (D.lt x0 (O (N x1))) (T (D.le 0 x0) (T (U (V x0) (N x1)) (T (U (V x0) (N x1)) (T (D.le 0 x0) (T (U (V x0) (N x2)) (T (U (V x0) (N x2)) (T (D.lt (E x2 (V x0) 0) (E x1 (V x0) 0)) (some false) (bC.L1 k j (Z .i64 (A x0 1)) x1 x2)) none) none) none) none) none) none) (some true):=(jn _ _).trans (by kernel_rfl)
def gQ(k:Nat)(a0:(LI)×(LI)):Option Bool:=call k 54 a0
theorem gQ.eq(k:Nat)(a0):gQ (k+1) a0=B (bC k a0.2 a0.1) fun r0=>some r0:=by kernel_rfl
def c33:Code:=cB (cB (cB (cQ P 70)))
def bD(k:Nat)(a0:(LI)×(LJ)):Option (((LI)×(LI))×Bool):=call k 70 a0
def bD.J0(k:Nat)(x0:LI)(x1:LJ)(x2 x3 x4 x5:LI):Option (((LI)×(LI))×Bool):=JJ k 70 c33 (R0 70) [frm 59 [(1,.pv 0 0),(2,.pv 1 0),(4,.pv 2 0)]] [.var [Sl 3,Sl 4],.var [Sl 5,Sl 6],.var [Sl 7,Sl 8],Ro x0,Roo x1,Rw x2,Rw x3,Rw x4,Rw x5]
def bD.L1(k j:Nat)(x0:Int)(x1:LI)(x2:LJ)(x3 x4 x5 x6:LI):Option (((LI)×(LI))×Bool):=LL k 70 (cC (cC (cB (cA c33)))) j (bI 0 (JK k 70 (cB c33) (R0 70))) [frm 59 [(1,.pv 0 0),(2,.pv 1 0),(4,.pv 2 0),(5,In x0)]] [.var [Sl 3,Sl 4],.var [Sl 5,Sl 6],.var [Sl 7,Sl 8],Ro x1,Roo x2,Rw x3,Rw x4,Rw x5,Rw x6]
theorem bD.eq(k:Nat)(a0):bD (k+1) a0=T (D.leN (N (D.app ([]:LI) a0.1)) 1099511627776) (B (aG k a0.1) fun r0=>T (D.no r0) (some ((([]:LI),([]:LI)),false)) (T (D.lt (O (N a0.2)) (O (N a0.1))) (some ((([]:LI),([]:LI)),false)) (T (D.lt 9 (O (N a0.2))) (some ((([]:LI),([]:LI)),false)) (bD.J0 k a0.1 a0.2 ([]:LI) ([]:LI) ([]:LI) (D.app ([]:LI) a0.1))))) none:=by kernel_rfl
theorem bD.kF(k:Nat)(x0 x1 x2 x3 x4 x5):bD.J0 k x0 x1 x2 x3 x4 x5=bD.L1 k k 0 x0 x1 x2 x3 x4 x5:=(jn _ _).trans (by kernel_rfl)
theorem bD.fh(k j:Nat)(x0 x1 x2 x3 x4 x5 x6):bD.L1 k (j+1) x0 x1 x2 x3 x4 x5 x6=T (D.lt x0 (O (N x2))) (B (dD k x1 x0) fun r1=>T (D.le 0 x0) (T (U (V x0) (N x2)) (T (U (V x0) (N x2)) (T (U (V x0) (N x2)) (T (D.leN (N (D.app x5 ((Z .i64 (A r1 (O (N (E x2 (V x0) [])))))::([]:LI)))) 1099511627776) (bD.L1 k j (Z .i64 (A x0 1)) x1 x2 x3 x4 (D.app x5 ((Z .i64 (A r1 (O (N (E x2 (V x0) [])))))::([]:LI))) x6) none) none) none) none) none) (B (gQ k (x5,x6)) fun r2=>T (D.no r2) (some ((([]:LI),([]:LI)),false)) (some ((x5,x6),true))):=(jn _ _).trans (by kernel_rfl)
def c34:Code:=cB (cB (cQ P 98))
def b9(k:Nat)(a0:(LI)×(LJ))(a1 a2:Int):Option Int:=call k 98 (a0,a1,a2)
def b9.J0(k:Nat)(x0 x1:Int)(x2:LI)(x3:LJ):Option Int:=JJ k 98 c34 (R0 98) [frm 43 [(1,In x0),(2,In x1),(3,.pv 0 0)]] [.var [Sl 1,Sl 2],Ro x2,Roo x3]
def b9.J1(k:Nat)(x0 x1:Int)(x2:LI)(x3:LJ):Option Int:=JJ k 98 (cB (cB c34)) (R0 98) [frm 43 [(1,In x0),(3,.pv 0 0),(7,In x1)]] [.var [Sl 1,Sl 2],Ro x2,Roo x3]
theorem b9.eq(k:Nat)(a0 a1 a2):b9 (k+1) a0 a1 a2=T (D.lt a1 0) (some 0) (T (D.le (O (N a0.2)) a1) (some 0) (b9.J0 k a1 a2 a0.1 a0.2)):=by kernel_rfl
theorem b9.kF(k:Nat)(x0 x1 x2 x3):b9.J0 k x0 x1 x2 x3=B (dD k x2 x0) fun r0=>T (D.lt (Z .i64 (M x1 r0)) 0) (some 0) (T (D.le 0 x0) (T (U (V x0) (N x3)) (T (U (V x0) (N x3)) (T (U (V x0) (N x3)) (T (D.le (O (N (E x3 (V x0) []))) (Z .i64 (M x1 r0))) (some 0) (b9.J1 k x0 (Z .i64 (M x1 r0)) x2 x3)) none) none) none) none):=(jn _ _).trans (by kernel_rfl)
theorem b9.il(k:Nat)(x0 x1 x2 x3):b9.J1 k x0 x1 x2 x3=T (D.le 0 x0) (T (U (V x0) (N x3)) (T (U (V x0) (N x3)) (T (U (V x0) (N x3)) (T (D.le 0 x1) (T (U (V x1) (N (E x3 (V x0) []))) (T (U (V x0) (N x3)) (T (U (V x1) (N (E x3 (V x0) []))) (some (E (E x3 (V x0) []) (V x1) 0)) none) none) none) none) none) none) none) none:=(jn _ _).trans (by kernel_rfl)
def c35:Code:=cB (cB (cB (cQ P 64)))
def c36:Code:=cC (cC (cB (cA c35)))
def K37(k:Nat):cU (den (resTy P 64)):=bI 0 (JK k 64 (cB c35) (R0 64))
def c38:Code:=cB c36
def c39:Code:=cC (cC (cB (cC (cA c38))))
def K40(k k1:Nat):cU (den (resTy P 64)):=bI 2 (bI 1 (JK k 64 (cB c38) (LK k 64 c36 k1 (K37 k))))
def c41:Code:=cB c39
def c42:Code:=cB c41
def K43(k k1 k2:Nat):cU (den (resTy P 64)):=LK k 64 c39 k2 (K40 k k1)
def az(k:Nat)(a0:(LI)×(LJ)):Option Bool:=call k 64 a0
def az.L0(k j:Nat)(x0:Int)(x1:LI)(x2:LJ)(x3 x4:LI):Option Bool:=LL k 64 c36 j (K37 k) [frm 64 [(1,.pv 0 0),(3,.pv 1 0),(5,In x0)]] [.var [Sl 2,Sl 3],.var [Sl 4,Sl 5],Ro x1,Roo x2,Rw x3,Rw x4]
def az.L1(k k1 j:Nat)(x0 x1:Int)(x2:LI)(x3:LJ)(x4 x5:LI):Option Bool:=LL k 64 c39 j (K40 k k1) [frm 64 [(1,.pv 0 0),(3,.pv 1 0),(5,In x0),(6,In x1)]] [.var [Sl 2,Sl 3],.var [Sl 4,Sl 5],Ro x2,Roo x3,Rw x4,Rw x5]
def az.J2(k k1 k2:Nat)(x0 x1 x2 x3:Int)(x4:LI)(x5:LJ)(x6 x7:LI):Option Bool:=JJ k 64 (cB (cB (cB (cC (cA c41))))) (bI 3 (JK k 64 c42 (K43 k k1 k2))) [frm 64 [(1,.pv 0 0),(3,.pv 1 0),(5,In x0),(6,In x1),(7,In x2),(8,In x3)]] [.var [Sl 2,Sl 3],.var [Sl 4,Sl 5],Ro x4,Roo x5,Rw x6,Rw x7]
def az.J3(k k1 k2:Nat)(x0 x1:Int)(x2:LI)(x3:LJ)(x4 x5:LI):Option Bool:=JJ k 64 c42 (K43 k k1 k2) [frm 64 [(1,.pv 0 0),(3,.pv 1 0),(5,In x0),(6,In x1)]] [.var [Sl 2,Sl 3],.var [Sl 4,Sl 5],Ro x2,Roo x3,Rw x4,Rw x5]
theorem az.eq(k:Nat)(a0):az (k+1) a0=B (bD k (a0.1,a0.2)) fun r0=>T (D.no r0.2) (some false) (az.L0 k k 0 a0.1 a0.2 r0.1.1 r0.1.2):=by kernel_rfl
theorem az.bt(k j:Nat)(x0 x1 x2 x3 x4):az.L0 k (j+1) x0 x1 x2 x3 x4=T (D.lt x0 (O (N x3))) (B (dD k x4 x0) fun r1=>az.L1 k j k x0 r1 x1 x2 x3 x4) (some true):=(jn _ _).trans (by kernel_rfl)
theorem az.fh(k k1 j:Nat)(x0 x1 x2 x3 x4 x5):az.L1 k k1 (j+1) x0 x1 x2 x3 x4 x5=T (D.le 0 x0) (T (U (V x0) (N x4)) (T (U (V x0) (N x4)) (T (D.lt x1 (E x4 (V x0) 0)) (B (b9 k (x2,x3) x0 x1) fun r2=>T (D.lt 0 x1) (B (b9 k (x2,x3) x0 (Z .i64 (M x1 1))) fun r3=>az.J2 k k1 j x0 x1 r2 r3 x2 x3 x4 x5) (az.J2 k k1 j x0 x1 r2 0 x2 x3 x4 x5)) (az.L0 k k1 (Z .i64 (A x0 1)) x2 x3 x4 x5)) none) none) none:=(jn _ _).trans (by kernel_rfl)
theorem az.lU(k k1 k2:Nat)(x0 x1 x2 x3 x4 x5 x6 x7):az.J2 k k1 k2 x0 x1 x2 x3 x4 x5 x6 x7=B (fp k x2 1 9) fun r4=>T (D.no r4) (some false) (T (D.lt x2 x3) (some false) (B (b9 k (x4,x5) (Z .i64 (M x0 1)) x1) fun r5=>T (D.le x2 r5) (some false) (az.J3 k k1 k2 x0 x1 x4 x5 x6 x7))):=(jn _ _).trans (by kernel_rfl)
theorem az.yF(k k1 k2:Nat)(x0 x1 x2 x3 x4 x5):az.J3 k k1 k2 x0 x1 x2 x3 x4 x5=az.L1 k k1 k2 x0 (Z .i64 (A x1 1)) x2 x3 x4 x5:=(jn _ _).trans (by kernel_rfl)
def c44:Code:=cB (cB (cQ P 66))
def c45:Code:=cC (cC (cB (cA c44)))
def K46(k:Nat):cU (den (resTy P 66)):=bI 0 (JK k 66 (cB c44) (R0 66))
def c47:Code:=cB c45
def cw(k:Nat)(a0:List ByteArray)(a1:ByteArray):Option ByteArray:=call k 66 (a0,a1)
def cw.L0(k j:Nat)(x0:ByteArray)(x1:Int)(x2:List ByteArray)(x3:LI):Option ByteArray:=LL k 66 c45 j (K46 k) [frm 27 [(0,Sl 0),(1,.str x0),(5,Sl 1),(6,In x1)]] [.row Bool.false .str x2,.row Bool.true (.int .u8) x3]
def cw.J1(k k1:Nat)(x0:ByteArray)(x1:Int)(x2:List ByteArray)(x3:LI):Option ByteArray:=JJ k 66 (cB (cC (cA c47))) (bI 1 (JK k 66 (cB c47) (LK k 66 c45 k1 (K46 k)))) [frm 27 [(0,Sl 0),(1,.str x0),(5,Sl 1),(6,In x1)]] [.row Bool.false .str x2,.row Bool.true (.int .u8) x3]
theorem cw.eq(k:Nat)(a0 a1):cw (k+1) a0 a1=cw.L0 k k a1 0 a0 ([]:LI):=by kernel_rfl
theorem cw.bt(k j:Nat)(x0 x1 x2 x3):cw.L0 k (j+1) x0 x1 x2 x3=T (D.lt x1 (O (N x2))) (T (D.lt 0 x1) (T (D.leN (N (D.app x3 (D.ints x0))) 1099511627776) (cw.J1 k j x0 x1 x2 (D.app x3 (D.ints x0))) none) (cw.J1 k j x0 x1 x2 x3)) (some (D.ofInts x3)):=(jn _ _).trans (by kernel_rfl)
theorem cw.il(k k1:Nat)(x0 x1 x2 x3):cw.J1 k k1 x0 x1 x2 x3=T (D.le 0 x1) (T (U (V x1) (N x2)) (T (U (V x1) (N x2)) (T (D.leN (N (D.app x3 (D.ints (E x2 (V x1) (⟨#[]⟩:ByteArray))))) 1099511627776) (cw.L0 k k1 x0 (Z .i64 (A x1 1)) x2 (D.app x3 (D.ints (E x2 (V x1) (⟨#[]⟩:ByteArray))))) none) none) none) none:=(jn _ _).trans (by kernel_rfl)
def c48:Code:=cB (cB (cB (cB (cQ P 37))))
def c49:Code:=cC (cC (cA c48))
def K50(k:Nat):cU (den (resTy P 37)):=bI 0 (JK k 37 (cB c48) (R0 37))
def aN(k:Nat)(a0:Int):Option ByteArray:=call k 37 a0
def aN.L0(k j:Nat)(x0:Int)(x1:Bool)(x2:ByteArray):Option ByteArray:=LL k 37 c49 j (K50 k) [frm 31 [(0,In x0),(3,.bool x1),(4,.str x2)]] []
def aN.J1(k k1:Nat)(x0:Int)(x1:Bool)(x2:ByteArray)(x3:Int):Option ByteArray:=JJ k 37 (cB (cB (cC (cB c49)))) (bI 1 (LK k 37 c49 k1 (K50 k))) [frm 31 [(0,In x0),(3,.bool x1),(4,.str x2),(5,In x3)]] []
theorem aN.eq(k:Nat)(a0):aN (k+1) a0=T (D.eq a0 0) (some (⟨#[48]⟩:ByteArray)) (aN.L0 k k a0 (D.lt a0 0) (⟨#[]⟩:ByteArray)):=by kernel_rfl
theorem aN.bt(k j:Nat)(x0 x1 x2):aN.L0 k (j+1) x0 x1 x2=T (D.no (D.eq x0 0)) (T (D.no (D.eq 10 0)) (T (D.lt (D.rem x0 10) 0) (aN.J1 k j x0 x1 x2 (Z .i64 (M 0 (D.rem x0 10)))) (aN.J1 k j x0 x1 x2 (D.rem x0 10))) none) (T x1 (T (D.leN (D.addN (D.lenS (⟨#[45]⟩:ByteArray)) (D.lenS x2)) 1099511627776) (some (D.catS (⟨#[45]⟩:ByteArray) x2)) none) (some x2)):=(jn _ _).trans (by kernel_rfl)
theorem aN.il(k k1:Nat)(x0 x1 x2 x3):aN.J1 k k1 x0 x1 x2 x3=T (D.leN (D.addN (D.lenS (D.ofInts ((Z .u8 (Z .i64 (A 48 x3)))::([]:LI)))) (D.lenS x2)) 1099511627776) (T (D.no (D.eq 10 0)) (aN.L0 k k1 (Z .i64 (D.quo x0 10)) x1 (D.catS (D.ofInts ((Z .u8 (Z .i64 (A 48 x3)))::([]:LI))) x2)) none) none:=(jn _ _).trans (by kernel_rfl)
def c51:Code:=cB (cB (cB (cB (cQ P 34))))
def c52:Code:=cC (cC (cB (cA c51)))
def K53(k:Nat):cU (den (resTy P 34)):=bI 0 (JK k 34 (cB c51) (R0 34))
def c54:Code:=cB c52
def c55:Code:=cB (cC (cA c54))
def c56:Code:=cB c55
def K57(k k1:Nat):cU (den (resTy P 34)):=bI 1 (JK k 34 (cB c54) (LK k 34 c52 k1 (K53 k)))
def ao(k:Nat)(a0:(LI)×(LJ)):Option ByteArray:=call k 34 a0
def ao.L0(k j:Nat)(x0:Int)(x1:List ByteArray)(x2:LI)(x3:LJ):Option ByteArray:=LL k 34 c52 j (K53 k) [frm 60 [(1,.pv 0 0),(3,Sl 1),(4,In x0)]] [.var [Sl 2,Sl 3],.row Bool.true .str x1,Ro x2,Roo x3]
def ao.L1(k k1 j:Nat)(x0:Int)(x1:ByteArray)(x2:Int)(x3:List ByteArray)(x4:LI)(x5:LJ):Option ByteArray:=LL k 34 (cC (cC (cB (cA c55)))) j (bI 2 (JK k 34 c56 (K57 k k1))) [frm 60 [(1,.pv 0 0),(3,Sl 1),(4,In x0),(5,.str x1),(6,In x2)]] [.var [Sl 2,Sl 3],.row Bool.true .str x3,Ro x4,Roo x5]
def ao.L2(k k1 j:Nat)(x0:Int)(x1:ByteArray)(x2:Int)(x3:List ByteArray)(x4:LI)(x5:LJ):Option ByteArray:=LL k 34 (cC (cC (cB (cA c56)))) j (bI 4 (JK k 34 (cB c56) (K57 k k1))) [frm 60 [(1,.pv 0 0),(3,Sl 1),(4,In x0),(5,.str x1),(7,In x2)]] [.var [Sl 2,Sl 3],.row Bool.true .str x3,Ro x4,Roo x5]
theorem ao.eq(k:Nat)(a0):ao (k+1) a0=B (az k (a0.1,a0.2)) fun r0=>T (D.no r0) (some (⟨#[]⟩:ByteArray)) (T (D.eq (O (N a0.2)) 0) (some (⟨#[45]⟩:ByteArray)) (ao.L0 k k 0 ([]:List ByteArray) a0.1 a0.2)):=by kernel_rfl
theorem ao.bt(k j:Nat)(x0 x1 x2 x3):ao.L0 k (j+1) x0 x1 x2 x3=T (D.lt x0 (O (N x3))) (ao.L1 k j k x0 (⟨#[]⟩:ByteArray) 0 x1 x2 x3) (B (cw k x1 (⟨#[47]⟩:ByteArray)) fun r1=>some r1):=(jn _ _).trans (by kernel_rfl)
theorem ao.fh(k k1 j:Nat)(x0 x1 x2 x3 x4 x5):ao.L1 k k1 (j+1) x0 x1 x2 x3 x4 x5=B (dD k x4 x0) fun r2=>T (D.lt x2 r2) (T (D.leN (D.addN (D.lenS x1) (D.lenS (⟨#[46]⟩:ByteArray))) 1099511627776) (ao.L1 k k1 j x0 (D.catS x1 (⟨#[46]⟩:ByteArray)) (Z .i64 (A x2 1)) x3 x4 x5) none) (ao.L2 k k1 k x0 x1 0 x3 x4 x5):=(jn _ _).trans (by kernel_rfl)
theorem ao.Ey(k k1 j:Nat)(x0 x1 x2 x3 x4 x5):ao.L2 k k1 (j+1) x0 x1 x2 x3 x4 x5=T (D.le 0 x0) (T (U (V x0) (N x5)) (T (U (V x0) (N x5)) (T (U (V x0) (N x5)) (T (D.lt x2 (O (N (E x5 (V x0) [])))) (T (D.le 0 x0) (T (U (V x0) (N x5)) (T (U (V x0) (N x5)) (T (U (V x0) (N x5)) (T (D.le 0 x2) (T (U (V x2) (N (E x5 (V x0) []))) (T (U (V x0) (N x5)) (T (U (V x2) (N (E x5 (V x0) []))) (B (aN k (E (E x5 (V x0) []) (V x2) 0)) fun r3=>T (D.leN (D.addN (D.lenS x1) (D.lenS r3)) 1099511627776) (ao.L2 k k1 j x0 (D.catS x1 r3) (Z .i64 (A x2 1)) x3 x4 x5) none) none) none) none) none) none) none) none) none) (T (D.leN (N (D.app x3 (x1::([]:List ByteArray)))) 1099511627776) (ao.L0 k k1 (Z .i64 (A x0 1)) (D.app x3 (x1::([]:List ByteArray))) x4 x5) none)) none) none) none) none:=(jn _ _).trans (by kernel_rfl)
def eY(k:Nat)(a0:LI):Option (((LI)×(LJ))×Bool):=call k 69 a0
theorem eY.eq(k:Nat)(a0):eY (k+1) a0=B (aT k a0) fun r0=>T (D.no r0) (some ((([]:LI),([]:LJ)),false)) (B (bn k a0) fun r1=>some ((r1.1.1,r1.1.2),true)):=by kernel_rfl
def eC(k:Nat)(a0:LI):Option LI:=call k 36 a0
theorem eC.eq(k:Nat)(a0):eC (k+1) a0=B (eY k a0) fun r0=>T (D.no r0.2) (some ([]:LI)) (B (bD k (r0.1.1,r0.1.2)) fun r1=>T (D.leN (N (D.app ([]:LI) r1.1.1)) 1099511627776) (some (D.app ([]:LI) r1.1.1)) none):=by kernel_rfl
def c58:Code:=cB (cB (cQ P 68))
def cm(k:Nat)(a0:LI):Option ByteArray:=call k 68 a0
def cm.L0(k j:Nat)(x0:Int)(x1:LI)(x2:List ByteArray):Option ByteArray:=LL k 68 (cC (cC (cB (cA c58)))) j (bI 0 (JK k 68 (cB c58) (R0 68))) [frm 22 [(0,Sl 0),(3,Sl 1),(4,In x0)]] [Ro x1,.row Bool.true .str x2]
theorem cm.eq(k:Nat)(a0):cm (k+1) a0=cm.L0 k k 0 a0 ([]:List ByteArray):=by kernel_rfl
theorem cm.bt(k j:Nat)(x0 x1 x2):cm.L0 k (j+1) x0 x1 x2=T (D.lt x0 (O (N x1))) (T (D.le 0 x0) (T (U (V x0) (N x1)) (T (U (V x0) (N x1)) (B (aN k (E x1 (V x0) 0)) fun r0=>T (D.leN (N (D.app x2 (r0::([]:List ByteArray)))) 1099511627776) (cm.L0 k j (Z .i64 (A x0 1)) x1 (D.app x2 (r0::([]:List ByteArray)))) none) none) none) none) (B (cw k x2 (⟨#[44]⟩:ByteArray)) fun r1=>some r1):=(jn _ _).trans (by kernel_rfl)
def dQ(k:Nat)(a0:LI):Option ByteArray:=call k 35 a0
theorem dQ.eq(k:Nat)(a0):dQ (k+1) a0=B (aG k a0) fun r0=>T (D.no r0) (some (⟨#[]⟩:ByteArray)) (T (D.eq (O (N a0)) 0) (some (⟨#[45]⟩:ByteArray)) (B (cm k a0) fun r1=>some r1)):=by kernel_rfl
def gH(k:Nat)(a0:Bool):Option Int:=call k 71 a0
theorem gH.eq(k:Nat)(a0):gH (k+1) a0=T a0 (some 1) (some 0):=by kernel_rfl
def c59:Code:=cB (cB (cB (cQ P 38)))
def c60:Code:=cC (cC (cB (cA c59)))
def K61(k:Nat):cU (den (resTy P 38)):=bI 0 (JK k 38 (cB c59) (R0 38))
def c62:Code:=cB c60
def ay(k:Nat)(a0:LI):Option Int:=call k 38 a0
def ay.L0(k j:Nat)(x0 x1:Int)(x2:LI):Option Int:=LL k 38 c60 j (K61 k) [frm 33 [(0,Sl 0),(3,In x0),(4,In x1)]] [Ro x2]
def ay.L1(k k1 j:Nat)(x0 x1 x2:Int)(x3:LI):Option Int:=LL k 38 (cC (cC (cB (cC (cA c62))))) j (bI 2 (bI 1 (JK k 38 (cB c62) (LK k 38 c60 k1 (K61 k))))) [frm 33 [(0,Sl 0),(3,In x0),(4,In x1),(5,In x2)]] [Ro x3]
theorem ay.eq(k:Nat)(a0):ay (k+1) a0=B (aT k a0) fun r0=>T (D.no r0) (some (-1)) (ay.L0 k k 0 1 a0):=by kernel_rfl
theorem ay.bt(k j:Nat)(x0 x1 x2):ay.L0 k (j+1) x0 x1 x2=T (D.lt x1 (O (N x2))) (ay.L1 k j k x0 x1 0 x2) (some x0):=(jn _ _).trans (by kernel_rfl)
theorem ay.fh(k k1 j:Nat)(x0 x1 x2 x3):ay.L1 k k1 (j+1) x0 x1 x2 x3=T (D.lt x2 x1) (T (D.le 0 x2) (T (U (V x2) (N x3)) (T (U (V x2) (N x3)) (T (D.le 0 x1) (T (U (V x1) (N x3)) (T (U (V x1) (N x3)) (B (gH k (D.lt (E x3 (V x1) 0) (E x3 (V x2) 0))) fun r1=>ay.L1 k k1 j (Z .i64 (A x0 r1)) x1 (Z .i64 (A x2 1)) x3) none) none) none) none) none) none) (ay.L0 k k1 x0 (Z .i64 (A x1 1)) x3):=(jn _ _).trans (by kernel_rfl)
def c63:Code:=cB (cB (cB (cQ P 39)))
def bF(k:Nat)(a0:LI):Option Int:=call k 39 a0
def bF.L0(k j:Nat)(x0 x1:Int)(x2:LI):Option Int:=LL k 39 (cC (cC (cB (cA c63)))) j (bI 0 (JK k 39 (cB c63) (R0 39))) [frm 30 [(0,Sl 0),(3,In x0),(4,In x1)]] [Ro x2]
theorem bF.eq(k:Nat)(a0):bF (k+1) a0=B (aT k a0) fun r0=>T (D.no r0) (some (-1)) (bF.L0 k k 0 1 a0):=by kernel_rfl
theorem bF.bt(k j:Nat)(x0 x1 x2):bF.L0 k (j+1) x0 x1 x2=T (D.lt x1 (O (N x2))) (T (D.le 0 (Z .i64 (M x1 1))) (T (U (V (Z .i64 (M x1 1))) (N x2)) (T (U (V (Z .i64 (M x1 1))) (N x2)) (T (D.le 0 x1) (T (U (V x1) (N x2)) (T (U (V x1) (N x2)) (B (gH k (D.lt (E x2 (V x1) 0) (E x2 (V (Z .i64 (M x1 1))) 0))) fun r1=>bF.L0 k j (Z .i64 (A x0 (Z .i64 (D.mul x1 r1)))) (Z .i64 (A x1 1)) x2) none) none) none) none) none) none) (some x0):=(jn _ _).trans (by kernel_rfl)
def c64:Code:=cB (cB (cB (cB (cQ P 40))))
def cl(k:Nat)(a0:LI):Option ByteArray:=call k 40 a0
def cl.L0(k j:Nat)(x0:ByteArray)(x1:Int)(x2:LI):Option ByteArray:=LL k 40 (cC (cC (cB (cA c64)))) j (bI 0 (JK k 40 (cB c64) (R0 40))) [frm 25 [(0,Sl 0),(3,.str x0),(4,In x1)]] [Ro x2]
theorem cl.eq(k:Nat)(a0):cl (k+1) a0=B (aT k a0) fun r0=>T (D.no r0) (some (⟨#[]⟩:ByteArray)) (T (D.eq (O (N a0)) 0) (some (⟨#[45]⟩:ByteArray)) (cl.L0 k k (⟨#[]⟩:ByteArray) 0 a0)):=by kernel_rfl
theorem cl.bt(k j:Nat)(x0 x1 x2):cl.L0 k (j+1) x0 x1 x2=T (D.lt x1 (O (N x2))) (T (D.le 0 x1) (T (U (V x1) (N x2)) (T (U (V x1) (N x2)) (B (aN k (E x2 (V x1) 0)) fun r1=>T (D.leN (D.addN (D.lenS x0) (D.lenS r1)) 1099511627776) (cl.L0 k j (D.catS x0 r1) (Z .i64 (A x1 1)) x2) none) none) none) none) (some x0):=(jn _ _).trans (by kernel_rfl)
def bz(k:Nat)(a0:LI):Option ByteArray:=call k 12 a0
def bz.J0(k:Nat)(x0:ByteArray)(x1 x2:LI)(x3:LJ)(x4:LI)(x5:LJ):Option ByteArray:=JJ k 12 (cB (cB (cB (cB (cB (cQ P 12)))))) (R0 12) [frm 52 [(0,Sl 0),(3,.pv 1 0),(4,.pv 2 0),(5,.str x0)]] [Ro x1,.var [Sl 3,Sl 4],.var [Sl 5,Sl 6],Rw x2,Rww x3,Rw x4,Rww x5]
theorem bz.eq(k:Nat)(a0):bz (k+1) a0=B (aT k a0) fun r0=>T (D.no r0) (some (⟨#[]⟩:ByteArray)) (B (bn k a0) fun r1=>B (aM k a0) fun r2=>T r2 (bz.J0 k (⟨#[108,97,116,116,105,99,101]⟩:ByteArray) a0 r1.1.1 r1.1.2 r1.2.1 r1.2.2) (bz.J0 k (⟨#[111,116,104,101,114]⟩:ByteArray) a0 r1.1.1 r1.1.2 r1.2.1 r1.2.2)):=by kernel_rfl
theorem bz.kF(k:Nat)(x0 x1 x2 x3 x4 x5):bz.J0 k x0 x1 x2 x3 x4 x5=B (bT k x1) fun r3=>B (ao k (x2,x3)) fun r4=>T (D.leN (D.addN (D.lenS (⟨#[105,110,115,101,114,116,32]⟩:ByteArray)) (D.lenS r4)) 1099511627776) (T (D.leN (D.addN (D.lenS (D.catS (⟨#[105,110,115,101,114,116,32]⟩:ByteArray) r4)) (D.lenS (⟨#[32,114,101,99,111,114,100,32]⟩:ByteArray))) 1099511627776) (B (ao k (x4,x5)) fun r5=>T (D.leN (D.addN (D.lenS (D.catS (D.catS (⟨#[105,110,115,101,114,116,32]⟩:ByteArray) r4) (⟨#[32,114,101,99,111,114,100,32]⟩:ByteArray))) (D.lenS r5)) 1099511627776) (T (D.leN (D.addN (D.lenS (D.catS (D.catS (D.catS (⟨#[105,110,115,101,114,116,32]⟩:ByteArray) r4) (⟨#[32,114,101,99,111,114,100,32]⟩:ByteArray)) r5)) (D.lenS (⟨#[32,115,104,97,112,101,32]⟩:ByteArray))) 1099511627776) (B (eC k x1) fun r6=>B (dQ k r6) fun r7=>T (D.leN (D.addN (D.lenS (D.catS (D.catS (D.catS (D.catS (⟨#[105,110,115,101,114,116,32]⟩:ByteArray) r4) (⟨#[32,114,101,99,111,114,100,32]⟩:ByteArray)) r5) (⟨#[32,115,104,97,112,101,32]⟩:ByteArray))) (D.lenS r7)) 1099511627776) (T (D.leN (D.addN (D.lenS (D.catS (D.catS (D.catS (D.catS (D.catS (⟨#[105,110,115,101,114,116,32]⟩:ByteArray) r4) (⟨#[32,114,101,99,111,114,100,32]⟩:ByteArray)) r5) (⟨#[32,115,104,97,112,101,32]⟩:ByteArray)) r7)) (D.lenS (⟨#[32,105,110,118,101,114,115,105,111,110,115,32]⟩:ByteArray))) 1099511627776) (B (ay k x1) fun r8=>B (aN k r8) fun r9=>T (D.leN (D.addN (D.lenS (D.catS (D.catS (D.catS (D.catS (D.catS (D.catS (⟨#[105,110,115,101,114,116,32]⟩:ByteArray) r4) (⟨#[32,114,101,99,111,114,100,32]⟩:ByteArray)) r5) (⟨#[32,115,104,97,112,101,32]⟩:ByteArray)) r7) (⟨#[32,105,110,118,101,114,115,105,111,110,115,32]⟩:ByteArray))) (D.lenS r9)) 1099511627776) (T (D.leN (D.addN (D.lenS (D.catS (D.catS (D.catS (D.catS (D.catS (D.catS (D.catS (⟨#[105,110,115,101,114,116,32]⟩:ByteArray) r4) (⟨#[32,114,101,99,111,114,100,32]⟩:ByteArray)) r5) (⟨#[32,115,104,97,112,101,32]⟩:ByteArray)) r7) (⟨#[32,105,110,118,101,114,115,105,111,110,115,32]⟩:ByteArray)) r9)) (D.lenS (⟨#[32,109,97,106,111,114,32]⟩:ByteArray))) 1099511627776) (B (bF k x1) fun r10=>B (aN k r10) fun r11=>T (D.leN (D.addN (D.lenS (D.catS (D.catS (D.catS (D.catS (D.catS (D.catS (D.catS (D.catS (⟨#[105,110,115,101,114,116,32]⟩:ByteArray) r4) (⟨#[32,114,101,99,111,114,100,32]⟩:ByteArray)) r5) (⟨#[32,115,104,97,112,101,32]⟩:ByteArray)) r7) (⟨#[32,105,110,118,101,114,115,105,111,110,115,32]⟩:ByteArray)) r9) (⟨#[32,109,97,106,111,114,32]⟩:ByteArray))) (D.lenS r11)) 1099511627776) (T (D.leN (D.addN (D.lenS (D.catS (D.catS (D.catS (D.catS (D.catS (D.catS (D.catS (D.catS (D.catS (⟨#[105,110,115,101,114,116,32]⟩:ByteArray) r4) (⟨#[32,114,101,99,111,114,100,32]⟩:ByteArray)) r5) (⟨#[32,115,104,97,112,101,32]⟩:ByteArray)) r7) (⟨#[32,105,110,118,101,114,115,105,111,110,115,32]⟩:ByteArray)) r9) (⟨#[32,109,97,106,111,114,32]⟩:ByteArray)) r11)) (D.lenS (⟨#[32]⟩:ByteArray))) 1099511627776) (T (D.leN (D.addN (D.lenS (D.catS (D.catS (D.catS (D.catS (D.catS (D.catS (D.catS (D.catS (D.catS (D.catS (⟨#[105,110,115,101,114,116,32]⟩:ByteArray) r4) (⟨#[32,114,101,99,111,114,100,32]⟩:ByteArray)) r5) (⟨#[32,115,104,97,112,101,32]⟩:ByteArray)) r7) (⟨#[32,105,110,118,101,114,115,105,111,110,115,32]⟩:ByteArray)) r9) (⟨#[32,109,97,106,111,114,32]⟩:ByteArray)) r11) (⟨#[32]⟩:ByteArray))) (D.lenS x0)) 1099511627776) (T (D.leN (D.addN (D.lenS (D.catS (D.catS (D.catS (D.catS (D.catS (D.catS (D.catS (D.catS (D.catS (D.catS (D.catS (⟨#[105,110,115,101,114,116,32]⟩:ByteArray) r4) (⟨#[32,114,101,99,111,114,100,32]⟩:ByteArray)) r5) (⟨#[32,115,104,97,112,101,32]⟩:ByteArray)) r7) (⟨#[32,105,110,118,101,114,115,105,111,110,115,32]⟩:ByteArray)) r9) (⟨#[32,109,97,106,111,114,32]⟩:ByteArray)) r11) (⟨#[32]⟩:ByteArray)) x0)) (D.lenS (⟨#[32,104,105,103,104,101,115,116,32]⟩:ByteArray))) 1099511627776) (B (cl k r3.1) fun r12=>T (D.leN (D.addN (D.lenS (D.catS (D.catS (D.catS (D.catS (D.catS (D.catS (D.catS (D.catS (D.catS (D.catS (D.catS (D.catS (⟨#[105,110,115,101,114,116,32]⟩:ByteArray) r4) (⟨#[32,114,101,99,111,114,100,32]⟩:ByteArray)) r5) (⟨#[32,115,104,97,112,101,32]⟩:ByteArray)) r7) (⟨#[32,105,110,118,101,114,115,105,111,110,115,32]⟩:ByteArray)) r9) (⟨#[32,109,97,106,111,114,32]⟩:ByteArray)) r11) (⟨#[32]⟩:ByteArray)) x0) (⟨#[32,104,105,103,104,101,115,116,32]⟩:ByteArray))) (D.lenS r12)) 1099511627776) (some (D.catS (D.catS (D.catS (D.catS (D.catS (D.catS (D.catS (D.catS (D.catS (D.catS (D.catS (D.catS (D.catS (⟨#[105,110,115,101,114,116,32]⟩:ByteArray) r4) (⟨#[32,114,101,99,111,114,100,32]⟩:ByteArray)) r5) (⟨#[32,115,104,97,112,101,32]⟩:ByteArray)) r7) (⟨#[32,105,110,118,101,114,115,105,111,110,115,32]⟩:ByteArray)) r9) (⟨#[32,109,97,106,111,114,32]⟩:ByteArray)) r11) (⟨#[32]⟩:ByteArray)) x0) (⟨#[32,104,105,103,104,101,115,116,32]⟩:ByteArray)) r12)) none) none) none) none) none) none) none) none) none) none) none) none) none:=(jn _ _).trans (by kernel_rfl)
def cZ(k:Nat)(a0 a1 a2:Int):Option Bool:=call k 60 (a0,a1,a2)
theorem cZ.eq(k:Nat)(a0 a1 a2):cZ (k+1) a0 a1 a2=T (D.le a1 a0) (some (D.le a0 a2)) (some false):=by kernel_rfl
def eZ(k:Nat)(x0:Int):Option (Bool×PUnit):=IO_ k 100 0 0 0 [] [[In x0],[]] []
theorem eZ.eq(k:Nat)(x0):eZ (k+1) x0=B (cZ k x0 1 9) fun r0=>some ((D.no r0),()):=by kernel_rfl
def c65:Code:=cB (cQ P 123)
def aq(k:Nat)(x0:LI):Option (Int×PUnit):=IO_ k 123 0 0 0 [Ro []] [[Sl 0,.fn 100 [] []],[Sl 0]] [Ro x0]
def aq.L0(k j:Nat)(x0 x1:Int)(x2:LI):Option (Int×PUnit):=LL k 123 (cC (cC (cB (cA c65)))) j (bI 0 (JK k 123 (cB c65) (rH (ko P (CM P 123) (fun z6 z7=>s0 P 123 0 0 0 [Ro []] z6 z7))))) [frm 19 [(0,Sl 0),(1,.fn 100 [] []),(7,In x0),(8,In x1)],[Sl 0]] [Ro x2]
theorem aq.eq(k:Nat)(x0):aq (k+1) x0=aq.L0 k k (O (N x0)) 0 x0:=by kernel_rfl
theorem aq.bt(k j:Nat)(x0 x1 x2):aq.L0 k (j+1) x0 x1 x2=T (D.lt x1 x0) (T (D.le 0 x1) (T (U (V x1) (N x2)) (T (U (V x1) (N x2)) (B (eZ k (E x2 (V x1) 0)) fun r0=>T r0.1 (some (x1,())) (aq.L0 k j x0 (Z .i64 (A x1 1)) x2)) none) none) none) (some ((-1:Int),())):=(jn _ _).trans (by kernel_rfl)
def aY(k:Nat)(x0:LI):Option (Bool×PUnit):=IO_ k 99 0 0 0 [Ro []] [[Sl 0,.fn 100 [] []],[Sl 0]] [Ro x0]
theorem aY.eq(k:Nat)(x0):aY (k+1) x0=B (aq k x0) fun r0=>some ((D.le 0 r0.1),()):=by kernel_rfl
def cu(k:Nat)(a0:LI):Option Bool:=call k 72 a0
theorem cu.eq(k:Nat)(a0):cu (k+1) a0=T (D.le (O (N a0)) 9) (B (aY k a0) fun r0=>some (D.no r0.1)) (some false):=by kernel_rfl
def c66:Code:=cB (cB (cQ P 74))
def dv(k:Nat)(a0:Int):Option LI:=call k 74 a0
def dv.L0(k j:Nat)(x0 x1:Int)(x2:LI):Option LI:=LL k 74 (cC (cC (cB (cA c66)))) j (bI 0 (JK k 74 (cB c66) (R0 74))) [frm 17 [(3,Sl 0),(6,In x0),(7,In x1)]] [Rw x2]
theorem dv.eq(k:Nat)(a0):dv (k+1) a0=dv.L0 k k a0 0 ([]:LI):=by kernel_rfl
theorem dv.bt(k j:Nat)(x0 x1 x2):dv.L0 k (j+1) x0 x1 x2=T (D.lt x1 x0) (T (D.leN (N (D.app x2 ((Z .i64 (A x1 1))::([]:LI)))) 1099511627776) (dv.L0 k j x0 (Z .i64 (A x1 1)) (D.app x2 ((Z .i64 (A x1 1))::([]:LI)))) none) (some x2):=(jn _ _).trans (by kernel_rfl)
def cF(k:Nat)(x0 x1:Int):Option (Bool×Int):=IO_ k 124 1 0 1 [.var [In 0]] [[In x0,.pv 0 0],[.pv 0 0]] [.var [In x1]]
theorem cF.eq(k:Nat)(x0 x1):cF (k+1) x0 x1=some ((D.lt x1 x0),x1):=by kernel_rfl
def c67:Code:=cB (cQ P 123)
def ai(k:Nat)(x0:Int)(x1:LI):Option (Int×Int):=IO_ k 123 1 0 1 [.var [In 0],Ro []] [[Sl 1,.fn 124 [] [.pv 0 0]],[.pv 0 0,Sl 1]] [.var [In x0],Ro x1]
def ai.L0(k j:Nat)(x0 x1:Int)(x2:LI)(x3:Int):Option (Int×Int):=LL k 123 (cC (cC (cB (cA c67)))) j (bI 0 (JK k 123 (cB c67) (rH (ko P (CM P 123) (fun z6 z7=>s0 P 123 1 0 1 [.var [In 0],Ro []] z6 z7))))) [frm 19 [(0,Sl 0),(1,.fn 124 [] [.pv 1 0]),(7,In x0),(8,In x1)],[.pv 1 0,Sl 0]] [Ro x2,.var [In x3]]
theorem ai.eq(k:Nat)(x0 x1):ai (k+1) x0 x1=ai.L0 k k (O (N x1)) 0 x1 x0:=by kernel_rfl
theorem ai.bt(k j:Nat)(x0 x1 x2 x3):ai.L0 k (j+1) x0 x1 x2 x3=T (D.lt x1 x0) (T (D.le 0 x1) (T (U (V x1) (N x2)) (T (U (V x1) (N x2)) (B (cF k (E x2 (V x1) 0) x3) fun r0=>T r0.1 (some (x1,r0.2)) (ai.L0 k j x0 (Z .i64 (A x1 1)) x2 r0.2)) none) none) none) (some ((-1:Int),x3)):=(jn _ _).trans (by kernel_rfl)
def c68:Code:=cB (cQ P 101)
def aJ(k:Nat)(x0:Int)(x1:LI)(x2:LJ):Option (Int×((LI)×(LJ))):=IO_ k 101 1 0 3 [.var [Sl 1,Sl 2],Rw [],Rww []] [[.pv 0 0,In x0],[.pv 0 0,.undef,.undef]] [.var [Sl 1,Sl 2],Rw x1,Rww x2]
def aJ.L0(k j:Nat)(x0 x1 x2:Int)(x3:LJ)(x4:LI):Option (Int×((LI)×(LJ))):=LL k 101 (cC (cC (cB (cA c68)))) j (bI 0 (JK k 101 (cB c68) (rH (ko P (CM P 101) (fun z6 z7=>s0 P 101 1 0 3 [.var [Sl 1,Sl 2],Rw [],Rww []] z6 z7))))) [frm 60 [(0,.pv 0 0),(3,.pv 1 0),(11,Sl 2),(12,In x0),(13,In x1)],[.pv 0 0,.undef,.undef]] [.var [Sl 3,Sl 2],.var [In x2],Rww x3,Rw x4]
theorem aJ.eq(k:Nat)(x0 x1 x2):aJ (k+1) x0 x1 x2=aJ.L0 k k (O (N x2)) 0 x0 x2 x1:=by kernel_rfl
theorem aJ.bt(k j:Nat)(x0 x1 x2 x3 x4):aJ.L0 k (j+1) x0 x1 x2 x3 x4=T (D.lt x1 x0) (T (D.le 0 x1) (T (U (V x1) (N x3)) (T (U (V x1) (N x3)) (T (U (V x1) (N x3)) (B (ai k x2 (E x3 (V x1) [])) fun r0=>T (D.lt r0.1 0) (T (U (V x1) (N x3)) (T (D.leN (N (D.app (E x3 (V x1) []) (r0.2::([]:LI)))) 1099511627776) (T (D.le 0 x1) (T (U (V x1) (N x3)) (T (U (V x1) (N x3)) (T (D.eqP (((V x1),0)::([]:List (Nat×Nat))) (((V x1),0)::([]:List (Nat×Nat)))) (some (x1,(x4,(D.set x3 (V x1) (D.app (E x3 (V x1) []) (r0.2::([]:LI))))))) none) none) none) none) none) none) (T (U (V x1) (N x3)) (T (D.le 0 r0.1) (T (U (V r0.1) (N (E x3 (V x1) []))) (T (U (V x1) (N x3)) (T (U (V r0.1) (N (E x3 (V x1) []))) (T (U (V x1) (N x3)) (T (D.le 0 r0.1) (T (U (V r0.1) (N (E x3 (V x1) []))) (T (U (V x1) (N x3)) (T (U (V r0.1) (N (E x3 (V x1) []))) (aJ.L0 k j x0 (Z .i64 (A x1 1)) (E (E x3 (V x1) []) (V r0.1) 0) (D.set x3 (V x1) (D.set (E x3 (V x1) []) (V r0.1) r0.2)) x4) none) none) none) none) none) none) none) none) none) none)) none) none) none) none) (T (D.leN (N (D.app x3 ((x2::([]:LI))::([]:LJ)))) 1099511627776) (some ((Z .i64 (M (O (N (D.app x3 ((x2::([]:LI))::([]:LJ))))) 1)),(x4,(D.app x3 ((x2::([]:LI))::([]:LJ)))))) none):=(jn _ _).trans (by kernel_rfl)
def c69:Code:=cB (cB (cQ P 73))
def c70:Code:=cC (cC (cB (cA c69)))
def K71(k:Nat):cU (den (resTy P 73)):=bI 0 (JK k 73 (cB c69) (R0 73))
def c72:Code:=cB (cB c70)
def aB(k:Nat)(a0 a1:LI):Option (((LI)×(LJ))×((LI)×(LJ))):=call k 73 (a0,a1)
def aB.L0(k j:Nat)(x0 x1:Int)(x2 x3 x4:LI)(x5:LJ)(x6:LI)(x7:LJ)(x8:LI)(x9:LJ)(x10:LI)(x11:LJ):Option (((LI)×(LJ))×((LI)×(LJ))):=LL k 73 c70 j (K71 k) [frm 50 [(1,Sl 0),(4,.pv 1 0),(5,.pv 2 0),(6,.pv 3 0),(7,.pv 4 0),(13,Sl 5),(14,In x0),(15,In x1)]] [Ro x2,.var [Sl 6,Sl 7],.var [Sl 8,Sl 9],.var [Sl 10,Sl 11],.var [Sl 12,Sl 13],Ro x3,Rw x4,Rww x5,Rw x6,Rww x7,Rw x8,Rww x9,Rw x10,Rww x11]
def aB.J1(k k1:Nat)(x0 x1 x2 x3:Int)(x4 x5 x6:LI)(x7:LJ)(x8:LI)(x9:LJ)(x10:LI)(x11:LJ)(x12:LI)(x13:LJ):Option (((LI)×(LJ))×((LI)×(LJ))):=JJ k 73 (cB (cB (cB (cC (cA c72))))) (bI 1 (JK k 73 (cB c72) (LK k 73 c70 k1 (K71 k)))) [frm 50 [(1,Sl 0),(4,.pv 1 0),(5,.pv 2 0),(6,.pv 3 0),(7,.pv 4 0),(8,In x0),(10,In x1),(13,Sl 5),(14,In x2),(15,In x3)]] [Ro x4,.var [Sl 6,Sl 7],.var [Sl 8,Sl 9],.var [Sl 10,Sl 11],.var [Sl 12,Sl 13],Ro x5,Rw x6,Rww x7,Rw x8,Rww x9,Rw x10,Rww x11,Rw x12,Rww x13]
theorem aB.eq(k:Nat)(a0 a1):aB (k+1) a0 a1=aB.L0 k k (O (N a0)) 0 a1 a0 ([]:LI) ([]:LJ) ([]:LI) ([]:LJ) ([]:LI) ([]:LJ) ([]:LI) ([]:LJ):=by kernel_rfl
theorem aB.bt(k j:Nat)(x0 x1 x2 x3 x4 x5 x6 x7 x8 x9 x10 x11):aB.L0 k (j+1) x0 x1 x2 x3 x4 x5 x6 x7 x8 x9 x10 x11=T (D.lt x1 x0) (T (D.le 0 x1) (T (U (V x1) (N x3)) (T (U (V x1) (N x3)) (B (aJ k (E x3 (V x1) 0) x8 x9) fun r0=>T (D.eq r0.1 (O (N x11))) (T (D.leN (N (D.app x11 (([]:LI)::([]:LJ)))) 1099511627776) (aB.J1 k j x1 r0.1 x0 x1 x2 x3 x4 x5 x6 x7 r0.2.1 r0.2.2 x10 (D.app x11 (([]:LI)::([]:LJ)))) none) (aB.J1 k j x1 r0.1 x0 x1 x2 x3 x4 x5 x6 x7 r0.2.1 r0.2.2 x10 x11)) none) none) none) (some ((x8,x9),(x10,x11))):=(jn _ _).trans (by kernel_rfl)
theorem aB.il(k k1:Nat)(x0 x1 x2 x3 x4 x5 x6 x7 x8 x9 x10 x11 x12 x13):aB.J1 k k1 x0 x1 x2 x3 x4 x5 x6 x7 x8 x9 x10 x11 x12 x13=T (D.le 0 x1) (T (U (V x1) (N x13)) (T (U (V x1) (N x13)) (T (D.le 0 x0) (T (U (V x0) (N x4)) (T (U (V x0) (N x4)) (T (U (V x1) (N x13)) (T (D.leN (N (D.app (E x13 (V x1) []) ((E x4 (V x0) 0)::([]:LI)))) 1099511627776) (T (D.le 0 x1) (T (U (V x1) (N x13)) (T (U (V x1) (N x13)) (T (D.eqP (((V x1),0)::([]:List (Nat×Nat))) (((V x1),0)::([]:List (Nat×Nat)))) (aB.L0 k k1 x2 (Z .i64 (A x3 1)) x4 x5 x6 x7 x8 x9 x10 x11 x12 (D.set x13 (V x1) (D.app (E x13 (V x1) []) ((E x4 (V x0) 0)::([]:LI))))) none) none) none) none) none) none) none) none) none) none) none) none:=(jn _ _).trans (by kernel_rfl)
def dJ(k:Nat)(a0:LI):Option (((LI)×(LJ))×Bool):=call k 41 a0
theorem dJ.eq(k:Nat)(a0):dJ (k+1) a0=B (cu k a0) fun r0=>T (D.no r0) (some ((([]:LI),([]:LJ)),false)) (B (dv k (O (N a0))) fun r1=>B (aB k a0 r1) fun r2=>some ((r2.1.1,r2.1.2),true)):=by kernel_rfl
def fb(k:Nat)(a0:LI):Option (((LI)×(LJ))×Bool):=call k 42 a0
theorem fb.eq(k:Nat)(a0):fb (k+1) a0=B (cu k a0) fun r0=>T (D.no r0) (some ((([]:LI),([]:LJ)),false)) (B (dv k (O (N a0))) fun r1=>B (aB k a0 r1) fun r2=>some ((r2.2.1,r2.2.2),true)):=by kernel_rfl
def bZ(k:Nat)(a0:LI):Option LI:=call k 27 a0
theorem bZ.eq(k:Nat)(a0):bZ (k+1) a0=T (D.eqN (N a0) 0) (D.both (some ([]:LI)) (T (D.leN (N (D.app ([]:LI) a0)) 1099511627776) (some (D.app ([]:LI) a0)) none)) (T (D.leN (N (D.app ([]:LI) a0)) 1099511627776) (some (D.app ([]:LI) a0)) none):=by kernel_rfl
def c73:Code:=cB (cB (cQ P 102))
def c74:Code:=cB c73
def c75:Code:=cC (cC (cB (cA c74)))
def K76(k:Nat):cU (den (resTy P 102)):=bI 0 (JK k 102 (cB c74) (R0 102))
def c77:Code:=cB (cB (cB c75))
def K78(k k1:Nat):cU (den (resTy P 102)):=LK k 102 c75 k1 (K76 k)
def aO(k:Nat)(a0:LI)(a1:Int):Option ((LI)×((LI)×Bool)):=call k 102 (a0,a1)
def aO.J0(k:Nat)(x0:Int)(x1:LI):Option ((LI)×((LI)×Bool)):=JJ k 102 c73 (R0 102) [frm 62 [(0,Sl 0),(1,In x0)]] [Ro x1]
def aO.L1(k j:Nat)(x0 x1 x2:Int)(x3 x4 x5:LI):Option ((LI)×((LI)×Bool)):=LL k 102 c75 j (K76 k) [frm 62 [(1,In x0),(7,Sl 0),(8,Sl 1),(21,Sl 2),(22,In x1),(23,In x2)]] [Rw x3,Rw x4,Ro x5]
def aO.J2(k k1:Nat)(x0 x1 x2:Int)(x3 x4 x5:LI):Option ((LI)×((LI)×Bool)):=JJ k 102 c77 (K78 k k1) [frm 62 [(1,In x0),(7,Sl 0),(8,Sl 1),(21,Sl 2),(22,In x1),(23,In x2)]] [Rw x3,Rw x4,Ro x5]
def aO.J3(k k1:Nat)(x0:Int)(x1 x2:Nat)(x3 x4:Int)(x5 x6 x7:LI):Option ((LI)×((LI)×Bool)):=JJ k 102 c77 (K78 k k1) [frm 62 [(1,In x0),(7,Sl 0),(8,.sl 1 [] (Option.some (x1,x2))),(21,Sl 2),(22,In x3),(23,In x4)]] [Rw x5,Rw x6,Ro x7]
def aO.L4(k j:Nat)(x0:Int)(x1 x2:Nat)(x3 x4:Int)(x5 x6 x7:LI):Option ((LI)×((LI)×Bool)):=LL k 102 c75 j (K76 k) [frm 62 [(1,In x0),(7,Sl 0),(8,.sl 1 [] (Option.some (x1,x2))),(21,Sl 2),(22,In x3),(23,In x4)]] [Rw x5,Rw x6,Ro x7]
theorem aO.eq(k:Nat)(a0 a1):aO (k+1) a0 a1=B (cu k a0) fun r0=>T (D.no r0) (some (([]:LI),(([]:LI),false))) (B (cZ k a1 1 8) fun r1=>T (D.no r1) (some (([]:LI),(([]:LI),false))) (aO.J0 k a1 a0)):=by kernel_rfl
theorem aO.kF(k:Nat)(x0 x1):aO.J0 k x0 x1=aO.L1 k k x0 (O (N x1)) 0 ([]:LI) ([]:LI) x1:=(jn _ _).trans (by kernel_rfl)
theorem aO.fh(k j:Nat)(x0 x1 x2 x3 x4 x5):aO.L1 k (j+1) x0 x1 x2 x3 x4 x5=T (D.lt x2 x1) (T (D.le 0 x2) (T (U (V x2) (N x5)) (T (U (V x2) (N x5)) (T (D.eq (E x5 (V x2) 0) (Z .i64 (A x0 1))) (T (D.leN (N (D.app x4 (x2::([]:LI)))) 1099511627776) (aO.J2 k j x0 x1 x2 x3 (D.app x4 (x2::([]:LI))) x5) none) (T (D.eq (E x5 (V x2) 0) x0) (T (D.lt 0 (O (N x4))) (T (D.le 0 (Z .i64 (M (O (N x4)) 1))) (T (D.leN (V (Z .i64 (M (O (N x4)) 1))) (N x4)) (aO.J3 k j x0 0 (D.subN (V (Z .i64 (M (O (N x4)) 1))) 0) x1 x2 x3 x4 x5) none) none) (T (D.eq (E x5 (V x2) 0) x0) (T (D.leN (N (D.app x3 (x2::([]:LI)))) 1099511627776) (aO.J2 k j x0 x1 x2 (D.app x3 (x2::([]:LI))) x4 x5) none) (aO.J2 k j x0 x1 x2 x3 x4 x5))) (T (D.eq (E x5 (V x2) 0) x0) (T (D.leN (N (D.app x3 (x2::([]:LI)))) 1099511627776) (aO.J2 k j x0 x1 x2 (D.app x3 (x2::([]:LI))) x4 x5) none) (aO.J2 k j x0 x1 x2 x3 x4 x5)))) none) none) none) (some (x3,(x4,true))):=(jn _ _).trans (by kernel_rfl)
theorem aO.lU(k k1:Nat)(x0 x1 x2 x3 x4 x5):aO.J2 k k1 x0 x1 x2 x3 x4 x5=aO.L1 k k1 x0 x1 (Z .i64 (A x2 1)) x3 x4 x5:=(jn _ _).trans (by kernel_rfl)
theorem aO.yF(k k1:Nat)(x0 x1 x2 x3 x4 x5 x6 x7):aO.J3 k k1 x0 x1 x2 x3 x4 x5 x6 x7=aO.L4 k k1 x0 x1 x2 x3 (Z .i64 (A x4 1)) x5 x6 x7:=(jn _ _).trans (by kernel_rfl)
theorem aO.ED(k j:Nat)(x0 x1 x2 x3 x4 x5 x6 x7):aO.L4 k (j+1) x0 x1 x2 x3 x4 x5 x6 x7=T (D.lt x4 x3) (T (D.le 0 x4) (T (U (V x4) (N x7)) (T (U (V x4) (N x7)) (T (D.eq (E x7 (V x4) 0) (Z .i64 (A x0 1))) (T (D.leN (N (D.app (D.take x2 (D.drop x1 x6)) (x4::([]:LI)))) 1099511627776) (aO.J2 k j x0 x3 x4 x5 (D.app (D.take x2 (D.drop x1 x6)) (x4::([]:LI))) x7) none) (T (D.eq (E x7 (V x4) 0) x0) (T (D.lt 0 (O x2)) (T (D.le 0 (Z .i64 (M (O x2) 1))) (T (D.leN (V (Z .i64 (M (O x2) 1))) x2) (aO.J3 k j x0 (D.addN x1 0) (D.subN (V (Z .i64 (M (O x2) 1))) 0) x3 x4 x5 x6 x7) none) none) (T (D.eq (E x7 (V x4) 0) x0) (T (D.leN (N (D.app x5 (x4::([]:LI)))) 1099511627776) (aO.J3 k j x0 x1 x2 x3 x4 (D.app x5 (x4::([]:LI))) x6 x7) none) (aO.J3 k j x0 x1 x2 x3 x4 x5 x6 x7))) (T (D.eq (E x7 (V x4) 0) x0) (T (D.leN (N (D.app x5 (x4::([]:LI)))) 1099511627776) (aO.J3 k j x0 x1 x2 x3 x4 (D.app x5 (x4::([]:LI))) x6 x7) none) (aO.J3 k j x0 x1 x2 x3 x4 x5 x6 x7)))) none) none) none) (some (x5,((D.take x2 (D.drop x1 x6)),true))):=(jn _ _).trans (by kernel_rfl)
def j6(k:Nat)(a0:LI)(a1 a2:Int):Option LI:=call k 103 (a0,a1,a2)
theorem j6.eq(k:Nat)(a0 a1 a2):j6 (k+1) a0 a1 a2=B (bZ k a0) fun r0=>T (D.le 0 a1) (T (U (V a1) (N r0)) (T (U (V a1) (N r0)) (some (D.set r0 (V a1) a2)) none) none) none:=by kernel_rfl
def fw(k:Nat)(a0:LI)(a1:Int):Option ((LI)×Bool):=call k 75 (a0,a1)
theorem fw.eq(k:Nat)(a0 a1):fw (k+1) a0 a1=B (aO k a0 a1) fun r0=>T (D.eq (O (N r0.2.1)) 0) (some (([]:LI),false)) (T (D.le 0 0) (T (U (V 0) (N r0.2.1)) (T (U (V 0) (N r0.2.1)) (B (j6 k a0 (E r0.2.1 (V 0) 0) a1) fun r1=>some (r1,true)) none) none) none):=by kernel_rfl
def c79:Code:=cB (cB (cB (cQ P 43)))
def c80:Code:=cC (cC (cB (cA c79)))
def K81(k:Nat):cU (den (resTy P 43)):=bI 0 (JK k 43 (cB c79) (R0 43))
def bc(k:Nat)(a0:LI):Option ((LI)×Bool):=call k 43 a0
def bc.L0(k j:Nat)(x0:Int)(x1:LI):Option ((LI)×Bool):=LL k 43 c80 j (K81 k) [frm 26 [(4,Sl 0),(5,In x0)]] [Rw x1]
def bc.J1(k k1:Nat)(x0:Int)(x1:LI):Option ((LI)×Bool):=JJ k 43 (cB (cB c80)) (LK k 43 c80 k1 (K81 k)) [frm 26 [(4,Sl 0),(5,In x0)]] [Rw x1]
theorem bc.eq(k:Nat)(a0):bc (k+1) a0=B (cu k a0) fun r0=>T (D.no r0) (some (([]:LI),false)) (B (bZ k a0) fun r1=>bc.L0 k k 1 r1):=by kernel_rfl
theorem bc.bt(k j:Nat)(x0 x1):bc.L0 k (j+1) x0 x1=T (D.lt x0 9) (B (fw k x1 x0) fun r2=>T r2.2 (bc.J1 k j 0 r2.1) (bc.J1 k j x0 x1)) (some (x1,true)):=(jn _ _).trans (by kernel_rfl)
theorem bc.il(k k1:Nat)(x0 x1):bc.J1 k k1 x0 x1=bc.L0 k k1 (Z .i64 (A x0 1)) x1:=(jn _ _).trans (by kernel_rfl)
def c82:Code:=cB (cB (cB (cQ P 44)))
def c83:Code:=cC (cB (cA c82))
def K84(k:Nat):cU (den (resTy P 44)):=bI 0 (JK k 44 (cB c82) (R0 44))
def c85:Code:=cC (cC (cB (cQ P 104)))
def bR(k:Nat)(a0:LI):Option Bool:=call k 44 a0
def bR.L0(k j:Nat)(x0:Int)(x1:Bool)(x2 x3:LI):Option Bool:=D.jn (fun z1=>jJ (fun z2 z3=>fK P cfg (qo P cfg ext k) (pE (fun z4 z5=>X k 44 (cA c83) z4 z5) (fun z6 z7=>X k 44 (cB c83) z6 z7) (List.toArray [12,13]) (K84 k)) (Go.Func.ntmps (CM P 104)) k 104 c85 z2 z3) (Cfg.loops cfg 104 (key c85)) j z1 (bI 0 (rH (fun z11=>K84 k .normal (St.mk (List.tail (St.fr z11)) (St.rs z11)))))) (St.mk [frm 19 [(1,.pv 0 0),(3,In x0)],frm 34 [(2,.pv 1 0),(3,.pv 2 0),(11,.fn 104 [] [.pv 0 0])]] [.var [Sl 3],.var [.bool x1],.var [Sl 4],Ro x2,Rw x3])
theorem bR.eq(k:Nat)(a0):bR (k+1) a0=B (cu k a0) fun r0=>T (D.no r0) (some false) (T (D.le 0 10) (T (D.le 10 10) (T (D.leN (V 10) 1099511627776) (bR.L0 k k (Z .i64 (M (O (N a0)) 1)) false a0 (D.rep (V 10) (0:Int))) none) none) none):=by kernel_rfl
theorem bR.bt(k j:Nat)(x0 x1 x2 x3):bR.L0 k (j+1) x0 x1 x2 x3=T (D.le 0 x0) (T (D.le 0 x0) (T (U (V x0) (N x2)) (T (U (V x0) (N x2)) (T (D.le 0 (E x2 (V x0) 0)) (T (U (V (E x2 (V x0) 0)) (N x3)) (T (U (V (E x2 (V x0) 0)) (N x3)) (T (D.le 0 (E x2 (V x0) 0)) (T (U (V (E x2 (V x0) 0)) (N x3)) (T (U (V (E x2 (V x0) 0)) (N x3)) (T (D.lt 1 (E x2 (V x0) 0)) (T (D.le 0 (E x2 (V x0) 0)) (T (U (V (E x2 (V x0) 0)) (N (D.set x3 (V (E x2 (V x0) 0)) (Z .i64 (A (E x3 (V (E x2 (V x0) 0)) 0) 1))))) (T (U (V (E x2 (V x0) 0)) (N (D.set x3 (V (E x2 (V x0) 0)) (Z .i64 (A (E x3 (V (E x2 (V x0) 0)) 0) 1))))) (T (D.le 0 (Z .i64 (M (E x2 (V x0) 0) 1))) (T (U (V (Z .i64 (M (E x2 (V x0) 0) 1))) (N (D.set x3 (V (E x2 (V x0) 0)) (Z .i64 (A (E x3 (V (E x2 (V x0) 0)) 0) 1))))) (T (U (V (Z .i64 (M (E x2 (V x0) 0) 1))) (N (D.set x3 (V (E x2 (V x0) 0)) (Z .i64 (A (E x3 (V (E x2 (V x0) 0)) 0) 1))))) (T (D.lt (E (D.set x3 (V (E x2 (V x0) 0)) (Z .i64 (A (E x3 (V (E x2 (V x0) 0)) 0) 1))) (V (Z .i64 (M (E x2 (V x0) 0) 1))) 0) (E (D.set x3 (V (E x2 (V x0) 0)) (Z .i64 (A (E x3 (V (E x2 (V x0) 0)) 0) 1))) (V (E x2 (V x0) 0)) 0)) (some false) (bR.L0 k j (Z .i64 (M x0 1)) x1 x2 (D.set x3 (V (E x2 (V x0) 0)) (Z .i64 (A (E x3 (V (E x2 (V x0) 0)) 0) 1))))) none) none) none) none) none) none) (bR.L0 k j (Z .i64 (M x0 1)) x1 x2 (D.set x3 (V (E x2 (V x0) 0)) (Z .i64 (A (E x3 (V (E x2 (V x0) 0)) 0) 1))))) none) none) none) none) none) none) none) none) none) (some true):=(jn _ _).trans (by kernel_rfl)
def c86:Code:=cB (cB (cQ P 82))
def c87:Code:=cC (cC (cB (cA c86)))
def K88(k:Nat):cU (den (resTy P 82)):=bI 0 (JK k 82 (cB c86) (R0 82))
def c89:Code:=cB (cB c87)
def aH(k:Nat)(a0:LI):Option Bool:=call k 82 a0
def aH.L0(k j:Nat)(x0 x1 x2:Int)(x3:LI):Option Bool:=LL k 82 c87 j (K88 k) [frm 35 [(0,Sl 0),(3,In x0),(6,Sl 0),(7,In x1),(8,In x2)]] [Ro x3]
def aH.J1(k k1:Nat)(x0 x1 x2 x3:Int)(x4:LI):Option Bool:=JJ k 82 (cB (cB (cC (cA c89)))) (bI 1 (JK k 82 (cB c89) (LK k 82 c87 k1 (K88 k)))) [frm 35 [(0,Sl 0),(3,In x0),(5,In x1),(6,Sl 0),(7,In x2),(8,In x3)]] [Ro x4]
theorem aH.eq(k:Nat)(a0):aH (k+1) a0=aH.L0 k k 0 (O (N a0)) 0 a0:=by kernel_rfl
theorem aH.bt(k j:Nat)(x0 x1 x2 x3):aH.L0 k (j+1) x0 x1 x2 x3=T (D.lt x2 x1) (T (D.le 0 x2) (T (U (V x2) (N x3)) (T (U (V x2) (N x3)) (B (cZ k (E x3 (V x2) 0) 1 9) fun r0=>T (D.no r0) (some false) (T (D.lt 0 x2) (T (D.le 0 (Z .i64 (M x2 1))) (T (U (V (Z .i64 (M x2 1))) (N x3)) (T (U (V (Z .i64 (M x2 1))) (N x3)) (T (D.lt (E x3 (V (Z .i64 (M x2 1))) 0) (E x3 (V x2) 0)) (some false) (aH.J1 k j x0 (E x3 (V x2) 0) x1 x2 x3)) none) none) none) (aH.J1 k j x0 (E x3 (V x2) 0) x1 x2 x3))) none) none) none) (some true):=(jn _ _).trans (by kernel_rfl)
theorem aH.il(k k1:Nat)(x0 x1 x2 x3 x4):aH.J1 k k1 x0 x1 x2 x3 x4=T (D.lt 9 (Z .i64 (A x0 x1))) (some false) (aH.L0 k k1 (Z .i64 (A x0 x1)) x2 (Z .i64 (A x3 1)) x4):=(jn _ _).trans (by kernel_rfl)
def fN(k:Nat)(a0:LI)(a1:Int):Option Int:=call k 80 (a0,a1)
theorem fN.eq(k:Nat)(a0 a1):fN (k+1) a0 a1=B (cZ k a1 0 (Z .i64 (M (O (N a0)) 1))) fun r0=>T (D.no r0) (some 0) (T (D.le 0 a1) (T (U (V a1) (N a0)) (T (U (V a1) (N a0)) (some (E a0 (V a1) 0)) none) none) none):=by kernel_rfl
def c90:Code:=cB (cB (cQ P 113))
def bB(k:Nat)(a0 a1:LI):Option Bool:=call k 113 (a0,a1)
def bB.J0(k:Nat)(x0 x1:LI):Option Bool:=JJ k 113 c90 (R0 113) [frm 28 [(0,Sl 0),(1,Sl 1)]] [Ro x0,Ro x1]
def bB.L1(k j:Nat)(x0 x1:Int)(x2 x3:LI):Option Bool:=LL k 113 (cC (cC (cB (cA c90)))) j (bI 0 (JK k 113 (cB c90) (R0 113))) [frm 28 [(1,Sl 0),(15,Sl 1),(16,In x0),(17,In x1)]] [Ro x2,Ro x3]
theorem bB.eq(k:Nat)(a0 a1):bB (k+1) a0 a1=B (aH k a0) fun r0=>T (D.no r0) (some false) (B (aH k a1) fun r1=>T (D.no r1) (some false) (bB.J0 k a0 a1)):=by kernel_rfl
theorem bB.kF(k:Nat)(x0 x1):bB.J0 k x0 x1=bB.L1 k k (O (N x0)) 0 x1 x0:=(jn _ _).trans (by kernel_rfl)
theorem bB.fh(k j:Nat)(x0 x1 x2 x3):bB.L1 k (j+1) x0 x1 x2 x3=T (D.lt x1 x0) (T (D.le 0 x1) (T (U (V x1) (N x3)) (T (U (V x1) (N x3)) (B (fN k x2 x1) fun r2=>T (D.lt r2 (E x3 (V x1) 0)) (some false) (bB.L1 k j x0 (Z .i64 (A x1 1)) x2 x3)) none) none) none) (some true):=(jn _ _).trans (by kernel_rfl)
def gJ(k:Nat)(a0:(LI)×(LI)):Option Bool:=call k 88 a0
theorem gJ.eq(k:Nat)(a0):gJ (k+1) a0=B (bB k a0.2 a0.1) fun r0=>some r0:=by kernel_rfl
def c91:Code:=cB (cB (cQ P 83))
def c92:Code:=cB c91
def bG(k:Nat)(a0:(LI)×(LJ)):Option (((LI)×(LI))×Bool):=call k 83 a0
def bG.J0(k:Nat)(x0:LI)(x1:LJ)(x2 x3:LI):Option (((LI)×(LI))×Bool):=JJ k 83 c91 (R0 83) [frm 51 [(1,.pv 0 0),(2,.pv 1 0)]] [.var [Sl 2,Sl 3],.var [Sl 4,Sl 5],Ro x0,Roo x1,Rw x2,Rw x3]
def bG.L1(k j:Nat)(x0 x1:Int)(x2:LJ)(x3 x4 x5 x6 x7:LI):Option (((LI)×(LI))×Bool):=LL k 83 (cC (cC (cB (cA c92)))) j (bI 0 (JK k 83 (cB c92) (R0 83))) [frm 51 [(1,.pv 0 0),(2,.pv 1 0),(4,.pv 2 0),(26,Sl 3),(27,In x0),(28,In x1)]] [.var [Sl 4,Sl 3],.var [Sl 5,Sl 6],.var [Sl 7,Sl 8],Roo x2,Ro x3,Rw x4,Rw x5,Rw x6,Rw x7]
theorem bG.eq(k:Nat)(a0):bG (k+1) a0=B (aH k a0.1) fun r0=>T (D.no r0) (some ((([]:LI),([]:LI)),false)) (T (D.lt (O (N a0.2)) (O (N a0.1))) (some ((([]:LI),([]:LI)),false)) (bG.J0 k a0.1 a0.2 ([]:LI) ([]:LI))):=by kernel_rfl
theorem bG.kF(k:Nat)(x0 x1 x2 x3):bG.J0 k x0 x1 x2 x3=B (bZ k x0) fun r1=>bG.L1 k k (O (N x1)) 0 x1 x0 x2 x3 ([]:LI) r1:=(jn _ _).trans (by kernel_rfl)
theorem bG.fh(k j:Nat)(x0 x1 x2 x3 x4 x5 x6 x7):bG.L1 k (j+1) x0 x1 x2 x3 x4 x5 x6 x7=T (D.lt x1 x0) (T (D.le 0 x1) (T (U (V x1) (N x2)) (T (U (V x1) (N x2)) (B (fN k x3 x1) fun r2=>T (U (V x1) (N x2)) (T (D.leN (N (D.app x6 ((Z .i64 (A r2 (O (N (E x2 (V x1) [])))))::([]:LI)))) 1099511627776) (bG.L1 k j x0 (Z .i64 (A x1 1)) x2 x3 x4 x5 (D.app x6 ((Z .i64 (A r2 (O (N (E x2 (V x1) [])))))::([]:LI))) x7) none) none) none) none) none) (B (gJ k (x6,x7)) fun r3=>T (D.no r3) (some ((([]:LI),([]:LI)),false)) (some ((x6,x7),true))):=(jn _ _).trans (by kernel_rfl)
def dy(k:Nat)(a0:(LI)×(LJ))(a1 a2:Int):Option Int:=call k 108 (a0,a1,a2)
theorem dy.eq(k:Nat)(a0 a1 a2):dy (k+1) a0 a1 a2=B (cZ k a1 0 (Z .i64 (M (O (N a0.2)) 1))) fun r0=>T (D.no r0) (some 0) (T (D.le 0 a1) (T (U (V a1) (N a0.2)) (T (U (V a1) (N a0.2)) (B (fN k a0.1 a1) fun r1=>T (U (V a1) (N a0.2)) (B (fN k (E a0.2 (V a1) []) (Z .i64 (M a2 r1))) fun r2=>some r2) none) none) none) none):=by kernel_rfl
def c93:Code:=cB (cB (cQ P 78))
def c94:Code:=cC (cC (cB (cA c93)))
def K95(k:Nat):cU (den (resTy P 78)):=bI 0 (JK k 78 (cB c93) (R0 78))
def c96:Code:=cB (cB c94)
def c97:Code:=cC (cC (cB (cB (cC (cA c96)))))
def K98(k k1:Nat):cU (den (resTy P 78)):=bI 2 (bI 1 (JK k 78 (cB c96) (LK k 78 c94 k1 (K95 k))))
def aD(k:Nat)(a0:(LI)×(LJ)):Option Bool:=call k 78 a0
def aD.L0(k j:Nat)(x0 x1:Int)(x2:LJ)(x3:LI):Option Bool:=LL k 78 c94 j (K95 k) [frm 67 [(1,.pv 0 0),(17,Sl 1),(18,In x0),(19,In x1)]] [.var [Sl 2,Sl 1],Roo x2,Ro x3]
def aD.L1(k k1 j:Nat)(x0:Int)(x1:Nat)(x2 x3:Int)(x4:Nat)(x5 x6:Int)(x7:LJ)(x8:LI):Option Bool:=LL k 78 c97 j (K98 k k1) [frm 67 [(1,.pv 0 0),(5,In x0),(6,.sl 1 [(x1,0)] Option.none),(17,Sl 1),(18,In x2),(19,In x3),(24,.sl 1 [(x4,0)] Option.none),(25,In x5),(26,In x6)]] [.var [Sl 2,Sl 1],Roo x7,Ro x8]
def aD.J2(k k1 k2:Nat)(x0:Int)(x1:Nat)(x2 x3:Int)(x4:Nat)(x5 x6:Int)(x7:LJ)(x8:LI):Option Bool:=JJ k 78 (cB (cB (cB c97))) (LK k 78 c97 k2 (K98 k k1)) [frm 67 [(1,.pv 0 0),(5,In x0),(6,.sl 1 [(x1,0)] Option.none),(17,Sl 1),(18,In x2),(19,In x3),(24,.sl 1 [(x4,0)] Option.none),(25,In x5),(26,In x6)]] [.var [Sl 2,Sl 1],Roo x7,Ro x8]
theorem aD.eq(k:Nat)(a0):aD (k+1) a0=B (bG k (a0.1,a0.2)) fun r0=>T (D.no r0.2) (some false) (aD.L0 k k (O (N a0.2)) 0 a0.2 a0.1):=by kernel_rfl
theorem aD.bt(k j:Nat)(x0 x1 x2 x3):aD.L0 k (j+1) x0 x1 x2 x3=T (D.lt x1 x0) (T (D.le 0 x1) (T (U (V x1) (N x2)) (T (U (V x1) (N x2)) (T (U (V x1) (N x2)) (aD.L1 k j k x1 (V x1) x0 x1 (V x1) (O (N (E x2 (V x1) []))) 0 x2 x3) none) none) none) none) (some true):=(jn _ _).trans (by kernel_rfl)
theorem aD.fh(k k1 j:Nat)(x0 x1 x2 x3 x4 x5 x6 x7 x8):aD.L1 k k1 (j+1) x0 x1 x2 x3 x4 x5 x6 x7 x8=T (D.lt x6 x5) (T (U x4 (N x7)) (T (D.le 0 x6) (T (U (V x6) (N (E x7 x4 []))) (T (U x4 (N x7)) (T (U (V x6) (N (E x7 x4 []))) (B (cZ k (E (E x7 x4 []) (V x6) 0) 1 9) fun r1=>T (D.no r1) (some false) (T (D.lt 0 x6) (T (U x1 (N x7)) (T (D.le 0 (Z .i64 (M x6 1))) (T (U (V (Z .i64 (M x6 1))) (N (E x7 x1 []))) (T (U x1 (N x7)) (T (U (V (Z .i64 (M x6 1))) (N (E x7 x1 []))) (T (D.lt (E (E x7 x4 []) (V x6) 0) (E (E x7 x1 []) (V (Z .i64 (M x6 1))) 0)) (some false) (T (D.lt 0 x0) (B (fN k x8 x0) fun r2=>B (dy k (x8,x7) (Z .i64 (M x0 1)) (Z .i64 (A r2 x6))) fun r3=>T (D.le (E (E x7 x4 []) (V x6) 0) r3) (some false) (aD.J2 k k1 j x0 x1 x2 x3 x4 x5 x6 x7 x8)) (aD.J2 k k1 j x0 x1 x2 x3 x4 x5 x6 x7 x8))) none) none) none) none) none) (T (D.lt 0 x0) (B (fN k x8 x0) fun r4=>B (dy k (x8,x7) (Z .i64 (M x0 1)) (Z .i64 (A r4 x6))) fun r5=>T (D.le (E (E x7 x4 []) (V x6) 0) r5) (some false) (aD.J2 k k1 j x0 x1 x2 x3 x4 x5 x6 x7 x8)) (aD.J2 k k1 j x0 x1 x2 x3 x4 x5 x6 x7 x8)))) none) none) none) none) none) (aD.L0 k k1 x2 (Z .i64 (A x3 1)) x7 x8):=(jn _ _).trans (by kernel_rfl)
theorem aD.lU(k k1 k2:Nat)(x0 x1 x2 x3 x4 x5 x6 x7 x8):aD.J2 k k1 k2 x0 x1 x2 x3 x4 x5 x6 x7 x8=aD.L1 k k1 k2 x0 x1 x2 x3 x4 x5 (Z .i64 (A x6 1)) x7 x8:=(jn _ _).trans (by kernel_rfl)
def strings_Repeat(k:Nat)(a0:ByteArray)(a1:Int):Option ByteArray:=call k 79 (a0,a1)
theorem strings_Repeat.eq(k:Nat)(a0 a1):strings_Repeat (k+1) a0 a1=we a0 a1:=by kernel_rfl
def strconv_Itoa(k:Nat)(a0:Int):Option ByteArray:=call k 84 a0
theorem strconv_Itoa.eq(k:Nat)(a0):strconv_Itoa (k+1) a0=rk a0:=by kernel_rfl
def dx(k:Nat)(a0:Int):Option ByteArray:=call k 49 a0
theorem dx.eq(k:Nat)(a0):dx (k+1) a0=B (strconv_Itoa k a0) fun r0=>some r0:=by kernel_rfl
def strings_Join(k:Nat)(a0:List ByteArray)(a1:ByteArray):Option ByteArray:=call k 77 (a0,a1)
theorem strings_Join.eq(k:Nat)(a0 a1):strings_Join (k+1) a0 a1=rS a0 a1:=by kernel_rfl
def gw(k:Nat)(a0:List ByteArray)(a1:ByteArray):Option ByteArray:=call k 45 (a0,a1)
theorem gw.eq(k:Nat)(a0 a1):gw (k+1) a0 a1=B (strings_Join k a0 a1) fun r0=>some r0:=by kernel_rfl
def c99:Code:=cB (cB (cQ P 81))
def cn(k:Nat)(a0:LI)(a1:ByteArray):Option ByteArray:=call k 81 (a0,a1)
def cn.L0(k j:Nat)(x0:ByteArray)(x1 x2:Int)(x3:List ByteArray)(x4:LI):Option ByteArray:=LL k 81 (cC (cC (cB (cA c99)))) j (bI 0 (JK k 81 (cB c99) (R0 81))) [frm 24 [(1,.str x0),(5,Sl 0),(9,Sl 1),(10,In x1),(11,In x2)]] [.row Bool.true .str x3,Ro x4]
theorem cn.eq(k:Nat)(a0 a1):cn (k+1) a0 a1=cn.L0 k k a1 (O (N a0)) 0 ([]:List ByteArray) a0:=by kernel_rfl
theorem cn.bt(k j:Nat)(x0 x1 x2 x3 x4):cn.L0 k (j+1) x0 x1 x2 x3 x4=T (D.lt x2 x1) (T (D.le 0 x2) (T (U (V x2) (N x4)) (T (U (V x2) (N x4)) (B (dx k (E x4 (V x2) 0)) fun r0=>T (D.leN (N (D.app x3 (r0::([]:List ByteArray)))) 1099511627776) (cn.L0 k j x0 x1 (Z .i64 (A x2 1)) (D.app x3 (r0::([]:List ByteArray))) x4) none) none) none) none) (B (gw k x3 x0) fun r1=>some r1):=(jn _ _).trans (by kernel_rfl)
def Fs:Code:=cB (cB (cB (cQ P 46)))
def bg(k:Nat)(a0:(LI)×(LJ)):Option ByteArray:=call k 46 a0
def bg.L0(k j:Nat)(x0 x1:Int)(x2:List ByteArray)(x3:LJ)(x4:LI):Option ByteArray:=LL k 46 (cC (cC (cB (cA Fs)))) j (bI 1 (JK k 46 (cB Fs) (R0 46))) [frm 38 [(1,.pv 0 0),(3,Sl 1),(17,Sl 2),(18,In x0),(19,In x1)]] [.var [Sl 3,Sl 2],.row Bool.true .str x2,Roo x3,Ro x4]
theorem bg.eq(k:Nat)(a0):bg (k+1) a0=B (aD k (a0.1,a0.2)) fun r0=>T (D.no r0) (some (⟨#[]⟩:ByteArray)) (T (D.eq (O (N a0.2)) 0) (some (⟨#[45]⟩:ByteArray)) (bg.L0 k k (O (N a0.2)) 0 ([]:List ByteArray) a0.2 a0.1)):=by kernel_rfl
theorem bg.bt(k j:Nat)(x0 x1 x2 x3 x4):bg.L0 k (j+1) x0 x1 x2 x3 x4=T (D.lt x1 x0) (T (D.le 0 x1) (T (U (V x1) (N x3)) (T (U (V x1) (N x3)) (B (fN k x4 x1) fun r1=>B (strings_Repeat k (⟨#[46]⟩:ByteArray) r1) fun r2=>T (U (V x1) (N x3)) (B (cn k (E x3 (V x1) []) (⟨#[]⟩:ByteArray)) fun r3=>T (D.leN (D.addN (D.lenS r2) (D.lenS r3)) 1099511627776) (T (D.leN (N (D.app x2 ((D.catS r2 r3)::([]:List ByteArray)))) 1099511627776) (bg.L0 k j x0 (Z .i64 (A x1 1)) (D.app x2 ((D.catS r2 r3)::([]:List ByteArray))) x3 x4) none) none) none) none) none) none) (B (gw k x2 (⟨#[47]⟩:ByteArray)) fun r4=>some r4):=(jn _ _).trans (by kernel_rfl)
def eD(k:Nat)(a0:LI):Option LI:=call k 48 a0
theorem eD.eq(k:Nat)(a0):eD (k+1) a0=B (dJ k a0) fun r0=>T (D.no r0.2) (some ([]:LI)) (B (bG k (r0.1.1,r0.1.2)) fun r1=>some r1.1.1):=by kernel_rfl
def dP(k:Nat)(a0:LI):Option ByteArray:=call k 47 a0
theorem dP.eq(k:Nat)(a0):dP (k+1) a0=B (aH k a0) fun r0=>T (D.no r0) (some (⟨#[]⟩:ByteArray)) (T (D.eq (O (N a0)) 0) (some (⟨#[45]⟩:ByteArray)) (B (cn k a0 (⟨#[44]⟩:ByteArray)) fun r1=>some r1)):=by kernel_rfl
def Fi:Code:=cB (cB (cB (cQ P 50)))
def E3:Code:=cC (cC (cB (cA Fi)))
def Fo(k:Nat):cU (den (resTy P 50)):=bI 0 (JK k 50 (cB Fi) (R0 50))
def Fu:Code:=cB (cB E3)
def EZ:Code:=cC (cC (cB (cB (cC (cA Fu)))))
def Fl(k k1:Nat):cU (den (resTy P 50)):=bI 2 (bI 1 (JK k 50 (cB Fu) (LK k 50 E3 k1 (Fo k))))
def al(k:Nat)(a0:LI):Option Int:=call k 50 a0
def al.L0(k j:Nat)(x0 x1 x2:Int)(x3:LI):Option Int:=LL k 50 E3 j (Fo k) [frm 32 [(0,Sl 0),(3,In x0),(10,In x1),(11,In x2)]] [Ro x3]
def al.L1(k k1 j:Nat)(x0 x1 x2 x3 x4 x5:Int)(x6:LI):Option Int:=LL k 50 EZ j (Fl k k1) [frm 32 [(0,Sl 0),(3,In x0),(4,In x1),(10,In x2),(11,In x3),(14,In x4),(15,In x5)]] [Ro x6]
def al.J2(k k1 k2:Nat)(x0 x1 x2 x3 x4 x5:Int)(x6:LI):Option Int:=JJ k 50 (cB (cB (cB EZ))) (LK k 50 EZ k2 (Fl k k1)) [frm 32 [(0,Sl 0),(3,In x0),(4,In x1),(10,In x2),(11,In x3),(14,In x4),(15,In x5)]] [Ro x6]
theorem al.eq(k:Nat)(a0):al (k+1) a0=B (cu k a0) fun r0=>T (D.no r0) (some (-1)) (al.L0 k k 0 (O (N a0)) 0 a0):=by kernel_rfl
theorem al.bt(k j:Nat)(x0 x1 x2 x3):al.L0 k (j+1) x0 x1 x2 x3=T (D.lt x2 x1) (al.L1 k j k x0 x2 x1 x2 x2 0 x3) (some x0):=(jn _ _).trans (by kernel_rfl)
theorem al.fh(k k1 j:Nat)(x0 x1 x2 x3 x4 x5 x6):al.L1 k k1 (j+1) x0 x1 x2 x3 x4 x5 x6=T (D.lt x5 x4) (T (D.le 0 x5) (T (U (V x5) (N x6)) (T (U (V x5) (N x6)) (T (D.le 0 x1) (T (U (V x1) (N x6)) (T (U (V x1) (N x6)) (T (D.lt (E x6 (V x1) 0) (E x6 (V x5) 0)) (al.J2 k k1 j (Z .i64 (A x0 1)) x1 x2 x3 x4 x5 x6) (al.J2 k k1 j x0 x1 x2 x3 x4 x5 x6)) none) none) none) none) none) none) (al.L0 k k1 x0 x2 (Z .i64 (A x3 1)) x6):=(jn _ _).trans (by kernel_rfl)
theorem al.lU(k k1 k2:Nat)(x0 x1 x2 x3 x4 x5 x6):al.J2 k k1 k2 x0 x1 x2 x3 x4 x5 x6=al.L1 k k1 k2 x0 x1 x2 x3 x4 (Z .i64 (A x5 1)) x6:=(jn _ _).trans (by kernel_rfl)
def Fz:Code:=cB (cB (cB (cQ P 51)))
def EL:Code:=cC (cC (cB (cA Fz)))
def Fq(k:Nat):cU (den (resTy P 51)):=bI 0 (JK k 51 (cB Fz) (R0 51))
def aP(k:Nat)(a0:LI):Option Int:=call k 51 a0
def aP.L0(k j:Nat)(x0 x1:Int)(x2:LI):Option Int:=LL k 51 EL j (Fq k) [frm 28 [(0,Sl 0),(3,In x0),(4,In x1)]] [Ro x2]
def aP.J1(k k1:Nat)(x0 x1:Int)(x2:LI):Option Int:=JJ k 51 (cB (cB EL)) (LK k 51 EL k1 (Fq k)) [frm 28 [(0,Sl 0),(3,In x0),(4,In x1)]] [Ro x2]
theorem aP.eq(k:Nat)(a0):aP (k+1) a0=B (cu k a0) fun r0=>T (D.no r0) (some (-1)) (aP.L0 k k 0 1 a0):=by kernel_rfl
theorem aP.bt(k j:Nat)(x0 x1 x2):aP.L0 k (j+1) x0 x1 x2=T (D.lt x1 (O (N x2))) (T (D.le 0 (Z .i64 (M x1 1))) (T (U (V (Z .i64 (M x1 1))) (N x2)) (T (U (V (Z .i64 (M x1 1))) (N x2)) (T (D.le 0 x1) (T (U (V x1) (N x2)) (T (U (V x1) (N x2)) (T (D.lt (E x2 (V x1) 0) (E x2 (V (Z .i64 (M x1 1))) 0)) (aP.J1 k j (Z .i64 (A x0 x1)) x1 x2) (aP.J1 k j x0 x1 x2)) none) none) none) none) none) none) (some x0):=(jn _ _).trans (by kernel_rfl)
theorem aP.il(k k1:Nat)(x0 x1 x2):aP.J1 k k1 x0 x1 x2=aP.L0 k k1 x0 (Z .i64 (A x1 1)) x2:=(jn _ _).trans (by kernel_rfl)
def fT(k:Nat)(a0:LI):Option ByteArray:=call k 52 a0
theorem fT.eq(k:Nat)(a0):fT (k+1) a0=B (cu k a0) fun r0=>T (D.no r0) (some (⟨#[]⟩:ByteArray)) (T (D.eq (O (N a0)) 0) (some (⟨#[45]⟩:ByteArray)) (B (cn k a0 (⟨#[]⟩:ByteArray)) fun r1=>some r1)):=by kernel_rfl
def bw(k:Nat)(a0:LI):Option ByteArray:=call k 14 a0
def bw.J0(k:Nat)(x0:ByteArray)(x1 x2 x3:LI)(x4:LJ)(x5:LI)(x6:LJ):Option ByteArray:=JJ k 14 (cB (cB (cB (cB (cB (cB (cB (cQ P 14)))))))) (R0 14) [frm 47 [(0,Sl 0),(3,.pv 1 0),(5,.pv 2 0),(7,Sl 3),(9,.str x0)]] [Ro x1,.var [Sl 4,Sl 5],.var [Sl 6,Sl 7],Rw x2,Rw x3,Rww x4,Rw x5,Rww x6]
theorem bw.eq(k:Nat)(a0):bw (k+1) a0=B (dJ k a0) fun r0=>T (D.no r0.2) (some (⟨#[]⟩:ByteArray)) (B (fb k a0) fun r1=>B (bc k a0) fun r2=>B (bR k a0) fun r3=>T r3 (bw.J0 k (⟨#[108,97,116,116,105,99,101]⟩:ByteArray) a0 r2.1 r0.1.1 r0.1.2 r1.1.1 r1.1.2) (bw.J0 k (⟨#[111,116,104,101,114]⟩:ByteArray) a0 r2.1 r0.1.1 r0.1.2 r1.1.1 r1.1.2)):=by kernel_rfl
theorem bw.kF(k:Nat)(x0 x1 x2 x3 x4 x5 x6):bw.J0 k x0 x1 x2 x3 x4 x5 x6=B (bg k (x3,x4)) fun r4=>B (bg k (x5,x6)) fun r5=>B (eD k x1) fun r6=>B (dP k r6) fun r7=>B (al k x1) fun r8=>B (dx k r8) fun r9=>B (aP k x1) fun r10=>B (dx k r10) fun r11=>B (fT k x2) fun r12=>B (gw k ((⟨#[105,110,115,101,114,116]⟩:ByteArray)::(r4::((⟨#[114,101,99,111,114,100]⟩:ByteArray)::(r5::((⟨#[115,104,97,112,101]⟩:ByteArray)::(r7::((⟨#[105,110,118,101,114,115,105,111,110,115]⟩:ByteArray)::(r9::((⟨#[109,97,106,111,114]⟩:ByteArray)::(r11::(x0::((⟨#[104,105,103,104,101,115,116]⟩:ByteArray)::(r12::([]:List ByteArray)))))))))))))) (⟨#[32]⟩:ByteArray)) fun r13=>some r13:=(jn _ _).trans (by kernel_rfl)
def Fj:Code:=cB (cB (cQ P 15))
def cN(k:Nat)(a0 a1:LI):Option Bool:=call k 15 (a0,a1)
def cN.L0(k j:Nat)(x0:Int)(x1 x2:LI):Option Bool:=LL k 15 (cC (cC (cB (cA Fj)))) j (bI 0 (JK k 15 (cB Fj) (R0 15))) [frm 26 [(0,Sl 0),(1,Sl 1),(5,In x0)]] [Ro x1,Ro x2]
theorem cN.eq(k:Nat)(a0 a1):cN (k+1) a0 a1=T (D.no (D.eq (O (N a0)) (O (N a1)))) (some false) (cN.L0 k k 0 a0 a1):=by kernel_rfl
theorem cN.bt(k j:Nat)(x0 x1 x2):cN.L0 k (j+1) x0 x1 x2=T (D.lt x0 (O (N x1))) (T (D.le 0 x0) (T (U (V x0) (N x1)) (T (U (V x0) (N x1)) (T (D.le 0 x0) (T (U (V x0) (N x2)) (T (U (V x0) (N x2)) (T (D.no (D.eq (E x1 (V x0) 0) (E x2 (V x0) 0))) (some false) (cN.L0 k j (Z .i64 (A x0 1)) x1 x2)) none) none) none) none) none) none) (some true):=(jn _ _).trans (by kernel_rfl)
def bP(k:Nat)(a0:LI):Option Bool:=call k 4 a0
theorem bP.eq(k:Nat)(a0):bP (k+1) a0=T (D.lt 1048576 (O (N a0))) (some true) (B (cp k a0) fun r0=>B (bz k r0) fun r1=>B (cp k a0) fun r2=>B (bw k r2) fun r3=>T (D.no (D.eqS r3 r1)) (some false) (B (cp k a0) fun r4=>B (cN k r2 r4) fun r5=>T (D.no r5) (some false) (some true))):=by kernel_rfl
end Go.Am.Seat
