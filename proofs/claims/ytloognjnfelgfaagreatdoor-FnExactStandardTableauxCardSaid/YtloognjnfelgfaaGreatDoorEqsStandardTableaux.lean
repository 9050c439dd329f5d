/- The machine's equations for the functions that the law reaches, each checked by the kernel; no conditions. -/
import Derived.Test.YtloognjnfelgfaaGreatDoorCfgStandardTableaux
import Derived.Test.YtloognjnfelgfaaGreatDoorProg
set_option linter.unusedSimpArgs false
set_option linter.unusedVariables false
set_option linter.unnecessarySimpa false
set_option linter.unusedSectionVars false
noncomputable section
namespace Go.Am.Seat
open Go Go.Am Go.Proofs
set_option linter.unusedVariables false
set_option linter.unusedSectionVars false
set_option maxRecDepth 100000
variable [D] [DJ]
abbrev LI:=List Int
abbrev LJ:=List (List Int)
abbrev P:Program:=Go.Proofs.Tryz.prog
def ext:Ext P:=F9 P GL H4
def X{R:Type}(k f:Nat)(c:Code):St→cY R→Option R:=exec P cfg (nu P cfg ext k) k f c
abbrev call(k f:Nat)(x:den (fc P f)):Option (den (resTy P f)):=zj P cfg ext k f x
abbrev IX(k f:Nat)(x:den (fc P f)):Option (den (resTy P f)):=Ht P cfg ext k f x
def R0(f:Nat):cY (den (resTy P f)):=oT (finish P f (zr P f))
def JK{T:Type}(k f:Nat)(c:Code)(K:cY T):cY T:=qR (fun a b=>ik (Cfg.joins cfg f (key c)) (fun s=>X k f c s b) a) K
def LK{T:Type}(k f:Nat)(c:Code)(j:Nat)(K:cY T):cY T:=qR (fun a b=>ik (Cfg.loops cfg f (key c)) (fun s=>j1 (fun x y=>X k f c x y) (Cfg.loops cfg f (key c)) j s b) a) K
def trN:Nat→List (Nat×Touch)
 |0=> []
 |n+1=>(n,gl)::trN n
def LL{T:Type}(k f:Nat)(c:Code)(j:Nat)(K:cY T)(fr:List (List AV))(rs:List ao):Option T:=D.jn (fun a=>j1 (fun x y=>X k f c x y) (Cfg.loops cfg f (key c)) j a K) (St.mk fr rs)
def JJ{T:Type}(k f:Nat)(c:Code)(K:cY T)(fr:List (List AV))(rs:List ao):Option T:=D.jn (fun a=>X k f c a K) (St.mk fr rs)
abbrev IO_(k f nV nD n:Nat)(rs0:List ao)(fr:List (List AV))(rs:List ao):Option (den (resTy P f)×den (sY nV nD n rs0)):=kY (nu P cfg ext k) f nV nD n rs0 (St.mk fr rs)
def Sl(n:Nat):AV:= .sl n [] none
def In(n:Int):AV:= .int .i64 n
def Rw(x:LI):ao:= .row Bool.true (.int .i64) x
def Rww(x:LJ):ao:= .row Bool.true (.sl (.int .i64)) x
def Ro(x:LI):ao:= .row Bool.false (.int .i64) x
def Roo(x:LJ):ao:= .row Bool.false (.sl (.int .i64)) x
open Go.Am.D renaming test → T, bnd → B, len → N, nat → V, ltN → U, rd → E, ofN → O, wrap → Z, add → A, sub → M
open Go.Am.DJ renaming jn_eq → jn
open Go.Am.Code (cA cB cC cT)
def fD(k:Nat)(a0:LI)(a1:Int):Option Int:=call k 59 (a0,a1)
theorem fD.eq(k:Nat)(a0 a1):fD (k+1) a0 a1=T (D.lt (Z .i64 (M a1 (O (N a0)))) 0) (some (-1)) (some (Z .i64 (M a1 (O (N a0))))):=by kernel_rfl
def gR(k:Nat)(a0:(LI)×(LI))(a1:Int):Option Int:=call k 17 (a0,a1)
theorem gR.eq(k:Nat)(a0 a1):gR (k+1) a0 a1=B (fD k a0.1 a1) fun r0=>T (D.lt r0 0) (some (-1)) (B (fD k a0.2 r0) fun r1=>T (D.lt r1 0) (some (-1)) (some r1)):=by kernel_rfl
def c1:Code:=cB (cB (di P 27))
def cm(k:Nat)(a0:LI):Option LI:=call k 27 a0
def cm.L0(k j:Nat)(x0:Int)(x1 x2:LI):Option LI:=LL k 27 (cC (cC (cB (cA c1)))) j (bI 0 (JK k 27 (cB c1) (R0 27))) [frm 22 [(0,Sl 0),(3,Sl 1),(4,In x0)]] [Ro x1,Rw x2]
theorem cm.eq(k:Nat)(a0):cm (k+1) a0=T (D.le 0 (O (N a0))) (T (D.le (O (N a0)) (O (N a0))) (T (D.leN (V (O (N a0))) 1099511627776) (cm.L0 k k 0 a0 (D.rep (V (O (N a0))) (0:Int))) none) none) none:=by kernel_rfl
theorem cm.bP(k j:Nat)(x0 x1 x2):cm.L0 k (j+1) x0 x1 x2=T (D.lt x0 (O (N x1))) (T (D.le 0 x0) (T (U (V x0) (N x1)) (T (U (V x0) (N x1)) (T (D.le 0 x0) (T (U (V x0) (N x2)) (T (U (V x0) (N x2)) (cm.L0 k j (Z .i64 (A x0 1)) x1 (D.set x2 (V x0) (E x1 (V x0) 0))) none) none) none) none) none) none) (some x2):=(jn _ _).trans (by kernel_rfl)
def eX(k:Nat)(a0:(LI)×(LI)):Option ((LI)×(LI)):=call k 19 a0
theorem eX.eq(k:Nat)(a0):eX (k+1) a0=B (cm k a0.1) fun r0=>B (cm k a0.2) fun r1=>some (r0,r1):=by kernel_rfl
def iQ(k:Nat)(a0 a1 a2:Int):Option Bool:=call k 92 (a0,a1,a2)
theorem iQ.eq(k:Nat)(a0 a1 a2):iQ (k+1) a0 a1 a2=T (D.le a1 a0) (some (D.le a0 a2)) (some false):=by kernel_rfl
def c2:Code:=cB (cB (di P 98))
def c3:Code:=cC (cC (cB (cA c2)))
def K4(k:Nat):cY (den (resTy P 98)):=bI 0 (JK k 98 (cB c2) (R0 98))
def c5:Code:=cB c3
def aC(k:Nat)(a0:LI):Option Bool:=call k 98 a0
def aC.L0(k j:Nat)(x0 x1:Int)(x2:LI):Option Bool:=LL k 98 c3 j (K4 k) [frm 41 [(0,Sl 0),(3,In x0),(4,In x1)]] [Ro x2]
def aC.J1(k k1:Nat)(x0 x1:Int)(x2:LI):Option Bool:=JJ k 98 (cB (cC (cA c5))) (bI 1 (JK k 98 (cB c5) (LK k 98 c3 k1 (K4 k)))) [frm 41 [(0,Sl 0),(3,In x0),(4,In x1)]] [Ro x2]
theorem aC.eq(k:Nat)(a0):aC (k+1) a0=aC.L0 k k 0 0 a0:=by kernel_rfl
theorem aC.bP(k j:Nat)(x0 x1 x2):aC.L0 k (j+1) x0 x1 x2=T (D.lt x1 (O (N x2))) (T (D.le 0 x1) (T (U (V x1) (N x2)) (T (U (V x1) (N x2)) (B (iQ k (E x2 (V x1) 0) 1 9) fun r0=>T (D.no r0) (some false) (T (D.lt 0 x1) (T (D.le 0 x1) (T (U (V x1) (N x2)) (T (U (V x1) (N x2)) (T (D.le 0 (Z .i64 (M x1 1))) (T (U (V (Z .i64 (M x1 1))) (N x2)) (T (U (V (Z .i64 (M x1 1))) (N x2)) (T (D.lt (E x2 (V (Z .i64 (M x1 1))) 0) (E x2 (V x1) 0)) (some false) (aC.J1 k j x0 x1 x2)) none) none) none) none) none) none) (aC.J1 k j x0 x1 x2))) none) none) none) (some true):=(jn _ _).trans (by kernel_rfl)
theorem aC.j2(k k1:Nat)(x0 x1 x2):aC.J1 k k1 x0 x1 x2=T (D.le 0 x1) (T (U (V x1) (N x2)) (T (U (V x1) (N x2)) (T (D.lt 9 (Z .i64 (A x0 (E x2 (V x1) 0)))) (some false) (aC.L0 k k1 (Z .i64 (A x0 (E x2 (V x1) 0))) (Z .i64 (A x1 1)) x2)) none) none) none:=(jn _ _).trans (by kernel_rfl)
def c6:Code:=cB (cB (di P 103))
def ba(k:Nat)(a0 a1:LI):Option Bool:=call k 103 (a0,a1)
def ba.J0(k:Nat)(x0 x1:LI):Option Bool:=JJ k 103 c6 (R0 103) [frm 36 [(0,Sl 0),(1,Sl 1)]] [Ro x0,Ro x1]
def ba.L1(k j:Nat)(x0:Int)(x1 x2:LI):Option Bool:=LL k 103 (cC (cC (cB (cA c6)))) j (bI 0 (JK k 103 (cB c6) (R0 103))) [frm 36 [(0,Sl 0),(1,Sl 1),(5,In x0)]] [Ro x1,Ro x2]
theorem ba.eq(k:Nat)(a0 a1):ba (k+1) a0 a1=B (aC k a0) fun r0=>T (D.no r0) (some false) (B (aC k a1) fun r1=>T (D.no r1) (some false) (T (D.lt (O (N a1)) (O (N a0))) (some false) (ba.J0 k a0 a1))):=by kernel_rfl
theorem ba.lf(k:Nat)(x0 x1):ba.J0 k x0 x1=ba.L1 k k 0 x0 x1:=(jn _ _).trans (by kernel_rfl)
theorem ba.fX(k j:Nat)(x0 x1 x2):ba.L1 k (j+1) x0 x1 x2=T (D.lt x0 (O (N x1))) (T (D.le 0 x0) (T (U (V x0) (N x1)) (T (U (V x0) (N x1)) (T (D.le 0 x0) (T (U (V x0) (N x2)) (T (U (V x0) (N x2)) (T (D.lt (E x2 (V x0) 0) (E x1 (V x0) 0)) (some false) (ba.L1 k j (Z .i64 (A x0 1)) x1 x2)) none) none) none) none) none) none) (some true):=(jn _ _).trans (by kernel_rfl)
def fz(k:Nat)(a0:(LI)×(LI)):Option Bool:=call k 60 a0
theorem fz.eq(k:Nat)(a0):fz (k+1) a0=B (ba k a0.2 a0.1) fun r0=>some r0:=by kernel_rfl
def c7:Code:=cB (cB (di P 104))
def bC(k:Nat)(a0:LI):Option Int:=call k 104 a0
def bC.L0(k j:Nat)(x0 x1:Int)(x2:LI):Option Int:=LL k 104 (cC (cC (cB (cA c7)))) j (bI 0 (JK k 104 (cB c7) (R0 104))) [frm 18 [(0,Sl 0),(3,In x0),(4,In x1)]] [Ro x2]
theorem bC.eq(k:Nat)(a0):bC (k+1) a0=bC.L0 k k 0 0 a0:=by kernel_rfl
theorem bC.bP(k j:Nat)(x0 x1 x2):bC.L0 k (j+1) x0 x1 x2=T (D.lt x1 (O (N x2))) (T (D.le 0 x1) (T (U (V x1) (N x2)) (T (U (V x1) (N x2)) (bC.L0 k j (Z .i64 (A x0 (E x2 (V x1) 0))) (Z .i64 (A x1 1)) x2) none) none) none) (some x0):=(jn _ _).trans (by kernel_rfl)
def c8:Code:=cB (cB (di P 105))
def b6(k:Nat)(a0:LI)(a1:Int):Option ((LI)×Bool):=call k 105 (a0,a1)
def b6.J0(k:Nat)(x0:Int)(x1:LI):Option ((LI)×Bool):=JJ k 105 c8 (R0 105) [frm 44 [(0,Sl 0),(1,In x0)]] [Ro x1]
def b6.J1(k:Nat)(x0:Int)(x1:LI):Option ((LI)×Bool):=JJ k 105 (cB (cB c8)) (R0 105) [frm 44 [(1,In x0),(6,Sl 0)]] [Rw x1]
theorem b6.eq(k:Nat)(a0 a1):b6 (k+1) a0 a1=B (aC k a0) fun r0=>T (D.no r0) (some (([]:LI),false)) (T (D.lt a1 0) (some (([]:LI),false)) (T (D.lt (O (N a0)) a1) (some (([]:LI),false)) (b6.J0 k a1 a0))):=by kernel_rfl
theorem b6.lf(k:Nat)(x0 x1):b6.J0 k x0 x1=T (D.leN (N (D.app ([]:LI) x1)) 1099511627776) (T (D.eq x0 (O (N x1))) (T (D.leN (N (D.app (D.app ([]:LI) x1) (0::([]:LI)))) 1099511627776) (b6.J1 k x0 (D.app (D.app ([]:LI) x1) (0::([]:LI)))) none) (b6.J1 k x0 (D.app ([]:LI) x1))) none:=(jn _ _).trans (by kernel_rfl)
theorem b6.j2(k:Nat)(x0 x1):b6.J1 k x0 x1=T (D.le 0 x0) (T (U (V x0) (N x1)) (T (U (V x0) (N x1)) (T (D.le 0 x0) (T (U (V x0) (N x1)) (T (U (V x0) (N x1)) (B (aC k (D.set x1 (V x0) (Z .i64 (A (E x1 (V x0) 0) 1)))) fun r1=>T (D.no r1) (some (([]:LI),false)) (some ((D.set x1 (V x0) (Z .i64 (A (E x1 (V x0) 0) 1))),true))) none) none) none) none) none) none:=(jn _ _).trans (by kernel_rfl)
def c9:Code:=cB (cB (cB (cB (di P 61))))
def c10:Code:=cC (cC (cB (cA c9)))
def K11(k:Nat):cY (den (resTy P 61)):=bI 0 (JK k 61 (cB c9) (oT (rj P 61 (zr P 61))))
def aK(k:Nat)(a0:LI)(a1:LJ):Option (List LJ):=IX k 61 (a0,a1)
def aK.L0(k j x0:Nat)(x1:Int)(x2:LI)(x3:LJ)(x4:List LJ):Option (List LJ):=LL k 61 c10 j (K11 k) [frm 53 [(0,Sl 0),(1,Sl 1),(5,.sl 1 [(x0,0)] Option.none),(6,Sl 2),(7,In x1)]] [Ro x2,Roo x3,.sh (.sl (.sl (.int .i64))) x4]
def aK.J1(k k1 x0:Nat)(x1:Int)(x2:LI)(x3:LJ)(x4:List LJ):Option (List LJ):=JJ k 61 (cB (cB c10)) (LK k 61 c10 k1 (K11 k)) [frm 53 [(0,Sl 0),(1,Sl 1),(5,.sl 1 [(x0,0)] Option.none),(6,Sl 2),(7,In x1)]] [Ro x2,Roo x3,.sh (.sl (.sl (.int .i64))) x4]
theorem aK.eq(k:Nat)(a0 a1):aK (k+1) a0 a1=T (D.le 0 (Z .i64 (M (O (N a1)) 1))) (T (U (V (Z .i64 (M (O (N a1)) 1))) (N a1)) (T (U (V (Z .i64 (M (O (N a1)) 1))) (N a1)) (T (U (V (Z .i64 (M (O (N a1)) 1))) (N a1)) (B (bC k (E a1 (V (Z .i64 (M (O (N a1)) 1))) [])) fun r0=>B (bC k a0) fun r1=>T (D.eq r0 r1) (some (a1::([]:List LJ))) (aK.L0 k k (V (Z .i64 (M (O (N a1)) 1))) 0 a0 a1 ([]:List LJ))) none) none) none) none:=by kernel_rfl
theorem aK.bP(k j:Nat)(x0 x1 x2 x3 x4):aK.L0 k (j+1) x0 x1 x2 x3 x4=T (U x0 (N x3)) (T (D.le x1 (O (N (E x3 x0 [])))) (T (U x0 (N x3)) (B (b6 k (E x3 x0 []) x1) fun r2=>T r2.2 (B (ba k r2.1 x2) fun r3=>T r3 (T (D.leN (N (D.app ([]:LJ) x3)) 1099511627776) (T (D.leN (N (D.app (D.app ([]:LJ) x3) (r2.1::([]:LJ)))) 1099511627776) (B (aK k x2 (D.app (D.app ([]:LJ) x3) (r2.1::([]:LJ)))) fun r4=>T (D.leN (N (D.app x4 r4)) 1099511627776) (aK.J1 k j x0 x1 x2 x3 (D.app x4 r4)) none) none) none) (aK.J1 k j x0 x1 x2 x3 x4)) (aK.J1 k j x0 x1 x2 x3 x4)) none) (some x4)) none:=(jn _ _).trans (by kernel_rfl)
theorem aK.j2(k k1:Nat)(x0 x1 x2 x3 x4):aK.J1 k k1 x0 x1 x2 x3 x4=aK.L0 k k1 x0 (Z .i64 (A x1 1)) x2 x3 x4:=(jn _ _).trans (by kernel_rfl)
def cR(k:Nat)(a0:LI)(a1:Int):Option Int:=call k 96 (a0,a1)
def cR.J0(k:Nat)(x0:Int)(x1:LI):Option Int:=JJ k 96 (cB (cB (di P 96))) (R0 96) [frm 17 [(0,Sl 0),(1,In x0)]] [Ro x1]
theorem cR.eq(k:Nat)(a0 a1):cR (k+1) a0 a1=T (D.lt a1 0) (some 0) (T (D.le (O (N a0)) a1) (some 0) (cR.J0 k a1 a0)):=by kernel_rfl
theorem cR.lf(k:Nat)(x0 x1):cR.J0 k x0 x1=T (D.le 0 x0) (T (U (V x0) (N x1)) (T (U (V x0) (N x1)) (some (E x1 (V x0) 0)) none) none) none:=(jn _ _).trans (by kernel_rfl)
def c12:Code:=cB (cB (cB (di P 63)))
def c13:Code:=cC (cC (cB (cA c12)))
def K14(k:Nat):cY (den (resTy P 63)):=bI 0 (JK k 63 (cB c12) (R0 63))
def c15:Code:=cB c13
def c16:Code:=cB (cC (cA c15))
def c17:Code:=cC (cC (cB (cA c16)))
def K18(k k1:Nat):cY (den (resTy P 63)):=bI 2 (JK k 63 (cB c16) (bI 1 (JK k 63 (cB c15) (LK k 63 c13 k1 (K14 k)))))
def aF(k:Nat)(a0:LJ):Option ((LI)×(LJ)):=call k 63 a0
def aF.L0(k j x0:Nat)(x1:Int)(x2:LJ)(x3:LI)(x4:LJ)(x5:LI)(x6:LJ):Option ((LI)×(LJ)):=LL k 63 c13 j (K14 k) [frm 58 [(0,Sl 0),(2,.pv 1 0),(3,.pv 2 0),(4,.sl 0 [(x0,0)] Option.none),(5,In x1)]] [Roo x2,.var [Sl 3,Sl 4],.var [Sl 5,Sl 6],Rw x3,Rww x4,Rw x5,Rww x6]
def aF.L1(k k1 j x0:Nat)(x1 x2:Int)(x3:LJ)(x4 x5:LI)(x6:LJ)(x7:LI)(x8:LJ):Option ((LI)×(LJ)):=LL k 63 c17 j (K18 k k1) [frm 58 [(0,Sl 0),(2,.pv 1 0),(3,.pv 2 0),(4,.sl 0 [(x0,0)] Option.none),(5,In x1),(6,Sl 3),(7,In x2)]] [Roo x3,.var [Sl 4,Sl 5],.var [Sl 6,Sl 7],Rw x4,Rw x5,Rww x6,Rw x7,Rww x8]
def aF.J2(k k1 k2 x0:Nat)(x1 x2:Int)(x3:LJ)(x4 x5:LI)(x6:LJ)(x7:LI)(x8:LJ):Option ((LI)×(LJ)):=JJ k 63 (cB (cB c17)) (LK k 63 c17 k2 (K18 k k1)) [frm 58 [(0,Sl 0),(2,.pv 1 0),(3,.pv 2 0),(4,.sl 0 [(x0,0)] Option.none),(5,In x1),(6,Sl 3),(7,In x2)]] [Roo x3,.var [Sl 4,Sl 5],.var [Sl 6,Sl 7],Rw x4,Rw x5,Rww x6,Rw x7,Rww x8]
theorem aF.eq(k:Nat)(a0):aF (k+1) a0=T (D.le 0 0) (T (U (V 0) (N a0)) (T (U (V 0) (N a0)) (T (U (V 0) (N a0)) (T (D.leN (N (D.app ([]:LI) (E a0 (V 0) []))) 1099511627776) (T (D.le 0 (Z .i64 (M (O (N a0)) 1))) (T (U (V (Z .i64 (M (O (N a0)) 1))) (N a0)) (T (U (V (Z .i64 (M (O (N a0)) 1))) (N a0)) (aF.L0 k k (V (Z .i64 (M (O (N a0)) 1))) 0 a0 ([]:LI) ([]:LJ) (D.app ([]:LI) (E a0 (V 0) [])) ([]:LJ)) none) none) none) none) none) none) none) none:=by kernel_rfl
theorem aF.bP(k j:Nat)(x0 x1 x2 x3 x4 x5 x6):aF.L0 k (j+1) x0 x1 x2 x3 x4 x5 x6=T (U x0 (N x2)) (T (D.lt x1 (O (N (E x2 x0 [])))) (aF.L1 k j k x0 x1 1 x2 ([]:LI) x3 x4 x5 x6) (some (x5,x6))) none:=(jn _ _).trans (by kernel_rfl)
theorem aF.fX(k k1 j:Nat)(x0 x1 x2 x3 x4 x5 x6 x7 x8):aF.L1 k k1 (j+1) x0 x1 x2 x3 x4 x5 x6 x7 x8=T (D.lt x2 (O (N x3))) (T (D.le 0 x2) (T (U (V x2) (N x3)) (T (U (V x2) (N x3)) (T (U (V x2) (N x3)) (B (cR k (E x3 (V x2) []) x1) fun r0=>T (D.le 0 (Z .i64 (M x2 1))) (T (U (V (Z .i64 (M x2 1))) (N x3)) (T (U (V (Z .i64 (M x2 1))) (N x3)) (T (U (V (Z .i64 (M x2 1))) (N x3)) (B (cR k (E x3 (V (Z .i64 (M x2 1))) []) x1) fun r1=>T (D.lt r1 r0) (T (D.leN (N (D.app x4 (x2::([]:LI)))) 1099511627776) (aF.J2 k k1 j x0 x1 x2 x3 (D.app x4 (x2::([]:LI))) x5 x6 x7 x8) none) (aF.J2 k k1 j x0 x1 x2 x3 x4 x5 x6 x7 x8)) none) none) none) none) none) none) none) none) (T (D.leN (N (D.app x8 (x4::([]:LJ)))) 1099511627776) (aF.L0 k k1 x0 (Z .i64 (A x1 1)) x3 x5 x6 x7 (D.app x8 (x4::([]:LJ)))) none):=(jn _ _).trans (by kernel_rfl)
theorem aF.rO(k k1 k2:Nat)(x0 x1 x2 x3 x4 x5 x6 x7 x8):aF.J2 k k1 k2 x0 x1 x2 x3 x4 x5 x6 x7 x8=aF.L1 k k1 k2 x0 x1 (Z .i64 (A x2 1)) x3 x4 x5 x6 x7 x8:=(jn _ _).trans (by kernel_rfl)
def c19:Code:=cB (cB (cB (di P 101)))
def bG(k:Nat)(a0:(LI)×(LJ)):Option (((LI)×(LI))×Bool):=call k 101 a0
def bG.J0(k:Nat)(x0:LI)(x1:LJ)(x2 x3 x4 x5:LI):Option (((LI)×(LI))×Bool):=JJ k 101 c19 (R0 101) [frm 59 [(1,.pv 0 0),(2,.pv 1 0),(4,.pv 2 0)]] [.var [Sl 3,Sl 4],.var [Sl 5,Sl 6],.var [Sl 7,Sl 8],Ro x0,Roo x1,Rw x2,Rw x3,Rw x4,Rw x5]
def bG.L1(k j:Nat)(x0:Int)(x1:LI)(x2:LJ)(x3 x4 x5 x6:LI):Option (((LI)×(LI))×Bool):=LL k 101 (cC (cC (cB (cA c19)))) j (bI 0 (JK k 101 (cB c19) (R0 101))) [frm 59 [(1,.pv 0 0),(2,.pv 1 0),(4,.pv 2 0),(5,In x0)]] [.var [Sl 3,Sl 4],.var [Sl 5,Sl 6],.var [Sl 7,Sl 8],Ro x1,Roo x2,Rw x3,Rw x4,Rw x5,Rw x6]
theorem bG.eq(k:Nat)(a0):bG (k+1) a0=T (D.leN (N (D.app ([]:LI) a0.1)) 1099511627776) (B (aC k a0.1) fun r0=>T (D.no r0) (some ((([]:LI),([]:LI)),false)) (T (D.lt (O (N a0.2)) (O (N a0.1))) (some ((([]:LI),([]:LI)),false)) (T (D.lt 9 (O (N a0.2))) (some ((([]:LI),([]:LI)),false)) (bG.J0 k a0.1 a0.2 ([]:LI) ([]:LI) ([]:LI) (D.app ([]:LI) a0.1))))) none:=by kernel_rfl
theorem bG.lf(k:Nat)(x0 x1 x2 x3 x4 x5):bG.J0 k x0 x1 x2 x3 x4 x5=bG.L1 k k 0 x0 x1 x2 x3 x4 x5:=(jn _ _).trans (by kernel_rfl)
theorem bG.fX(k j:Nat)(x0 x1 x2 x3 x4 x5 x6):bG.L1 k (j+1) x0 x1 x2 x3 x4 x5 x6=T (D.lt x0 (O (N x2))) (B (cR k x1 x0) fun r1=>T (D.le 0 x0) (T (U (V x0) (N x2)) (T (U (V x0) (N x2)) (T (U (V x0) (N x2)) (T (D.leN (N (D.app x5 ((Z .i64 (A r1 (O (N (E x2 (V x0) [])))))::([]:LI)))) 1099511627776) (bG.L1 k j (Z .i64 (A x0 1)) x1 x2 x3 x4 (D.app x5 ((Z .i64 (A r1 (O (N (E x2 (V x0) [])))))::([]:LI))) x6) none) none) none) none) none) (B (fz k (x5,x6)) fun r2=>T (D.no r2) (some ((([]:LI),([]:LI)),false)) (some ((x5,x6),true))):=(jn _ _).trans (by kernel_rfl)
def c20:Code:=cB (cB (di P 137))
def bX(k:Nat)(a0:(LI)×(LJ))(a1 a2:Int):Option Int:=call k 137 (a0,a1,a2)
def bX.J0(k:Nat)(x0 x1:Int)(x2:LI)(x3:LJ):Option Int:=JJ k 137 c20 (R0 137) [frm 43 [(1,In x0),(2,In x1),(3,.pv 0 0)]] [.var [Sl 1,Sl 2],Ro x2,Roo x3]
def bX.J1(k:Nat)(x0 x1:Int)(x2:LI)(x3:LJ):Option Int:=JJ k 137 (cB (cB c20)) (R0 137) [frm 43 [(1,In x0),(3,.pv 0 0),(7,In x1)]] [.var [Sl 1,Sl 2],Ro x2,Roo x3]
theorem bX.eq(k:Nat)(a0 a1 a2):bX (k+1) a0 a1 a2=T (D.lt a1 0) (some 0) (T (D.le (O (N a0.2)) a1) (some 0) (bX.J0 k a1 a2 a0.1 a0.2)):=by kernel_rfl
theorem bX.lf(k:Nat)(x0 x1 x2 x3):bX.J0 k x0 x1 x2 x3=B (cR k x2 x0) fun r0=>T (D.lt (Z .i64 (M x1 r0)) 0) (some 0) (T (D.le 0 x0) (T (U (V x0) (N x3)) (T (U (V x0) (N x3)) (T (U (V x0) (N x3)) (T (D.le (O (N (E x3 (V x0) []))) (Z .i64 (M x1 r0))) (some 0) (bX.J1 k x0 (Z .i64 (M x1 r0)) x2 x3)) none) none) none) none):=(jn _ _).trans (by kernel_rfl)
theorem bX.j2(k:Nat)(x0 x1 x2 x3):bX.J1 k x0 x1 x2 x3=T (D.le 0 x0) (T (U (V x0) (N x3)) (T (U (V x0) (N x3)) (T (U (V x0) (N x3)) (T (D.le 0 x1) (T (U (V x1) (N (E x3 (V x0) []))) (T (U (V x0) (N x3)) (T (U (V x1) (N (E x3 (V x0) []))) (some (E (E x3 (V x0) []) (V x1) 0)) none) none) none) none) none) none) none) none:=(jn _ _).trans (by kernel_rfl)
def c21:Code:=cB (cB (cB (di P 95)))
def c22:Code:=cC (cC (cB (cA c21)))
def K23(k:Nat):cY (den (resTy P 95)):=bI 0 (JK k 95 (cB c21) (R0 95))
def c24:Code:=cB c22
def c25:Code:=cC (cC (cB (cC (cA c24))))
def K26(k k1:Nat):cY (den (resTy P 95)):=bI 2 (bI 1 (JK k 95 (cB c24) (LK k 95 c22 k1 (K23 k))))
def c27:Code:=cB c25
def c28:Code:=cB c27
def K29(k k1 k2:Nat):cY (den (resTy P 95)):=LK k 95 c25 k2 (K26 k k1)
def az(k:Nat)(a0:(LI)×(LJ)):Option Bool:=call k 95 a0
def az.L0(k j:Nat)(x0:Int)(x1:LI)(x2:LJ)(x3 x4:LI):Option Bool:=LL k 95 c22 j (K23 k) [frm 64 [(1,.pv 0 0),(3,.pv 1 0),(5,In x0)]] [.var [Sl 2,Sl 3],.var [Sl 4,Sl 5],Ro x1,Roo x2,Rw x3,Rw x4]
def az.L1(k k1 j:Nat)(x0 x1:Int)(x2:LI)(x3:LJ)(x4 x5:LI):Option Bool:=LL k 95 c25 j (K26 k k1) [frm 64 [(1,.pv 0 0),(3,.pv 1 0),(5,In x0),(6,In x1)]] [.var [Sl 2,Sl 3],.var [Sl 4,Sl 5],Ro x2,Roo x3,Rw x4,Rw x5]
def az.J2(k k1 k2:Nat)(x0 x1 x2 x3:Int)(x4:LI)(x5:LJ)(x6 x7:LI):Option Bool:=JJ k 95 (cB (cB (cB (cC (cA c27))))) (bI 3 (JK k 95 c28 (K29 k k1 k2))) [frm 64 [(1,.pv 0 0),(3,.pv 1 0),(5,In x0),(6,In x1),(7,In x2),(8,In x3)]] [.var [Sl 2,Sl 3],.var [Sl 4,Sl 5],Ro x4,Roo x5,Rw x6,Rw x7]
def az.J3(k k1 k2:Nat)(x0 x1:Int)(x2:LI)(x3:LJ)(x4 x5:LI):Option Bool:=JJ k 95 c28 (K29 k k1 k2) [frm 64 [(1,.pv 0 0),(3,.pv 1 0),(5,In x0),(6,In x1)]] [.var [Sl 2,Sl 3],.var [Sl 4,Sl 5],Ro x2,Roo x3,Rw x4,Rw x5]
theorem az.eq(k:Nat)(a0):az (k+1) a0=B (bG k (a0.1,a0.2)) fun r0=>T (D.no r0.2) (some false) (az.L0 k k 0 a0.1 a0.2 r0.1.1 r0.1.2):=by kernel_rfl
theorem az.bP(k j:Nat)(x0 x1 x2 x3 x4):az.L0 k (j+1) x0 x1 x2 x3 x4=T (D.lt x0 (O (N x3))) (B (cR k x4 x0) fun r1=>az.L1 k j k x0 r1 x1 x2 x3 x4) (some true):=(jn _ _).trans (by kernel_rfl)
theorem az.fX(k k1 j:Nat)(x0 x1 x2 x3 x4 x5):az.L1 k k1 (j+1) x0 x1 x2 x3 x4 x5=T (D.le 0 x0) (T (U (V x0) (N x4)) (T (U (V x0) (N x4)) (T (D.lt x1 (E x4 (V x0) 0)) (B (bX k (x2,x3) x0 x1) fun r2=>T (D.lt 0 x1) (B (bX k (x2,x3) x0 (Z .i64 (M x1 1))) fun r3=>az.J2 k k1 j x0 x1 r2 r3 x2 x3 x4 x5) (az.J2 k k1 j x0 x1 r2 0 x2 x3 x4 x5)) (az.L0 k k1 (Z .i64 (A x0 1)) x2 x3 x4 x5)) none) none) none:=(jn _ _).trans (by kernel_rfl)
theorem az.rO(k k1 k2:Nat)(x0 x1 x2 x3 x4 x5 x6 x7):az.J2 k k1 k2 x0 x1 x2 x3 x4 x5 x6 x7=B (iQ k x2 1 9) fun r4=>T (D.no r4) (some false) (T (D.lt x2 x3) (some false) (B (bX k (x4,x5) (Z .i64 (M x0 1)) x1) fun r5=>T (D.le x2 r5) (some false) (az.J3 k k1 k2 x0 x1 x4 x5 x6 x7))):=(jn _ _).trans (by kernel_rfl)
theorem az.An(k k1 k2:Nat)(x0 x1 x2 x3 x4 x5):az.J3 k k1 k2 x0 x1 x2 x3 x4 x5=az.L1 k k1 k2 x0 (Z .i64 (A x1 1)) x2 x3 x4 x5:=(jn _ _).trans (by kernel_rfl)
def c30:Code:=cB (cB (di P 97))
def c31:Code:=cC (cC (cB (cA c30)))
def K32(k:Nat):cY (den (resTy P 97)):=bI 0 (JK k 97 (cB c30) (R0 97))
def c33:Code:=cB c31
def cw(k:Nat)(a0:List ByteArray)(a1:ByteArray):Option ByteArray:=call k 97 (a0,a1)
def cw.L0(k j:Nat)(x0:ByteArray)(x1:Int)(x2:List ByteArray)(x3:LI):Option ByteArray:=LL k 97 c31 j (K32 k) [frm 27 [(0,Sl 0),(1,.str x0),(5,Sl 1),(6,In x1)]] [.row Bool.false .str x2,.row Bool.true (.int .u8) x3]
def cw.J1(k k1:Nat)(x0:ByteArray)(x1:Int)(x2:List ByteArray)(x3:LI):Option ByteArray:=JJ k 97 (cB (cC (cA c33))) (bI 1 (JK k 97 (cB c33) (LK k 97 c31 k1 (K32 k)))) [frm 27 [(0,Sl 0),(1,.str x0),(5,Sl 1),(6,In x1)]] [.row Bool.false .str x2,.row Bool.true (.int .u8) x3]
theorem cw.eq(k:Nat)(a0 a1):cw (k+1) a0 a1=cw.L0 k k a1 0 a0 ([]:LI):=by kernel_rfl
theorem cw.bP(k j:Nat)(x0 x1 x2 x3):cw.L0 k (j+1) x0 x1 x2 x3=T (D.lt x1 (O (N x2))) (T (D.lt 0 x1) (T (D.leN (N (D.app x3 (D.ints x0))) 1099511627776) (cw.J1 k j x0 x1 x2 (D.app x3 (D.ints x0))) none) (cw.J1 k j x0 x1 x2 x3)) (some (D.ofInts x3)):=(jn _ _).trans (by kernel_rfl)
theorem cw.j2(k k1:Nat)(x0 x1 x2 x3):cw.J1 k k1 x0 x1 x2 x3=T (D.le 0 x1) (T (U (V x1) (N x2)) (T (U (V x1) (N x2)) (T (D.leN (N (D.app x3 (D.ints (E x2 (V x1) (⟨#[]⟩:ByteArray))))) 1099511627776) (cw.L0 k k1 x0 (Z .i64 (A x1 1)) x2 (D.app x3 (D.ints (E x2 (V x1) (⟨#[]⟩:ByteArray))))) none) none) none) none:=(jn _ _).trans (by kernel_rfl)
def c34:Code:=cB (cB (cB (cB (di P 56))))
def c35:Code:=cC (cC (cA c34))
def K36(k:Nat):cY (den (resTy P 56)):=bI 0 (JK k 56 (cB c34) (R0 56))
def bh(k:Nat)(a0:Int):Option ByteArray:=call k 56 a0
def bh.L0(k j:Nat)(x0:Int)(x1:Bool)(x2:ByteArray):Option ByteArray:=LL k 56 c35 j (K36 k) [frm 31 [(0,In x0),(3,.bool x1),(4,.str x2)]] []
def bh.J1(k k1:Nat)(x0:Int)(x1:Bool)(x2:ByteArray)(x3:Int):Option ByteArray:=JJ k 56 (cB (cB (cC (cB c35)))) (bI 1 (LK k 56 c35 k1 (K36 k))) [frm 31 [(0,In x0),(3,.bool x1),(4,.str x2),(5,In x3)]] []
theorem bh.eq(k:Nat)(a0):bh (k+1) a0=T (D.eq a0 0) (some (⟨#[48]⟩:ByteArray)) (bh.L0 k k a0 (D.lt a0 0) (⟨#[]⟩:ByteArray)):=by kernel_rfl
theorem bh.bP(k j:Nat)(x0 x1 x2):bh.L0 k (j+1) x0 x1 x2=T (D.no (D.eq x0 0)) (T (D.no (D.eq 10 0)) (T (D.lt (D.rem x0 10) 0) (bh.J1 k j x0 x1 x2 (Z .i64 (M 0 (D.rem x0 10)))) (bh.J1 k j x0 x1 x2 (D.rem x0 10))) none) (T x1 (T (D.leN (D.addN (D.lenS (⟨#[45]⟩:ByteArray)) (D.lenS x2)) 1099511627776) (some (D.catS (⟨#[45]⟩:ByteArray) x2)) none) (some x2)):=(jn _ _).trans (by kernel_rfl)
theorem bh.j2(k k1:Nat)(x0 x1 x2 x3):bh.J1 k k1 x0 x1 x2 x3=T (D.leN (D.addN (D.lenS (D.ofInts ((Z .u8 (Z .i64 (A 48 x3)))::([]:LI)))) (D.lenS x2)) 1099511627776) (T (D.no (D.eq 10 0)) (bh.L0 k k1 (Z .i64 (D.quo x0 10)) x1 (D.catS (D.ofInts ((Z .u8 (Z .i64 (A 48 x3)))::([]:LI))) x2)) none) none:=(jn _ _).trans (by kernel_rfl)
def c37:Code:=cB (cB (cB (cB (di P 53))))
def c38:Code:=cC (cC (cB (cA c37)))
def K39(k:Nat):cY (den (resTy P 53)):=bI 0 (JK k 53 (cB c37) (R0 53))
def c40:Code:=cB c38
def c41:Code:=cB (cC (cA c40))
def c42:Code:=cB c41
def K43(k k1:Nat):cY (den (resTy P 53)):=bI 1 (JK k 53 (cB c40) (LK k 53 c38 k1 (K39 k)))
def ar(k:Nat)(a0:(LI)×(LJ)):Option ByteArray:=call k 53 a0
def ar.L0(k j:Nat)(x0:Int)(x1:List ByteArray)(x2:LI)(x3:LJ):Option ByteArray:=LL k 53 c38 j (K39 k) [frm 60 [(1,.pv 0 0),(3,Sl 1),(4,In x0)]] [.var [Sl 2,Sl 3],.row Bool.true .str x1,Ro x2,Roo x3]
def ar.L1(k k1 j:Nat)(x0:Int)(x1:ByteArray)(x2:Int)(x3:List ByteArray)(x4:LI)(x5:LJ):Option ByteArray:=LL k 53 (cC (cC (cB (cA c41)))) j (bI 2 (JK k 53 c42 (K43 k k1))) [frm 60 [(1,.pv 0 0),(3,Sl 1),(4,In x0),(5,.str x1),(6,In x2)]] [.var [Sl 2,Sl 3],.row Bool.true .str x3,Ro x4,Roo x5]
def ar.L2(k k1 j:Nat)(x0:Int)(x1:ByteArray)(x2:Int)(x3:List ByteArray)(x4:LI)(x5:LJ):Option ByteArray:=LL k 53 (cC (cC (cB (cA c42)))) j (bI 4 (JK k 53 (cB c42) (K43 k k1))) [frm 60 [(1,.pv 0 0),(3,Sl 1),(4,In x0),(5,.str x1),(7,In x2)]] [.var [Sl 2,Sl 3],.row Bool.true .str x3,Ro x4,Roo x5]
theorem ar.eq(k:Nat)(a0):ar (k+1) a0=B (az k (a0.1,a0.2)) fun r0=>T (D.no r0) (some (⟨#[]⟩:ByteArray)) (T (D.eq (O (N a0.2)) 0) (some (⟨#[45]⟩:ByteArray)) (ar.L0 k k 0 ([]:List ByteArray) a0.1 a0.2)):=by kernel_rfl
theorem ar.bP(k j:Nat)(x0 x1 x2 x3):ar.L0 k (j+1) x0 x1 x2 x3=T (D.lt x0 (O (N x3))) (ar.L1 k j k x0 (⟨#[]⟩:ByteArray) 0 x1 x2 x3) (B (cw k x1 (⟨#[47]⟩:ByteArray)) fun r1=>some r1):=(jn _ _).trans (by kernel_rfl)
theorem ar.fX(k k1 j:Nat)(x0 x1 x2 x3 x4 x5):ar.L1 k k1 (j+1) x0 x1 x2 x3 x4 x5=B (cR k x4 x0) fun r2=>T (D.lt x2 r2) (T (D.leN (D.addN (D.lenS x1) (D.lenS (⟨#[46]⟩:ByteArray))) 1099511627776) (ar.L1 k k1 j x0 (D.catS x1 (⟨#[46]⟩:ByteArray)) (Z .i64 (A x2 1)) x3 x4 x5) none) (ar.L2 k k1 k x0 x1 0 x3 x4 x5):=(jn _ _).trans (by kernel_rfl)
theorem ar.uw(k k1 j:Nat)(x0 x1 x2 x3 x4 x5):ar.L2 k k1 (j+1) x0 x1 x2 x3 x4 x5=T (D.le 0 x0) (T (U (V x0) (N x5)) (T (U (V x0) (N x5)) (T (U (V x0) (N x5)) (T (D.lt x2 (O (N (E x5 (V x0) [])))) (T (D.le 0 x0) (T (U (V x0) (N x5)) (T (U (V x0) (N x5)) (T (U (V x0) (N x5)) (T (D.le 0 x2) (T (U (V x2) (N (E x5 (V x0) []))) (T (U (V x0) (N x5)) (T (U (V x2) (N (E x5 (V x0) []))) (B (bh k (E (E x5 (V x0) []) (V x2) 0)) fun r3=>T (D.leN (D.addN (D.lenS x1) (D.lenS r3)) 1099511627776) (ar.L2 k k1 j x0 (D.catS x1 r3) (Z .i64 (A x2 1)) x3 x4 x5) none) none) none) none) none) none) none) none) none) (T (D.leN (N (D.app x3 (x1::([]:List ByteArray)))) 1099511627776) (ar.L0 k k1 (Z .i64 (A x0 1)) (D.app x3 (x1::([]:List ByteArray))) x4 x5) none)) none) none) none) none:=(jn _ _).trans (by kernel_rfl)
def c44:Code:=cB (cB (cB (cB (di P 18))))
def c45:Code:=cC (cC (cB (cA c44)))
def K46(k:Nat):cY (den (resTy P 18)):=bI 0 (JK (k+1) 18 (cB c44) (R0 18))
def c47:Code:=cB (cB (di P 62))
def c48:Code:=cC (cC (cA c47))
def c49:Code:=cB c47
def c50:Code:=cB c45
def c51:Code:=cC (cA c50)
def K52(k k1:Nat):cY (den (resTy P 18)):=oT (im P (zr P 62) (fun z9 z10=>St.force (St.put z10 (Go.Oper.dst (AN (Code.ops c51) 6)) (qh z9)) ((fun z11 z12=>gY (Code.ops c51) 6 (AN (Code.ops c51) 6) z12 ((fun z13 z14=>eE P cfg (nu P cfg ext (k+1)) Option.none (Code.ops c51) [7] (trN 7) z14 (fun z15 z16=>bI 1 (JK (k+1) 18 (cB c50) (LK (k+1) 18 c45 k1 (K46 k))) .normal z16)) z11)) (Touch.mk [] [] [] Bool.true))))
def K53(k k1:Nat):cY (den (resTy P 18)):=bI 0 (JK k 62 c49 (K52 k k1))
def ak(k:Nat)(a0:(LI)×(LI)):Option (List ((LI)×(LJ))):=call k 18 a0
def ak.L0(k j:Nat)(x0:Int)(x1:List ((LI)×(LJ)))(x2:List LJ):Option (List ((LI)×(LJ))):=LL (k+1) 18 c45 j (K46 k) [frm 33 [(3,Sl 0),(4,Sl 1),(5,In x0)]] [.row Bool.true (.pair (.sl (.int .i64)) (.sl (.sl (.int .i64)))) x1,.row Bool.false (.sl (.sl (.int .i64))) x2]
def ak.L1(k k1 j:Nat)(x0 x1 x2 x3:Int)(x4:Bool)(x5:Int)(x6 x7:Nat)(x8:List ((LI)×(LJ)))(x9:List LJ)(x10:LI)(x11:LJ):Option (List ((LI)×(LJ))):=LL k 62 c48 j (K53 k k1) [frm 37 [(0,Sl 0),(3,.pv 1 0),(5,In x0)],frm 33 [(3,Sl 0),(4,Sl 2),(5,In x1),(19,In x2),(20,Sl 2),(21,In x3),(22,.bool x4),(25,Sl 0),(26,Sl 2),(27,In x5),(28,.pe 2 [] x6 0),(29,.sl 2 [(x7,0)] Option.none),(30,.agg [Sl 3,Sl 4])]] [.row Bool.true (.pair (.sl (.int .i64)) (.sl (.sl (.int .i64)))) x8,.var [Sl 3,Sl 4],.row Bool.false (.sl (.sl (.int .i64))) x9,Rw x10,Rww x11]
def ak.J2(k k1 k2:Nat)(x0 x1 x2 x3:Int)(x4:Bool)(x5:Int)(x6 x7:Nat)(x8:List ((LI)×(LJ)))(x9:List LJ)(x10:LI)(x11:LJ):Option (List ((LI)×(LJ))):=JJ k 62 (cB c48) (LK k 62 c48 k2 (K53 k k1)) [frm 37 [(0,Sl 0),(3,.pv 1 0),(5,In x0)],frm 33 [(3,Sl 0),(4,Sl 2),(5,In x1),(19,In x2),(20,Sl 2),(21,In x3),(22,.bool x4),(25,Sl 0),(26,Sl 2),(27,In x5),(28,.pe 2 [] x6 0),(29,.sl 2 [(x7,0)] Option.none),(30,.agg [Sl 3,Sl 4])]] [.row Bool.true (.pair (.sl (.int .i64)) (.sl (.sl (.int .i64)))) x8,.var [Sl 3,Sl 4],.row Bool.false (.sl (.sl (.int .i64))) x9,Rw x10,Rww x11]
def ak.J3(k k1:Nat)(x0 x1 x2 x3:Int)(x4:Bool)(x5:Int)(x6 x7:Nat)(x8:List ((LI)×(LJ)))(x9:List LJ)(x10:LI)(x11:LJ):Option (List ((LI)×(LJ))):=JJ k 62 c49 (K52 k k1) [frm 37 [(0,Sl 0),(3,.pv 1 0),(5,In x0)],frm 33 [(3,Sl 0),(4,Sl 2),(5,In x1),(19,In x2),(20,Sl 2),(21,In x3),(22,.bool x4),(25,Sl 0),(26,Sl 2),(27,In x5),(28,.pe 2 [] x6 0),(29,.sl 2 [(x7,0)] Option.none),(30,.agg [Sl 3,Sl 4])]] [.row Bool.true (.pair (.sl (.int .i64)) (.sl (.sl (.int .i64)))) x8,.var [Sl 3,Sl 4],.row Bool.false (.sl (.sl (.int .i64))) x9,Rw x10,Rww x11]
theorem ak.eq(k:Nat)(a0):ak (k+2) a0=B (fz (k+1) (a0.1,a0.2)) fun r0=>T (D.no r0) (some ([]:List ((LI)×(LJ)))) (T (D.leN (N (D.app ([]:LI) a0.2)) 1099511627776) (B (aK (k+1) a0.1 ((D.app ([]:LI) a0.2)::([]:LJ))) fun r1=>ak.L0 k (k+1) 0 ([]:List ((LI)×(LJ))) r1) none):=by kernel_rfl
theorem ak.bP(k j:Nat)(x0 x1 x2):ak.L0 k (j+1) x0 x1 x2=T (D.lt x0 (O (N x2))) (T (D.le 0 x0) (T (U (V x0) (N x2)) (T (U (V x0) (N x2)) (T (U (V x0) (N x2)) (B (aF (k+1) (E x2 (V x0) [])) fun r2=>ak.L1 k j k (O (N x1)) x0 x0 (O (N x2)) (D.lt x0 (O (N x2))) x0 (V x0) (V x0) x1 x2 r2.1 r2.2) none) none) none) none) (some x1):=(jn _ _).trans (by kernel_rfl)
theorem ak.fX(k k1 j:Nat)(x0 x1 x2 x3 x4 x5 x6 x7 x8 x9 x10 x11):ak.L1 k k1 (j+1) x0 x1 x2 x3 x4 x5 x6 x7 x8 x9 x10 x11=T (D.lt 0 x0) (T (D.le 0 (Z .i64 (M x0 1))) (T (U (V (Z .i64 (M x0 1))) (N x8)) (T (U (V (Z .i64 (M x0 1))) (N x8)) (T (U (V (Z .i64 (M x0 1))) (N x8)) (T (U (V (Z .i64 (M x0 1))) (N x8)) (B (ar k ((E x8 (V (Z .i64 (M x0 1))) (([]:LI),([]:LJ))).1,(E x8 (V (Z .i64 (M x0 1))) (([]:LI),([]:LJ))).2)) fun r3=>B (ar k (x10,x11)) fun r4=>T (D.no (D.or2 (D.ltS r3 r4) (D.eqS r3 r4))) (ak.J2 k k1 j x0 x1 x2 x3 x4 x5 x6 x7 x8 x9 x10 x11) (ak.J3 k k1 x0 x1 x2 x3 x4 x5 x6 x7 x8 x9 x10 x11)) none) none) none) none) none) (ak.J3 k k1 x0 x1 x2 x3 x4 x5 x6 x7 x8 x9 x10 x11):=(jn _ _).trans (by kernel_rfl)
theorem ak.rO(k k1 k2:Nat)(x0 x1 x2 x3 x4 x5 x6 x7 x8 x9 x10 x11):ak.J2 k k1 k2 x0 x1 x2 x3 x4 x5 x6 x7 x8 x9 x10 x11=ak.L1 k k1 k2 (Z .i64 (M x0 1)) x1 x2 x3 x4 x5 x6 x7 x8 x9 x10 x11:=(jn _ _).trans (by kernel_rfl)
theorem ak.An(k k1:Nat)(x0 x1 x2 x3 x4 x5 x6 x7 x8 x9 x10 x11):ak.J3 k k1 x0 x1 x2 x3 x4 x5 x6 x7 x8 x9 x10 x11=T (D.le 0 x0) (T (D.leN (V x0) (N x8)) (T (D.leN (N (D.app ([]:List ((LI)×(LJ))) (D.take (D.subN (N x8) (V x0)) (D.drop (V x0) x8)))) 1099511627776) (T (D.le 0 x0) (T (D.leN (V x0) (N (D.take (V x0) x8))) (T (D.leN (N (D.app (D.take (V x0) (D.take (V x0) x8)) ((x10,x11)::([]:List ((LI)×(LJ)))))) 1099511627776) (T (D.leN (N (D.app (D.app (D.take (V x0) (D.take (V x0) x8)) ((x10,x11)::([]:List ((LI)×(LJ))))) (D.app ([]:List ((LI)×(LJ))) (D.take (D.subN (N x8) (V x0)) (D.drop (V x0) x8))))) 1099511627776) (ak.L0 k k1 (Z .i64 (A x1 1)) (D.app (D.app (D.take (V x0) (D.take (V x0) x8)) ((x10,x11)::([]:List ((LI)×(LJ))))) (D.app ([]:List ((LI)×(LJ))) (D.take (D.subN (N x8) (V x0)) (D.drop (V x0) x8)))) x9) none) none) none) none) none) none) none:=(jn _ _).trans (by kernel_rfl)
def dS(k:Nat)(a0 a1 a2:Int):Option Bool:=call k 36 (a0,a1,a2)
theorem dS.eq(k:Nat)(a0 a1 a2):dS (k+1) a0 a1 a2=T (D.le a1 a0) (some (D.le a0 a2)) (some false):=by kernel_rfl
def c54:Code:=cB (cB (di P 89))
def c55:Code:=cC (cC (cB (cA c54)))
def K56(k:Nat):cY (den (resTy P 89)):=bI 0 (JK k 89 (cB c54) (R0 89))
def c57:Code:=cB (cB c55)
def aE(k:Nat)(a0:LI):Option Bool:=call k 89 a0
def aE.L0(k j:Nat)(x0 x1 x2:Int)(x3:LI):Option Bool:=LL k 89 c55 j (K56 k) [frm 35 [(0,Sl 0),(3,In x0),(6,Sl 0),(7,In x1),(8,In x2)]] [Ro x3]
def aE.J1(k k1:Nat)(x0 x1 x2 x3:Int)(x4:LI):Option Bool:=JJ k 89 (cB (cB (cC (cA c57)))) (bI 1 (JK k 89 (cB c57) (LK k 89 c55 k1 (K56 k)))) [frm 35 [(0,Sl 0),(3,In x0),(5,In x1),(6,Sl 0),(7,In x2),(8,In x3)]] [Ro x4]
theorem aE.eq(k:Nat)(a0):aE (k+1) a0=aE.L0 k k 0 (O (N a0)) 0 a0:=by kernel_rfl
theorem aE.bP(k j:Nat)(x0 x1 x2 x3):aE.L0 k (j+1) x0 x1 x2 x3=T (D.lt x2 x1) (T (D.le 0 x2) (T (U (V x2) (N x3)) (T (U (V x2) (N x3)) (B (dS k (E x3 (V x2) 0) 1 9) fun r0=>T (D.no r0) (some false) (T (D.lt 0 x2) (T (D.le 0 (Z .i64 (M x2 1))) (T (U (V (Z .i64 (M x2 1))) (N x3)) (T (U (V (Z .i64 (M x2 1))) (N x3)) (T (D.lt (E x3 (V (Z .i64 (M x2 1))) 0) (E x3 (V x2) 0)) (some false) (aE.J1 k j x0 (E x3 (V x2) 0) x1 x2 x3)) none) none) none) (aE.J1 k j x0 (E x3 (V x2) 0) x1 x2 x3))) none) none) none) (some true):=(jn _ _).trans (by kernel_rfl)
theorem aE.j2(k k1:Nat)(x0 x1 x2 x3 x4):aE.J1 k k1 x0 x1 x2 x3 x4=T (D.lt 9 (Z .i64 (A x0 x1))) (some false) (aE.L0 k k1 (Z .i64 (A x0 x1)) x2 (Z .i64 (A x3 1)) x4):=(jn _ _).trans (by kernel_rfl)
def eZ(k:Nat)(a0:LI)(a1:Int):Option Int:=call k 87 (a0,a1)
theorem eZ.eq(k:Nat)(a0 a1):eZ (k+1) a0 a1=B (dS k a1 0 (Z .i64 (M (O (N a0)) 1))) fun r0=>T (D.no r0) (some 0) (T (D.le 0 a1) (T (U (V a1) (N a0)) (T (U (V a1) (N a0)) (some (E a0 (V a1) 0)) none) none) none):=by kernel_rfl
def c58:Code:=cB (cB (di P 106))
def bt(k:Nat)(a0 a1:LI):Option Bool:=call k 106 (a0,a1)
def bt.J0(k:Nat)(x0 x1:LI):Option Bool:=JJ k 106 c58 (R0 106) [frm 28 [(0,Sl 0),(1,Sl 1)]] [Ro x0,Ro x1]
def bt.L1(k j:Nat)(x0 x1:Int)(x2 x3:LI):Option Bool:=LL k 106 (cC (cC (cB (cA c58)))) j (bI 0 (JK k 106 (cB c58) (R0 106))) [frm 28 [(1,Sl 0),(15,Sl 1),(16,In x0),(17,In x1)]] [Ro x2,Ro x3]
theorem bt.eq(k:Nat)(a0 a1):bt (k+1) a0 a1=B (aE k a0) fun r0=>T (D.no r0) (some false) (B (aE k a1) fun r1=>T (D.no r1) (some false) (bt.J0 k a0 a1)):=by kernel_rfl
theorem bt.lf(k:Nat)(x0 x1):bt.J0 k x0 x1=bt.L1 k k (O (N x0)) 0 x1 x0:=(jn _ _).trans (by kernel_rfl)
theorem bt.fX(k j:Nat)(x0 x1 x2 x3):bt.L1 k (j+1) x0 x1 x2 x3=T (D.lt x1 x0) (T (D.le 0 x1) (T (U (V x1) (N x3)) (T (U (V x1) (N x3)) (B (eZ k x2 x1) fun r2=>T (D.lt r2 (E x3 (V x1) 0)) (some false) (bt.L1 k j x0 (Z .i64 (A x1 1)) x2 x3)) none) none) none) (some true):=(jn _ _).trans (by kernel_rfl)
def ep(k:Nat)(a0:(LI)×(LI)):Option Bool:=call k 64 a0
theorem ep.eq(k:Nat)(a0):ep (k+1) a0=B (bt k a0.2 a0.1) fun r0=>some r0:=by kernel_rfl
def c59:Code:=cB (cB (di P 107))
def dD(k:Nat)(a0:LI):Option Int:=call k 107 a0
def dD.L0(k j:Nat)(x0 x1 x2:Int)(x3:LI):Option Int:=LL k 107 (cC (cC (cB (cA c59)))) j (bI 0 (JK k 107 (cB c59) (R0 107))) [frm 17 [(3,In x0),(6,Sl 0),(7,In x1),(8,In x2)]] [Ro x3]
theorem dD.eq(k:Nat)(a0):dD (k+1) a0=dD.L0 k k 0 (O (N a0)) 0 a0:=by kernel_rfl
theorem dD.bP(k j:Nat)(x0 x1 x2 x3):dD.L0 k (j+1) x0 x1 x2 x3=T (D.lt x2 x1) (T (D.le 0 x2) (T (U (V x2) (N x3)) (T (U (V x2) (N x3)) (dD.L0 k j (Z .i64 (A x0 (E x3 (V x2) 0))) x1 (Z .i64 (A x2 1)) x3) none) none) none) (some x0):=(jn _ _).trans (by kernel_rfl)
def eA(k:Nat)(a0:(LI)×(LI)):Option Int:=call k 67 a0
theorem eA.eq(k:Nat)(a0):eA (k+1) a0=B (ep k (a0.1,a0.2)) fun r0=>T (D.no r0) (some (-1)) (B (dD k a0.1) fun r1=>B (dD k a0.2) fun r2=>some (Z .i64 (M r1 r2))):=by kernel_rfl
def fq(k:Nat)(a0 a1:Int):Option (Int×Int):=call k 150 (a0,a1)
theorem fq.eq(k:Nat)(a0 a1):fq (k+1) a0 a1=T (D.le 0 32) (T (D.le 0 32) (T (D.le 0 32) (T (D.le 0 32) (T (D.le 0 32) (some ((Z .u64 (A (Z .u64 (A (Z .u64 (D.mul (D.shrI .u64 a0 32) (D.shrI .u64 a1 32))) (D.shrI .u64 (Z .u64 (A (Z .u64 (D.mul (D.shrI .u64 a0 32) (D.andI .u64 a1 4294967295))) (D.shrI .u64 (Z .u64 (D.mul (D.andI .u64 a0 4294967295) (D.andI .u64 a1 4294967295))) 32))) 32))) (D.shrI .u64 (Z .u64 (A (D.andI .u64 (Z .u64 (A (Z .u64 (D.mul (D.shrI .u64 a0 32) (D.andI .u64 a1 4294967295))) (D.shrI .u64 (Z .u64 (D.mul (D.andI .u64 a0 4294967295) (D.andI .u64 a1 4294967295))) 32))) 4294967295) (Z .u64 (D.mul (D.andI .u64 a0 4294967295) (D.shrI .u64 a1 32))))) 32))),(Z .u64 (D.mul a0 a1)))) none) none) none) none) none:=by kernel_rfl
def fF(k:Nat)(a0 a1:Int):Option (Int×Int):=call k 130 (a0,a1)
theorem fF.eq(k:Nat)(a0 a1):fF (k+1) a0 a1=B (fq k a0 a1) fun r0=>some (r0.1,r0.2):=by kernel_rfl
def c60:Code:=cB (cB (di P 113))
def c61:Code:=cB (cB c60)
def c62:Code:=cB (cB c61)
def au(k:Nat)(a0:LI)(a1:Int):Option LI:=call k 113 (a0,a1)
def au.J0(k:Nat)(x0:Int)(x1:LI):Option LI:=JJ k 113 c60 (R0 113) [frm 48 [(0,Sl 0),(1,In x0)]] [Ro x1]
def au.J1(k:Nat)(x0:Int)(x1:LI):Option LI:=JJ k 113 c61 (R0 113) [frm 48 [(0,Sl 0),(6,.int .u64 x0)]] [Ro x1]
def au.L2(k j:Nat)(x0:Int)(x1:LI):Option LI:=LL k 113 (cC (cC (cA c62))) j (bI 0 (JK k 113 (cB c62) (R0 113))) [frm 48 [(7,Sl 0),(8,In x0)]] [Rw x1]
theorem au.eq(k:Nat)(a0 a1):au (k+1) a0 a1=T (D.lt a1 0) none (au.J0 k a1 a0):=by kernel_rfl
theorem au.lf(k:Nat)(x0 x1):au.J0 k x0 x1=B (fF k (Z .u64 (O (N x1))) (Z .u64 x0)) fun r0=>T (D.lt 0 r0.1) none (T (D.lt 9223372036854775807 r0.2) none (au.J1 k r0.2 x1)):=(jn _ _).trans (by kernel_rfl)
theorem au.j2(k:Nat)(x0 x1):au.J1 k x0 x1=T (D.le 0 (Z .i64 x0)) (T (D.le (Z .i64 x0) (Z .i64 x0)) (T (D.leN (V (Z .i64 x0)) 1099511627776) (au.L2 k k (O (N (D.take (N (D.rep (V (Z .i64 x0)) (0:Int))) x1))) (D.app (D.take 0 (D.rep (V (Z .i64 x0)) (0:Int))) (D.app (D.take (N (D.rep (V (Z .i64 x0)) (0:Int))) x1) (D.drop (N (D.take (N (D.rep (V (Z .i64 x0)) (0:Int))) x1)) (D.rep (V (Z .i64 x0)) (0:Int)))))) none) none) none:=(jn _ _).trans (by kernel_rfl)
theorem au.uw(k j:Nat)(x0 x1):au.L2 k (j+1) x0 x1=T (D.lt x0 (O (N x1))) (T (D.le 0 x0) (T (D.leN (V x0) (N x1)) (T (D.le 0 x0) (T (D.leN (V x0) (N x1)) (au.L2 k j (Z .i64 (A x0 (O (N (D.take (D.subN (N x1) (V x0)) (D.take (D.subN (V x0) 0) (D.drop 0 x1))))))) (D.app (D.take (D.addN (V x0) 0) x1) (D.app (D.take (D.subN (N x1) (V x0)) (D.take (D.subN (V x0) 0) (D.drop 0 x1))) (D.drop (D.addN (V x0) (N (D.take (D.subN (N x1) (V x0)) (D.take (D.subN (V x0) 0) (D.drop 0 x1))))) x1)))) none) none) none) none) (some x1):=(jn _ _).trans (by kernel_rfl)
def j5(k:Nat)(a0:Int):Option LI:=call k 66 a0
theorem j5.eq(k:Nat)(a0):j5 (k+1) a0=B (au k (1::([]:LI)) a0) fun r0=>some r0:=by kernel_rfl
def bq(k:Nat)(a0:LI):Option LI:=call k 81 a0
theorem bq.eq(k:Nat)(a0):bq (k+1) a0=T (D.eqN (N a0) 0) (D.both (some ([]:LI)) (T (D.leN (N (D.app ([]:LI) a0)) 1099511627776) (some (D.app ([]:LI) a0)) none)) (T (D.leN (N (D.app ([]:LI) a0)) 1099511627776) (some (D.app ([]:LI) a0)) none):=by kernel_rfl
def c63:Code:=cB (cB (di P 138))
def bn(k:Nat)(a0:(LI)×(LJ)):Option ((LI)×(LJ)):=call k 138 a0
def bn.L0(k j:Nat)(x0 x1:Int)(x2:LJ)(x3:LI)(x4:LJ)(x5:LI)(x6:LJ):Option ((LI)×(LJ)):=LL k 138 (cC (cC (cB (cA c63)))) j (bI 0 (JK k 138 (cB c63) (R0 138))) [frm 26 [(2,.pv 0 0),(3,.pv 1 0),(11,Sl 2),(12,In x0),(13,In x1)]] [.var [Sl 3,Sl 4],.var [Sl 5,Sl 6],Roo x2,Rw x3,Rww x4,Rw x5,Rww x6]
theorem bn.eq(k:Nat)(a0):bn (k+1) a0=B (bq k a0.1) fun r0=>bn.L0 k k (O (N a0.2)) 0 a0.2 ([]:LI) ([]:LJ) r0 ([]:LJ):=by kernel_rfl
theorem bn.bP(k j:Nat)(x0 x1 x2 x3 x4 x5 x6):bn.L0 k (j+1) x0 x1 x2 x3 x4 x5 x6=T (D.lt x1 x0) (T (D.le 0 x1) (T (U (V x1) (N x2)) (T (U (V x1) (N x2)) (T (U (V x1) (N x2)) (B (bq k (E x2 (V x1) [])) fun r1=>T (D.leN (N (D.app x6 (r1::([]:LJ)))) 1099511627776) (bn.L0 k j x0 (Z .i64 (A x1 1)) x2 x3 x4 x5 (D.app x6 (r1::([]:LJ)))) none) none) none) none) none) (some (x5,x6)):=(jn _ _).trans (by kernel_rfl)
def ag(k:Nat)(x0 x1 x2:Int)(x3:LI)(x4:LJ)(x5:List ((LI)×(LJ)))(x6 x7 x8:LI):Option (PUnit×((LI)×((LJ)×(PUnit×(PUnit×(PUnit×(PUnit×(Int×(PUnit×(PUnit×(PUnit×(List ((LI)×(LJ)))))))))))))):=IO_ k 139 7 2 10 [.var [Sl 10,Sl 11],.var [Sl 7,Sl 8],.var [In 0],.var [Sl 12],.var [.fn 109 [] [.pv 6 0]],.var [.fn 139 [] (frm 6 [(0,.pv 0 0),(1,.pv 1 0),(2,.pv 2 0),(3,.pv 3 0),(4,.pv 4 0),(5,.pv 5 0)])],.var [Sl 9],Rw [],Rww [],.row Bool.true (.pair (.sl (.int .i64)) (.sl (.sl (.int .i64)))) [],Ro [],Ro [],Ro []] [frm 8 [(0,In x0),(1,In x1),(2,.pv 0 0),(3,.pv 1 0),(4,.pv 2 0),(5,.pv 3 0),(6,.pv 4 0),(7,.pv 5 0)],frm 13 [(0,.pv 0 0),(1,.pv 1 0),(2,.pv 2 0),(3,.pv 3 0),(4,.pv 4 0),(5,.pv 5 0),(6,.pv 6 0),(7,Sl 7),(8,Sl 8),(10,Sl 10),(11,Sl 11),(12,Sl 12)]] [.var [Sl 10,Sl 11],.var [Sl 7,Sl 8],.var [In x2],.var [Sl 12],.var [.fn 109 [] [.pv 6 0]],.var [.fn 139 [] (frm 6 [(0,.pv 0 0),(1,.pv 1 0),(2,.pv 2 0),(3,.pv 3 0),(4,.pv 4 0),(5,.pv 5 0)])],.var [Sl 9],Rw x3,Rww x4,.row Bool.true (.pair (.sl (.int .i64)) (.sl (.sl (.int .i64)))) x5,Ro x6,Ro x7,Ro x8]
def iZ(k:Nat)(x0:Int)(x1:LI)(x2:LJ)(x3:List ((LI)×(LJ)))(x4 x5 x6:LI):Option (PUnit×((LI)×((LJ)×(List ((LI)×(LJ)))))):=IO_ k 108 1 2 4 [.var [Sl 3],Rw [],Rww [],.row Bool.true (.pair (.sl (.int .i64)) (.sl (.sl (.int .i64)))) [],Ro [],Ro [],Ro []] [frm 5 [(0,.agg [Sl 4,Sl 5]),(1,.agg [Sl 1,Sl 2]),(2,In x0),(3,Sl 6),(4,.fn 109 [] [.pv 0 0])],frm 7 [(0,.pv 0 0),(1,Sl 1),(2,Sl 2),(4,Sl 4),(5,Sl 5),(6,Sl 6)]] [.var [Sl 3],Rw x1,Rww x2,.row Bool.true (.pair (.sl (.int .i64)) (.sl (.sl (.int .i64)))) x3,Ro x4,Ro x5,Ro x6]
def cE(k:Nat)(a0:(LI)×(LJ))(a1 a2:Int):Option Int:=call k 129 (a0,a1,a2)
theorem cE.eq(k:Nat)(a0 a1 a2):cE (k+1) a0 a1 a2=B (dS k a1 0 (Z .i64 (M (O (N a0.2)) 1))) fun r0=>T (D.no r0) (some 0) (T (D.le 0 a1) (T (U (V a1) (N a0.2)) (T (U (V a1) (N a0.2)) (B (eZ k a0.1 a1) fun r1=>T (U (V a1) (N a0.2)) (B (eZ k (E a0.2 (V a1) []) (Z .i64 (M a2 r1))) fun r2=>some r2) none) none) none) none):=by kernel_rfl
def c64:Code:=cC (cC (cB (cB (di P 139))))
def K65:cY (PUnit×((LI)×((LJ)×(PUnit×(PUnit×(PUnit×(PUnit×(Int×(PUnit×(PUnit×(PUnit×(List ((LI)×(LJ)))))))))))))):=bI 0 (oT (im P (zr P 139) (fun z4 z5=>tV P 139 7 2 10 [.var [Sl 10,Sl 11],.var [Sl 7,Sl 8],.var [In 0],.var [Sl 12],.var [.fn 109 [] [.pv 6 0]],.var [.fn 139 [] (frm 6 [(0,.pv 0 0),(1,.pv 1 0),(2,.pv 2 0),(3,.pv 3 0),(4,.pv 4 0),(5,.pv 5 0)])],.var [Sl 9],Rw [],Rww [],.row Bool.true (.pair (.sl (.int .i64)) (.sl (.sl (.int .i64)))) [],Ro [],Ro [],Ro []] z4 z5)))
def c66:Code:=cB c64
def c67:Code:=cB (cB (cB (cC (cA c66))))
def c68:Code:=cB c66
def K69(k k1:Nat):cY (PUnit×((LI)×((LJ)×(PUnit×(PUnit×(PUnit×(PUnit×(Int×(PUnit×(PUnit×(PUnit×(List ((LI)×(LJ)))))))))))))):=LK k 139 c64 k1 K65
def K70(k k1:Nat):cY (PUnit×((LI)×((LJ)×(PUnit×(PUnit×(PUnit×(PUnit×(Int×(PUnit×(PUnit×(PUnit×(List ((LI)×(LJ)))))))))))))):=bI 1 (JK k 139 c68 (K69 k k1))
def ag.L0(k j:Nat)(x0 x1 x2:Int)(x3:LI)(x4:LJ)(x5 x6 x7:LI)(x8:List ((LI)×(LJ))):Option (PUnit×((LI)×((LJ)×(PUnit×(PUnit×(PUnit×(PUnit×(Int×(PUnit×(PUnit×(PUnit×(List ((LI)×(LJ)))))))))))))):=LL k 139 c64 j K65 [frm 112 [(1,In x0),(2,.pv 0 0),(3,.pv 1 0),(4,.pv 2 0),(7,.pv 3 0),(10,In x1)],frm 13 [(0,.pv 0 0),(1,.pv 1 0),(2,.pv 2 0),(3,.pv 4 0),(4,.pv 5 0),(5,.pv 3 0),(6,.pv 6 0),(7,Sl 7),(8,Sl 8),(10,Sl 9),(11,Sl 10),(12,Sl 11)]] [.var [Sl 9,Sl 10],.var [Sl 7,Sl 8],.var [In x2],.var [.fn 139 [] (frm 6 [(0,.pv 0 0),(1,.pv 1 0),(2,.pv 2 0),(3,.pv 4 0),(4,.pv 5 0),(5,.pv 3 0)])],.var [Sl 11],.var [.fn 109 [] [.pv 6 0]],.var [Sl 12],Rw x3,Rww x4,Ro x5,Ro x6,Ro x7,.row Bool.true (.pair (.sl (.int .i64)) (.sl (.sl (.int .i64)))) x8]
def ag.J1(k k1:Nat)(x0 x1 x2:Int)(x3:Bool)(x4:Int)(x5:LI)(x6:LJ)(x7 x8 x9:LI)(x10:List ((LI)×(LJ))):Option (PUnit×((LI)×((LJ)×(PUnit×(PUnit×(PUnit×(PUnit×(Int×(PUnit×(PUnit×(PUnit×(List ((LI)×(LJ)))))))))))))):=JJ k 139 c67 (K70 k k1) [frm 112 [(1,In x0),(2,.pv 0 0),(3,.pv 1 0),(4,.pv 2 0),(7,.pv 3 0),(10,In x1),(11,In x2),(13,.bool x3)],frm 13 [(0,.pv 0 0),(1,.pv 1 0),(2,.pv 2 0),(3,.pv 4 0),(4,.pv 5 0),(5,.pv 3 0),(6,.pv 6 0),(7,Sl 7),(8,Sl 8),(10,Sl 9),(11,Sl 10),(12,Sl 11)]] [.var [Sl 9,Sl 10],.var [Sl 7,Sl 8],.var [In x4],.var [.fn 139 [] (frm 6 [(0,.pv 0 0),(1,.pv 1 0),(2,.pv 2 0),(3,.pv 4 0),(4,.pv 5 0),(5,.pv 3 0)])],.var [Sl 11],.var [.fn 109 [] [.pv 6 0]],.var [Sl 12],Rw x5,Rww x6,Ro x7,Ro x8,Ro x9,.row Bool.true (.pair (.sl (.int .i64)) (.sl (.sl (.int .i64)))) x10]
def ag.J2(k k1:Nat)(x0 x1 x2:Int)(x3:LI)(x4:LJ)(x5 x6 x7:LI)(x8:List ((LI)×(LJ))):Option (PUnit×((LI)×((LJ)×(PUnit×(PUnit×(PUnit×(PUnit×(Int×(PUnit×(PUnit×(PUnit×(List ((LI)×(LJ)))))))))))))):=JJ k 139 c68 (K69 k k1) [frm 112 [(1,In x0),(2,.pv 0 0),(3,.pv 1 0),(4,.pv 2 0),(7,.pv 3 0),(10,In x1)],frm 13 [(0,.pv 0 0),(1,.pv 1 0),(2,.pv 2 0),(3,.pv 4 0),(4,.pv 5 0),(5,.pv 3 0),(6,.pv 6 0),(7,Sl 7),(8,Sl 8),(10,Sl 9),(11,Sl 10),(12,Sl 11)]] [.var [Sl 9,Sl 10],.var [Sl 7,Sl 8],.var [In x2],.var [.fn 139 [] (frm 6 [(0,.pv 0 0),(1,.pv 1 0),(2,.pv 2 0),(3,.pv 4 0),(4,.pv 5 0),(5,.pv 3 0)])],.var [Sl 11],.var [.fn 109 [] [.pv 6 0]],.var [Sl 12],Rw x3,Rww x4,Ro x5,Ro x6,Ro x7,.row Bool.true (.pair (.sl (.int .i64)) (.sl (.sl (.int .i64)))) x8]
def ag.J3(k k1:Nat)(x0 x1 x2:Int)(x3:LI)(x4:LJ)(x5 x6 x7:LI)(x8:List ((LI)×(LJ))):Option (PUnit×((LI)×((LJ)×(PUnit×(PUnit×(PUnit×(PUnit×(Int×(PUnit×(PUnit×(PUnit×(List ((LI)×(LJ)))))))))))))):=JJ k 139 (cB c67) (K70 k k1) [frm 112 [(1,In x0),(2,.pv 0 0),(3,.pv 1 0),(4,.pv 2 0),(7,.pv 3 0),(10,In x1)],frm 13 [(0,.pv 0 0),(1,.pv 1 0),(2,.pv 2 0),(3,.pv 4 0),(4,.pv 5 0),(5,.pv 3 0),(6,.pv 6 0),(7,Sl 7),(8,Sl 8),(10,Sl 9),(11,Sl 10),(12,Sl 11)]] [.var [Sl 9,Sl 10],.var [Sl 7,Sl 8],.var [In x2],.var [.fn 139 [] (frm 6 [(0,.pv 0 0),(1,.pv 1 0),(2,.pv 2 0),(3,.pv 4 0),(4,.pv 5 0),(5,.pv 3 0)])],.var [Sl 11],.var [.fn 109 [] [.pv 6 0]],.var [Sl 12],Rw x3,Rww x4,Ro x5,Ro x6,Ro x7,.row Bool.true (.pair (.sl (.int .i64)) (.sl (.sl (.int .i64)))) x8]
theorem ag.eq(k:Nat)(x0 x1 x2 x3 x4 x5 x6 x7 x8):ag (k+1) x0 x1 x2 x3 x4 x5 x6 x7 x8=T (D.eq x1 0) (T (D.le 0 1) (T (D.leN (V 1) (N x8)) (B (iZ k (Z .i64 (A x2 1)) x3 x4 x5 x6 x7 (D.take (D.subN (N x8) (V 1)) (D.drop (V 1) x8))) fun r0=>some ((),(r0.2.1,(r0.2.2.1,((),((),((),((),(x2,((),((),((),r0.2.2.2)))))))))))) none) none) (ag.L0 k k x1 x0 x2 x3 x4 x6 x7 x8 x5):=by kernel_rfl
theorem ag.bP(k j:Nat)(x0 x1 x2 x3 x4 x5 x6 x7 x8):ag.L0 k (j+1) x0 x1 x2 x3 x4 x5 x6 x7 x8=T (D.lt x1 (O (N x5))) (B (eZ k x6 x1) fun r1=>T (D.le 0 x1) (T (U (V x1) (N x4)) (T (U (V x1) (N x4)) (T (U (V x1) (N x4)) (B (cE k (x3,x4) (Z .i64 (M x1 1)) (Z .i64 (A r1 (O (N (E x4 (V x1) [])))))) fun r2=>T (D.lt 0 x1) (B (eZ k x6 (Z .i64 (M x1 1))) fun r3=>T (D.le r3 (Z .i64 (A r1 (O (N (E x4 (V x1) [])))))) (T (D.eq r2 0) (ag.J1 k j x0 x1 (Z .i64 (A r1 (O (N (E x4 (V x1) []))))) true x2 x3 x4 x5 x6 x7 x8) (ag.J1 k j x0 x1 (Z .i64 (A r1 (O (N (E x4 (V x1) []))))) (D.eq r2 x2) x2 x3 x4 x5 x6 x7 x8)) (ag.J1 k j x0 x1 (Z .i64 (A r1 (O (N (E x4 (V x1) []))))) false x2 x3 x4 x5 x6 x7 x8)) (ag.J1 k j x0 x1 (Z .i64 (A r1 (O (N (E x4 (V x1) []))))) false x2 x3 x4 x5 x6 x7 x8)) none) none) none) none) (some ((),(x3,(x4,((),((),((),((),(x2,((),((),((),x8)))))))))))):=(jn _ _).trans (by kernel_rfl)
theorem ag.j2(k k1:Nat)(x0 x1 x2 x3 x4 x5 x6 x7 x8 x9 x10):ag.J1 k k1 x0 x1 x2 x3 x4 x5 x6 x7 x8 x9 x10=T (D.le 0 x1) (T (U (V x1) (N x7)) (T (U (V x1) (N x7)) (T (D.eq x2 (E x7 (V x1) 0)) (ag.J2 k k1 x0 x1 x4 x5 x6 x7 x8 x9 x10) (T x3 (ag.J2 k k1 x0 x1 x4 x5 x6 x7 x8 x9 x10) (ag.J3 k k1 x0 x1 x4 x5 x6 x7 x8 x9 x10))) none) none) none:=(jn _ _).trans (by kernel_rfl)
theorem ag.rO(k k1:Nat)(x0 x1 x2 x3 x4 x5 x6 x7 x8):ag.J2 k k1 x0 x1 x2 x3 x4 x5 x6 x7 x8=ag.L0 k k1 x0 (Z .i64 (A x1 1)) x2 x3 x4 x5 x6 x7 x8:=(jn _ _).trans (by kernel_rfl)
theorem ag.An(k k1:Nat)(x0 x1 x2 x3 x4 x5 x6 x7 x8):ag.J3 k k1 x0 x1 x2 x3 x4 x5 x6 x7 x8=T (D.le 0 x1) (T (U (V x1) (N x4)) (T (U (V x1) (N x4)) (T (U (V x1) (N x4)) (T (D.leN (N (D.app (E x4 (V x1) []) (x2::([]:LI)))) 1099511627776) (T (D.le 0 x1) (T (U (V x1) (N x4)) (T (U (V x1) (N x4)) (T (D.eqP (((V x1),0)::([]:List (Nat×Nat))) (((V x1),0)::([]:List (Nat×Nat)))) (B (ag k x1 (Z .i64 (M x0 1)) x2 x3 (D.set x4 (V x1) (D.app (E x4 (V x1) []) (x2::([]:LI)))) x8 x5 x6 x7) fun r4=>T (D.le 0 x1) (T (U (V x1) (N r4.2.2.1)) (T (U (V x1) (N r4.2.2.1)) (T (D.le 0 x1) (T (U (V x1) (N r4.2.2.1)) (T (U (V x1) (N r4.2.2.1)) (T (U (V x1) (N r4.2.2.1)) (T (U (V x1) (N r4.2.2.1)) (T (D.le 0 (Z .i64 (M (O (N (E r4.2.2.1 (V x1) []))) 1))) (T (D.leN (V (Z .i64 (M (O (N (E r4.2.2.1 (V x1) []))) 1))) (N (E r4.2.2.1 (V x1) []))) (T (D.le 0 x1) (T (U (V x1) (N r4.2.2.1)) (T (U (V x1) (N r4.2.2.1)) (T (U (V x1) (N r4.2.2.1)) (T (D.eqP (((V x1),0)::([]:List (Nat×Nat))) (((V x1),0)::([]:List (Nat×Nat)))) (ag.J2 k k1 x0 x1 r4.2.2.2.2.2.2.2.1 r4.2.1 (D.set r4.2.2.1 (V x1) (D.take (D.subN (V (Z .i64 (M (O (N (E r4.2.2.1 (V x1) []))) 1))) 0) (D.drop 0 (E r4.2.2.1 (V x1) [])))) x5 x6 x7 r4.2.2.2.2.2.2.2.2.2.2.2) none) none) none) none) none) none) none) none) none) none) none) none) none) none) none) none) none) none) none) none) none) none) none) none:=(jn _ _).trans (by kernel_rfl)
def aS(k:Nat)(x0:Int)(x1:LI)(x2:LJ)(x3:List ((LI)×(LJ)))(x4 x5 x6:LI):Option (PUnit×((LI)×((LJ)×(List ((LI)×(LJ)))))):=IO_ k 108 1 2 4 [.var [Sl 3],Rw [],Rww [],.row Bool.true (.pair (.sl (.int .i64)) (.sl (.sl (.int .i64)))) [],Ro [],Ro [],Ro []] [frm 5 [(0,.agg [Sl 4,Sl 5]),(1,.agg [Sl 1,Sl 2]),(2,In x0),(3,Sl 6),(4,.fn 109 [] [.pv 0 0])],frm 7 [(0,.pv 0 0),(1,Sl 1),(2,Sl 2),(4,Sl 4),(5,Sl 5),(6,Sl 6)]] [.var [Sl 3],Rw x1,Rww x2,.row Bool.true (.pair (.sl (.int .i64)) (.sl (.sl (.int .i64)))) x3,Ro x4,Ro x5,Ro x6]
theorem aS.eq(k:Nat)(x0 x1 x2 x3 x4 x5 x6):aS (k+2) x0 x1 x2 x3 x4 x5 x6=T (D.eq (O (N x6)) 0) (B (bn (k+1) (x1,x2)) fun r0=>T (D.leN (N (D.app x3 ((r0.1,r0.2)::([]:List ((LI)×(LJ)))))) 1099511627776) (some ((),(x1,(x2,(D.app x3 ((r0.1,r0.2)::([]:List ((LI)×(LJ))))))))) none) (T (D.le 0 0) (T (U (V 0) (N x6)) (T (U (V 0) (N x6)) (B (ag (k+1) 0 (E x6 (V 0) 0) x0 x1 x2 x3 x4 x5 x6) fun r1=>some ((),(r1.2.1,(r1.2.2.1,r1.2.2.2.2.2.2.2.2.2.2.2)))) none) none) none):=by kernel_rfl
def c71:Code:=cB (cB (di P 90))
def c72:Code:=cB c71
def bH(k:Nat)(a0:(LI)×(LJ)):Option (((LI)×(LI))×Bool):=call k 90 a0
def bH.J0(k:Nat)(x0:LI)(x1:LJ)(x2 x3:LI):Option (((LI)×(LI))×Bool):=JJ k 90 c71 (R0 90) [frm 51 [(1,.pv 0 0),(2,.pv 1 0)]] [.var [Sl 2,Sl 3],.var [Sl 4,Sl 5],Ro x0,Roo x1,Rw x2,Rw x3]
def bH.L1(k j:Nat)(x0 x1:Int)(x2:LJ)(x3 x4 x5 x6 x7:LI):Option (((LI)×(LI))×Bool):=LL k 90 (cC (cC (cB (cA c72)))) j (bI 0 (JK k 90 (cB c72) (R0 90))) [frm 51 [(1,.pv 0 0),(2,.pv 1 0),(4,.pv 2 0),(26,Sl 3),(27,In x0),(28,In x1)]] [.var [Sl 4,Sl 3],.var [Sl 5,Sl 6],.var [Sl 7,Sl 8],Roo x2,Ro x3,Rw x4,Rw x5,Rw x6,Rw x7]
theorem bH.eq(k:Nat)(a0):bH (k+1) a0=B (aE k a0.1) fun r0=>T (D.no r0) (some ((([]:LI),([]:LI)),false)) (T (D.lt (O (N a0.2)) (O (N a0.1))) (some ((([]:LI),([]:LI)),false)) (bH.J0 k a0.1 a0.2 ([]:LI) ([]:LI))):=by kernel_rfl
theorem bH.lf(k:Nat)(x0 x1 x2 x3):bH.J0 k x0 x1 x2 x3=B (bq k x0) fun r1=>bH.L1 k k (O (N x1)) 0 x1 x0 x2 x3 ([]:LI) r1:=(jn _ _).trans (by kernel_rfl)
theorem bH.fX(k j:Nat)(x0 x1 x2 x3 x4 x5 x6 x7):bH.L1 k (j+1) x0 x1 x2 x3 x4 x5 x6 x7=T (D.lt x1 x0) (T (D.le 0 x1) (T (U (V x1) (N x2)) (T (U (V x1) (N x2)) (B (eZ k x3 x1) fun r2=>T (U (V x1) (N x2)) (T (D.leN (N (D.app x6 ((Z .i64 (A r2 (O (N (E x2 (V x1) [])))))::([]:LI)))) 1099511627776) (bH.L1 k j x0 (Z .i64 (A x1 1)) x2 x3 x4 x5 (D.app x6 ((Z .i64 (A r2 (O (N (E x2 (V x1) [])))))::([]:LI))) x7) none) none) none) none) none) (B (ep k (x6,x7)) fun r3=>T (D.no r3) (some ((([]:LI),([]:LI)),false)) (some ((x6,x7),true))):=(jn _ _).trans (by kernel_rfl)
def c73:Code:=cB (cB (di P 85))
def c74:Code:=cC (cC (cB (cA c73)))
def K75(k:Nat):cY (den (resTy P 85)):=bI 0 (JK k 85 (cB c73) (R0 85))
def c76:Code:=cB (cB c74)
def c77:Code:=cC (cC (cB (cB (cC (cA c76)))))
def K78(k k1:Nat):cY (den (resTy P 85)):=bI 2 (bI 1 (JK k 85 (cB c76) (LK k 85 c74 k1 (K75 k))))
def aB(k:Nat)(a0:(LI)×(LJ)):Option Bool:=call k 85 a0
def aB.L0(k j:Nat)(x0 x1:Int)(x2:LJ)(x3:LI):Option Bool:=LL k 85 c74 j (K75 k) [frm 67 [(1,.pv 0 0),(17,Sl 1),(18,In x0),(19,In x1)]] [.var [Sl 2,Sl 1],Roo x2,Ro x3]
def aB.L1(k k1 j:Nat)(x0:Int)(x1:Nat)(x2 x3:Int)(x4:Nat)(x5 x6:Int)(x7:LJ)(x8:LI):Option Bool:=LL k 85 c77 j (K78 k k1) [frm 67 [(1,.pv 0 0),(5,In x0),(6,.sl 1 [(x1,0)] Option.none),(17,Sl 1),(18,In x2),(19,In x3),(24,.sl 1 [(x4,0)] Option.none),(25,In x5),(26,In x6)]] [.var [Sl 2,Sl 1],Roo x7,Ro x8]
def aB.J2(k k1 k2:Nat)(x0:Int)(x1:Nat)(x2 x3:Int)(x4:Nat)(x5 x6:Int)(x7:LJ)(x8:LI):Option Bool:=JJ k 85 (cB (cB (cB c77))) (LK k 85 c77 k2 (K78 k k1)) [frm 67 [(1,.pv 0 0),(5,In x0),(6,.sl 1 [(x1,0)] Option.none),(17,Sl 1),(18,In x2),(19,In x3),(24,.sl 1 [(x4,0)] Option.none),(25,In x5),(26,In x6)]] [.var [Sl 2,Sl 1],Roo x7,Ro x8]
theorem aB.eq(k:Nat)(a0):aB (k+1) a0=B (bH k (a0.1,a0.2)) fun r0=>T (D.no r0.2) (some false) (aB.L0 k k (O (N a0.2)) 0 a0.2 a0.1):=by kernel_rfl
theorem aB.bP(k j:Nat)(x0 x1 x2 x3):aB.L0 k (j+1) x0 x1 x2 x3=T (D.lt x1 x0) (T (D.le 0 x1) (T (U (V x1) (N x2)) (T (U (V x1) (N x2)) (T (U (V x1) (N x2)) (aB.L1 k j k x1 (V x1) x0 x1 (V x1) (O (N (E x2 (V x1) []))) 0 x2 x3) none) none) none) none) (some true):=(jn _ _).trans (by kernel_rfl)
theorem aB.fX(k k1 j:Nat)(x0 x1 x2 x3 x4 x5 x6 x7 x8):aB.L1 k k1 (j+1) x0 x1 x2 x3 x4 x5 x6 x7 x8=T (D.lt x6 x5) (T (U x4 (N x7)) (T (D.le 0 x6) (T (U (V x6) (N (E x7 x4 []))) (T (U x4 (N x7)) (T (U (V x6) (N (E x7 x4 []))) (B (dS k (E (E x7 x4 []) (V x6) 0) 1 9) fun r1=>T (D.no r1) (some false) (T (D.lt 0 x6) (T (U x1 (N x7)) (T (D.le 0 (Z .i64 (M x6 1))) (T (U (V (Z .i64 (M x6 1))) (N (E x7 x1 []))) (T (U x1 (N x7)) (T (U (V (Z .i64 (M x6 1))) (N (E x7 x1 []))) (T (D.lt (E (E x7 x4 []) (V x6) 0) (E (E x7 x1 []) (V (Z .i64 (M x6 1))) 0)) (some false) (T (D.lt 0 x0) (B (eZ k x8 x0) fun r2=>B (cE k (x8,x7) (Z .i64 (M x0 1)) (Z .i64 (A r2 x6))) fun r3=>T (D.le (E (E x7 x4 []) (V x6) 0) r3) (some false) (aB.J2 k k1 j x0 x1 x2 x3 x4 x5 x6 x7 x8)) (aB.J2 k k1 j x0 x1 x2 x3 x4 x5 x6 x7 x8))) none) none) none) none) none) (T (D.lt 0 x0) (B (eZ k x8 x0) fun r4=>B (cE k (x8,x7) (Z .i64 (M x0 1)) (Z .i64 (A r4 x6))) fun r5=>T (D.le (E (E x7 x4 []) (V x6) 0) r5) (some false) (aB.J2 k k1 j x0 x1 x2 x3 x4 x5 x6 x7 x8)) (aB.J2 k k1 j x0 x1 x2 x3 x4 x5 x6 x7 x8)))) none) none) none) none) none) (aB.L0 k k1 x2 (Z .i64 (A x3 1)) x7 x8):=(jn _ _).trans (by kernel_rfl)
theorem aB.rO(k k1 k2:Nat)(x0 x1 x2 x3 x4 x5 x6 x7 x8):aB.J2 k k1 k2 x0 x1 x2 x3 x4 x5 x6 x7 x8=aB.L1 k k1 k2 x0 x1 x2 x3 x4 x5 (Z .i64 (A x6 1)) x7 x8:=(jn _ _).trans (by kernel_rfl)
def strings_Repeat(k:Nat)(a0:ByteArray)(a1:Int):Option ByteArray:=call k 86 (a0,a1)
theorem strings_Repeat.eq(k:Nat)(a0 a1):strings_Repeat (k+1) a0 a1=ym a0 a1:=by kernel_rfl
def strconv_Itoa(k:Nat)(a0:Int):Option ByteArray:=call k 91 a0
theorem strconv_Itoa.eq(k:Nat)(a0):strconv_Itoa (k+1) a0=sH a0:=by kernel_rfl
def fK(k:Nat)(a0:Int):Option ByteArray:=call k 45 a0
theorem fK.eq(k:Nat)(a0):fK (k+1) a0=B (strconv_Itoa k a0) fun r0=>some r0:=by kernel_rfl
def strings_Join(k:Nat)(a0:List ByteArray)(a1:ByteArray):Option ByteArray:=call k 84 (a0,a1)
theorem strings_Join.eq(k:Nat)(a0 a1):strings_Join (k+1) a0 a1=sV a0 a1:=by kernel_rfl
def iW(k:Nat)(a0:List ByteArray)(a1:ByteArray):Option ByteArray:=call k 41 (a0,a1)
theorem iW.eq(k:Nat)(a0 a1):iW (k+1) a0 a1=B (strings_Join k a0 a1) fun r0=>some r0:=by kernel_rfl
def c79:Code:=cB (cB (di P 88))
def cN(k:Nat)(a0:LI)(a1:ByteArray):Option ByteArray:=call k 88 (a0,a1)
def cN.L0(k j:Nat)(x0:ByteArray)(x1 x2:Int)(x3:List ByteArray)(x4:LI):Option ByteArray:=LL k 88 (cC (cC (cB (cA c79)))) j (bI 0 (JK k 88 (cB c79) (R0 88))) [frm 24 [(1,.str x0),(5,Sl 0),(9,Sl 1),(10,In x1),(11,In x2)]] [.row Bool.true .str x3,Ro x4]
theorem cN.eq(k:Nat)(a0 a1):cN (k+1) a0 a1=cN.L0 k k a1 (O (N a0)) 0 ([]:List ByteArray) a0:=by kernel_rfl
theorem cN.bP(k j:Nat)(x0 x1 x2 x3 x4):cN.L0 k (j+1) x0 x1 x2 x3 x4=T (D.lt x2 x1) (T (D.le 0 x2) (T (U (V x2) (N x4)) (T (U (V x2) (N x4)) (B (fK k (E x4 (V x2) 0)) fun r0=>T (D.leN (N (D.app x3 (r0::([]:List ByteArray)))) 1099511627776) (cN.L0 k j x0 x1 (Z .i64 (A x2 1)) (D.app x3 (r0::([]:List ByteArray))) x4) none) none) none) none) (B (iW k x3 x0) fun r1=>some r1):=(jn _ _).trans (by kernel_rfl)
def c80:Code:=cB (cB (cB (di P 42)))
def aY(k:Nat)(a0:(LI)×(LJ)):Option ByteArray:=call k 42 a0
def aY.L0(k j:Nat)(x0 x1:Int)(x2:List ByteArray)(x3:LJ)(x4:LI):Option ByteArray:=LL k 42 (cC (cC (cB (cA c80)))) j (bI 1 (JK k 42 (cB c80) (R0 42))) [frm 38 [(1,.pv 0 0),(3,Sl 1),(17,Sl 2),(18,In x0),(19,In x1)]] [.var [Sl 3,Sl 2],.row Bool.true .str x2,Roo x3,Ro x4]
theorem aY.eq(k:Nat)(a0):aY (k+1) a0=B (aB k (a0.1,a0.2)) fun r0=>T (D.no r0) (some (⟨#[]⟩:ByteArray)) (T (D.eq (O (N a0.2)) 0) (some (⟨#[45]⟩:ByteArray)) (aY.L0 k k (O (N a0.2)) 0 ([]:List ByteArray) a0.2 a0.1)):=by kernel_rfl
theorem aY.bP(k j:Nat)(x0 x1 x2 x3 x4):aY.L0 k (j+1) x0 x1 x2 x3 x4=T (D.lt x1 x0) (T (D.le 0 x1) (T (U (V x1) (N x3)) (T (U (V x1) (N x3)) (B (eZ k x4 x1) fun r1=>B (strings_Repeat k (⟨#[46]⟩:ByteArray) r1) fun r2=>T (U (V x1) (N x3)) (B (cN k (E x3 (V x1) []) (⟨#[]⟩:ByteArray)) fun r3=>T (D.leN (D.addN (D.lenS r2) (D.lenS r3)) 1099511627776) (T (D.leN (N (D.app x2 ((D.catS r2 r3)::([]:List ByteArray)))) 1099511627776) (aY.L0 k j x0 (Z .i64 (A x1 1)) (D.app x2 ((D.catS r2 r3)::([]:List ByteArray))) x3 x4) none) none) none) none) none) none) (B (iW k x2 (⟨#[47]⟩:ByteArray)) fun r4=>some r4):=(jn _ _).trans (by kernel_rfl)
def strings_Compare(k:Nat)(a0 a1:ByteArray):Option Int:=call k 112 (a0,a1)
theorem strings_Compare.eq(k:Nat)(a0 a1):strings_Compare (k+1) a0 a1=FF a0 a1:=by kernel_rfl
def fx(k:Nat)(a0 a1:(LI)×(LJ)):Option Int:=call k 111 (a0,a1)
theorem fx.eq(k:Nat)(a0 a1):fx (k+1) a0 a1=B (aY k (a0.1,a0.2)) fun r0=>B (aY k (a1.1,a1.2)) fun r1=>B (strings_Compare k r0 r1) fun r2=>some r2:=by kernel_rfl
def eY(k:Nat)(a0:(LI)×(LI))(a1:LI):Option (List ((LI)×(LJ))):=call k 65 (a0,a1)
theorem eY.eq(k:Nat)(a0 a1):eY (k+2) a0 a1=B (dD (k+1) a1) fun r0=>B (eA (k+1) (a0.1,a0.2)) fun r1=>T (D.no (D.eq r0 r1)) (some ([]:List ((LI)×(LJ)))) (B (bq (k+1) a0.2) fun r2=>T (D.le 0 (O (N a0.1))) (T (D.le (O (N a0.1)) (O (N a0.1))) (T (D.leN (V (O (N a0.1))) 1099511627776) (B (aS (k+1) 1 r2 (D.rep (V (O (N a0.1))) ([]:LI)) ([]:List ((LI)×(LJ))) a0.1 a0.2 a1) fun r3=>B (D.srt (fun a b=>fx (k+1) a b) r3.2.2.2) fun r4=>some r4) none) none) none):=by kernel_rfl
def cO(k:Nat)(a0:(LI)×(LI)):Option (List ((LI)×(LJ))):=call k 20 a0
theorem cO.eq(k:Nat)(a0):cO (k+1) a0=B (ep k (a0.1,a0.2)) fun r0=>T (D.no r0) (some ([]:List ((LI)×(LJ)))) (B (eA k (a0.1,a0.2)) fun r1=>B (j5 k r1) fun r2=>B (eY k (a0.1,a0.2) r2) fun r3=>some r3):=by kernel_rfl
def c81:Code:=cB (cB (di P 29))
def bR(k:Nat)(a0 a1:LI):Option Bool:=call k 29 (a0,a1)
def bR.L0(k j:Nat)(x0:Int)(x1 x2:LI):Option Bool:=LL k 29 (cC (cC (cB (cA c81)))) j (bI 0 (JK k 29 (cB c81) (R0 29))) [frm 26 [(0,Sl 0),(1,Sl 1),(5,In x0)]] [Ro x1,Ro x2]
theorem bR.eq(k:Nat)(a0 a1):bR (k+1) a0 a1=T (D.no (D.eq (O (N a0)) (O (N a1)))) (some false) (bR.L0 k k 0 a0 a1):=by kernel_rfl
theorem bR.bP(k j:Nat)(x0 x1 x2):bR.L0 k (j+1) x0 x1 x2=T (D.lt x0 (O (N x1))) (T (D.le 0 x0) (T (U (V x0) (N x1)) (T (U (V x0) (N x1)) (T (D.le 0 x0) (T (U (V x0) (N x2)) (T (U (V x0) (N x2)) (T (D.no (D.eq (E x1 (V x0) 0) (E x2 (V x0) 0))) (some false) (bR.L0 k j (Z .i64 (A x0 1)) x1 x2)) none) none) none) none) none) none) (some true):=(jn _ _).trans (by kernel_rfl)
def c82:Code:=cB (cB (di P 114))
def ck(k:Nat)(a0 a1:LJ):Option Bool:=call k 114 (a0,a1)
def ck.L0(k j:Nat)(x0:Int)(x1 x2:LJ):Option Bool:=LL k 114 (cC (cC (cB (cA c82)))) j (bI 0 (JK k 114 (cB c82) (R0 114))) [frm 27 [(0,Sl 0),(1,Sl 1),(5,In x0)]] [Roo x1,Roo x2]
theorem ck.eq(k:Nat)(a0 a1):ck (k+1) a0 a1=T (D.no (D.eq (O (N a0)) (O (N a1)))) (some false) (ck.L0 k k 0 a0 a1):=by kernel_rfl
theorem ck.bP(k j:Nat)(x0 x1 x2):ck.L0 k (j+1) x0 x1 x2=T (D.lt x0 (O (N x1))) (T (D.le 0 x0) (T (U (V x0) (N x1)) (T (U (V x0) (N x1)) (T (D.le 0 x0) (T (U (V x0) (N x2)) (T (U (V x0) (N x2)) (T (U (V x0) (N x1)) (T (U (V x0) (N x2)) (B (bR k (E x1 (V x0) []) (E x2 (V x0) [])) fun r0=>T (D.no r0) (some false) (ck.L0 k j (Z .i64 (A x0 1)) x1 x2)) none) none) none) none) none) none) none) none) (some true):=(jn _ _).trans (by kernel_rfl)
def fQ(k:Nat)(a0 a1:(LI)×(LJ)):Option Bool:=call k 68 (a0,a1)
theorem fQ.eq(k:Nat)(a0 a1):fQ (k+1) a0 a1=B (bR k a0.1 a1.1) fun r0=>T (D.no r0) (some false) (B (ck k a0.2 a1.2) fun r1=>T (D.no r1) (some false) (some true)):=by kernel_rfl
def c83:Code:=cB (cB (di P 21))
def bp(k:Nat)(a0 a1:List ((LI)×(LJ))):Option Bool:=call k 21 (a0,a1)
def bp.L0(k j:Nat)(x0:Int)(x1 x2:List ((LI)×(LJ))):Option Bool:=LL k 21 (cC (cC (cB (cA c83)))) j (bI 0 (JK k 21 (cB c83) (R0 21))) [frm 27 [(0,Sl 0),(1,Sl 1),(5,In x0)]] [.row Bool.false (.pair (.sl (.int .i64)) (.sl (.sl (.int .i64)))) x1,.row Bool.false (.pair (.sl (.int .i64)) (.sl (.sl (.int .i64)))) x2]
theorem bp.eq(k:Nat)(a0 a1):bp (k+1) a0 a1=T (D.no (D.eq (O (N a0)) (O (N a1)))) (some false) (bp.L0 k k 0 a0 a1):=by kernel_rfl
theorem bp.bP(k j:Nat)(x0 x1 x2):bp.L0 k (j+1) x0 x1 x2=T (D.lt x0 (O (N x1))) (T (D.le 0 x0) (T (U (V x0) (N x1)) (T (U (V x0) (N x1)) (T (D.le 0 x0) (T (U (V x0) (N x2)) (T (U (V x0) (N x2)) (T (U (V x0) (N x1)) (T (U (V x0) (N x1)) (T (U (V x0) (N x2)) (T (U (V x0) (N x2)) (B (fQ k ((E x1 (V x0) (([]:LI),([]:LJ))).1,(E x1 (V x0) (([]:LI),([]:LJ))).2) ((E x2 (V x0) (([]:LI),([]:LJ))).1,(E x2 (V x0) (([]:LI),([]:LJ))).2)) fun r0=>T (D.no r0) (some false) (bp.L0 k j (Z .i64 (A x0 1)) x1 x2)) none) none) none) none) none) none) none) none) none) none) (some true):=(jn _ _).trans (by kernel_rfl)
def gX(k:Nat)(a0 a1:(LI)×(LI)):Option Bool:=call k 22 (a0,a1)
theorem gX.eq(k:Nat)(a0 a1):gX (k+1) a0 a1=B (bR k a0.1 a1.1) fun r0=>T (D.no r0) (some false) (B (bR k a0.2 a1.2) fun r1=>T (D.no r1) (some false) (some true)):=by kernel_rfl
def c84:Code:=cB (di P 30)
def bg(k:Nat)(x0:Int)(x1:LI):Option (Int×(LI)):=IO_ k 30 0 1 1 [Rw []] [[Sl 0,In x0],[Sl 0]] [Rw x1]
def bg.L0(k j:Nat)(x0 x1:Int)(x2:LI):Option (Int×(LI)):=LL k 30 (cC (cC (cB (cA c84)))) j (bI 0 (JK k 30 (cB c84) (oT (im P (zr P 30) (fun z6 z7=>tV P 30 0 1 1 [Rw []] z6 z7))))) [frm 19 [(0,Sl 0),(1,In x0),(5,In x1)],[Sl 0]] [Rw x2]
theorem bg.eq(k:Nat)(x0 x1):bg (k+1) x0 x1=bg.L0 k k x0 0 x1:=by kernel_rfl
theorem bg.bP(k j:Nat)(x0 x1 x2):bg.L0 k (j+1) x0 x1 x2=T (D.lt x1 (O (N x2))) (T (D.le 0 x1) (T (U (V x1) (N x2)) (T (U (V x1) (N x2)) (bg.L0 k j (Z .i64 (A x0 1)) (Z .i64 (A x1 1)) (D.set x2 (V x1) x0)) none) none) none) (some (x0,x2)):=(jn _ _).trans (by kernel_rfl)
def dR(k:Nat)(x0:Int)(x1 x2:LI):Option (Int×((LI)×(LI))):=IO_ k 23 0 2 2 [Rw [],Rw []] [[.agg [Sl 0,Sl 1],In x0],[Sl 0,Sl 1]] [Rw x1,Rw x2]
theorem dR.eq(k:Nat)(x0 x1 x2):dR (k+1) x0 x1 x2=B (bg k x0 x1) fun r0=>B (bg k r0.1 x2) fun r1=>some (r1.1,(r0.2,r1.2)):=by kernel_rfl
def c85:Code:=cB (di P 24)
def c86:Code:=cC (cC (cB (cA c85)))
def K87(k:Nat):cY (Int×(List ((LI)×(LJ)))):=bI 0 (JK (k+2) 24 (cB c85) (oT (im P (zr P 24) (fun z6 z7=>tV P 24 0 1 1 [.row Bool.true (.pair (.sl (.int .i64)) (.sl (.sl (.int .i64)))) []] z6 z7))))
def c88:Code:=cB (di P 30)
def c89:Code:=cC (cC (cB (cA c88)))
def c90:Code:=cB c88
def c91:Code:=cB c86
def c92:Code:=cC (cA c91)
def c93:Code:=cA c92
def c94:Code:=cB c92
def K95(k k1:Nat):cY (Int×(List ((LI)×(LJ)))):=bI 1 (JK (k+2) 24 (cB c91) (LK (k+2) 24 c86 k1 (K87 k)))
def c96:Code:=cB (di P 69)
def c97:Code:=cC (cC (cB (cA c96)))
def K98(k k1:Nat):cY (Int×(List ((LI)×(LJ)))):=bI 0 (JK (k+1) 69 (cB c96) (oT (im P (zr P 69) (fun z6 z7=>St.force (St.put z7 (Go.Oper.dst (AN (Code.ops c94) 6)) (qh z6)) ((fun z8 z9=>gY (Code.ops c94) 6 (AN (Code.ops c94) 6) z9 ((fun z10 z11=>eE P cfg (nu P cfg ext (k+2)) Option.none (Code.ops c94) [7] (trN 7) z11 (fun z12 z13=>K95 k k1 .normal z13)) z8)) (Touch.mk [] [] [] Bool.true))))))
def c99:Code:=cB c97
def GX:Code:=cC (cA c99)
def ai(k:Nat)(x0:Int)(x1:List ((LI)×(LJ))):Option (Int×(List ((LI)×(LJ)))):=IO_ k 24 0 1 1 [.row Bool.true (.pair (.sl (.int .i64)) (.sl (.sl (.int .i64)))) []] [[Sl 0,In x0],[Sl 0]] [.row Bool.true (.pair (.sl (.int .i64)) (.sl (.sl (.int .i64)))) x1]
def ai.L0(k j:Nat)(x0 x1:Int)(x2:List ((LI)×(LJ))):Option (Int×(List ((LI)×(LJ)))):=LL (k+2) 24 c86 j (K87 k) [frm 27 [(0,Sl 0),(1,In x0),(5,In x1)],[Sl 0]] [.row Bool.true (.pair (.sl (.int .i64)) (.sl (.sl (.int .i64)))) x2]
def ai.L1(k k1 j x0:Nat)(x1 x2 x3 x4 x5 x6:Int)(x7:Bool)(x8:Int)(x9 x10 x11:Nat)(x12:Int)(x13:List ((LI)×(LJ))):Option (Int×(List ((LI)×(LJ)))):=LL (k+1) 30 c89 j (bI 0 (JK (k+1) 30 c90 (oT (im P (zr P 30) (fun z6 z7=>St.force (St.put z7 (Go.Oper.dst (AN (Code.ops c93) 6)) (qh z6)) ((fun z8 z9=>gY (Code.ops c93) 6 (AN (Code.ops c93) 6) z9 ((fun z10 z11=>eE P cfg (nu P cfg ext (k+2)) Option.none (Code.ops c93) [7] (trN 7) z11 (fun z12 z13=>JK (k+2) 24 c94 (K95 k k1) .normal z13)) z8)) (Touch.mk [] [] [] Bool.true))))))) [frm 19 [(0,.sl 0 [(x0,0)] Option.none),(1,In x1),(5,In x2)],frm 27 [(0,Sl 0),(1,In x3),(5,In x4),(6,In x5),(7,Sl 0),(8,In x6),(9,.bool x7),(12,Sl 0),(13,In x8),(14,.pe 0 [] x9 0),(15,.pe 0 [] x10 0),(16,.sl 0 [(x11,0)] Option.none),(17,In x12)],[Sl 0]] [.row Bool.true (.pair (.sl (.int .i64)) (.sl (.sl (.int .i64)))) x13]
def ai.L2(k k1 j x0:Nat)(x1 x2 x3 x4 x5 x6:Int)(x7:Bool)(x8:Int)(x9 x10 x11:Nat)(x12 x13 x14:Int)(x15 x16 x17:Nat)(x18:Int)(x19:List ((LI)×(LJ))):Option (Int×(List ((LI)×(LJ)))):=LL (k+1) 69 c97 j (K98 k k1) [frm 19 [(0,.sl 0 [(x0,1)] Option.none),(1,In x1),(5,In x2)],frm 27 [(0,Sl 0),(1,In x3),(5,In x4),(6,In x5),(7,Sl 0),(8,In x6),(9,.bool x7),(12,Sl 0),(13,In x8),(14,.pe 0 [] x9 0),(15,.pe 0 [] x10 0),(16,.sl 0 [(x11,0)] Option.none),(17,In x12),(18,In x13),(19,Sl 0),(20,In x14),(21,.pe 0 [] x15 0),(22,.pe 0 [] x16 1),(23,.sl 0 [(x17,1)] Option.none),(24,In x18)],[Sl 0]] [.row Bool.true (.pair (.sl (.int .i64)) (.sl (.sl (.int .i64)))) x19]
def ai.L3(k k1 k2 j x0 x1:Nat)(x2 x3:Int)(x4:Nat)(x5 x6 x7:Int)(x8:Nat)(x9:Int)(x10:Bool)(x11:Nat)(x12:Int)(x13 x14 x15 x16:Nat)(x17 x18 x19 x20 x21:Int)(x22:Bool)(x23:Int)(x24 x25 x26:Nat)(x27 x28 x29:Int)(x30 x31 x32:Nat)(x33:Int)(x34:List ((LI)×(LJ))):Option (Int×(List ((LI)×(LJ)))):=LL k 30 c89 j (bI 0 (JK k 30 c90 (oT (im P (zr P 30) (fun z6 z7=>St.force (St.put z7 (Go.Oper.dst (AN (Code.ops GX) 5)) (qh z6)) ((fun z8 z9=>gY (Code.ops GX) 5 (AN (Code.ops GX) 5) z9 ((fun z10 z11=>eE P cfg (nu P cfg ext (k+1)) Option.none (Code.ops GX) [6] (trN 6) z11 (fun z12 z13=>bI 1 (JK (k+1) 69 (cB c99) (LK (k+1) 69 c97 k2 (K98 k k1))) .normal z13)) z8)) (Touch.mk [] [] [] Bool.true))))))) [frm 19 [(0,.sl 0 [(x0,1),(x1,0)] Option.none),(1,In x2),(5,In x3)],frm 19 [(0,.sl 0 [(x4,1)] Option.none),(1,In x5),(5,In x6),(6,In x7),(7,.sl 0 [(x8,1)] Option.none),(8,In x9),(9,.bool x10),(12,.sl 0 [(x11,1)] Option.none),(13,In x12),(14,.pe 0 [(x13,1)] x14 0),(15,.sl 0 [(x15,1),(x16,0)] Option.none),(16,In x17)],frm 27 [(0,Sl 0),(1,In x18),(5,In x19),(6,In x20),(7,Sl 0),(8,In x21),(9,.bool x22),(12,Sl 0),(13,In x23),(14,.pe 0 [] x24 0),(15,.pe 0 [] x25 0),(16,.sl 0 [(x26,0)] Option.none),(17,In x27),(18,In x28),(19,Sl 0),(20,In x29),(21,.pe 0 [] x30 0),(22,.pe 0 [] x31 1),(23,.sl 0 [(x32,1)] Option.none),(24,In x33)],[Sl 0]] [.row Bool.true (.pair (.sl (.int .i64)) (.sl (.sl (.int .i64)))) x34]
theorem ai.eq(k:Nat)(x0 x1):ai (k+3) x0 x1=ai.L0 k (k+2) x0 0 x1:=by kernel_rfl
theorem ai.bP(k j:Nat)(x0 x1 x2):ai.L0 k (j+1) x0 x1 x2=T (D.lt x1 (O (N x2))) (T (D.le 0 x1) (T (U (V x1) (N x2)) (T (U (V x1) (N x2)) (ai.L1 k j (k+1) (V x1) x0 0 x0 x1 x1 (O (N x2)) (D.lt x1 (O (N x2))) x1 (V x1) (V x1) (V x1) x0 x2) none) none) none) (some (x0,x2)):=(jn _ _).trans (by kernel_rfl)
theorem ai.fX(k k1 j:Nat)(x0 x1 x2 x3 x4 x5 x6 x7 x8 x9 x10 x11 x12 x13):ai.L1 k k1 (j+1) x0 x1 x2 x3 x4 x5 x6 x7 x8 x9 x10 x11 x12 x13=T (U x0 (N x13)) (T (D.lt x2 (O (N (E x13 x0 (([]:LI),([]:LJ))).1))) (T (U x0 (N x13)) (T (D.le 0 x2) (T (U (V x2) (N (E x13 x0 (([]:LI),([]:LJ))).1)) (T (U x0 (N x13)) (T (U (V x2) (N (E x13 x0 (([]:LI),([]:LJ))).1)) (ai.L1 k k1 j x0 (Z .i64 (A x1 1)) (Z .i64 (A x2 1)) x3 x4 x5 x6 x7 x8 x9 x10 x11 x12 (D.set x13 x0 ((D.set (E x13 x0 (([]:LI),([]:LJ))).1 (V x2) x1),(E x13 x0 (([]:LI),([]:LJ))).2))) none) none) none) none) none) (T (D.le 0 x4) (T (U (V x4) (N x13)) (T (U (V x4) (N x13)) (ai.L2 k k1 (k+1) (V x4) x1 0 x1 x4 x5 x6 x7 x8 x9 x10 x11 x12 x1 x4 (V x4) (V x4) (V x4) x1 x13) none) none) none)) none:=(jn _ _).trans (by kernel_rfl)
theorem ai.uw(k k1 j:Nat)(x0 x1 x2 x3 x4 x5 x6 x7 x8 x9 x10 x11 x12 x13 x14 x15 x16 x17 x18 x19):ai.L2 k k1 (j+1) x0 x1 x2 x3 x4 x5 x6 x7 x8 x9 x10 x11 x12 x13 x14 x15 x16 x17 x18 x19=T (U x0 (N x19)) (T (D.lt x2 (O (N (E x19 x0 (([]:LI),([]:LJ))).2))) (T (U x0 (N x19)) (T (D.le 0 x2) (T (U (V x2) (N (E x19 x0 (([]:LI),([]:LJ))).2)) (T (U x0 (N x19)) (T (U (V x2) (N (E x19 x0 (([]:LI),([]:LJ))).2)) (ai.L3 k k1 j k x0 (V x2) x1 0 x0 x1 x2 x2 x0 (O (N (E x19 x0 (([]:LI),([]:LJ))).2)) (D.lt x2 (O (N (E x19 x0 (([]:LI),([]:LJ))).2))) x0 x2 x0 (V x2) x0 (V x2) x1 x3 x4 x5 x6 x7 x8 x9 x10 x11 x12 x13 x14 x15 x16 x17 x18 x19) none) none) none) none) none) (ai.L0 k k1 x1 (Z .i64 (A x4 1)) x19)) none:=(jn _ _).trans (by kernel_rfl)
theorem ai.H3(k k1 k2 j:Nat)(x0 x1 x2 x3 x4 x5 x6 x7 x8 x9 x10 x11 x12 x13 x14 x15 x16 x17 x18 x19 x20 x21 x22 x23 x24 x25 x26 x27 x28 x29 x30 x31 x32 x33 x34):ai.L3 k k1 k2 (j+1) x0 x1 x2 x3 x4 x5 x6 x7 x8 x9 x10 x11 x12 x13 x14 x15 x16 x17 x18 x19 x20 x21 x22 x23 x24 x25 x26 x27 x28 x29 x30 x31 x32 x33 x34=T (U x0 (N x34)) (T (U x1 (N (E x34 x0 (([]:LI),([]:LJ))).2)) (T (D.lt x3 (O (N (E (E x34 x0 (([]:LI),([]:LJ))).2 x1 [])))) (T (U x0 (N x34)) (T (U x1 (N (E x34 x0 (([]:LI),([]:LJ))).2)) (T (D.le 0 x3) (T (U (V x3) (N (E (E x34 x0 (([]:LI),([]:LJ))).2 x1 []))) (T (U x0 (N x34)) (T (U x1 (N (E x34 x0 (([]:LI),([]:LJ))).2)) (T (U (V x3) (N (E (E x34 x0 (([]:LI),([]:LJ))).2 x1 []))) (ai.L3 k k1 k2 j x0 x1 (Z .i64 (A x2 1)) (Z .i64 (A x3 1)) x4 x5 x6 x7 x8 x9 x10 x11 x12 x13 x14 x15 x16 x17 x18 x19 x20 x21 x22 x23 x24 x25 x26 x27 x28 x29 x30 x31 x32 x33 (D.set x34 x0 ((E x34 x0 (([]:LI),([]:LJ))).1,(D.set (E x34 x0 (([]:LI),([]:LJ))).2 x1 (D.set (E (E x34 x0 (([]:LI),([]:LJ))).2 x1 []) (V x3) x2))))) none) none) none) none) none) none) none) (ai.L2 k k1 k2 x4 x2 (Z .i64 (A x6 1)) x18 x19 x20 x21 x22 x23 x24 x25 x26 x27 x28 x29 x30 x31 x32 x33 x34)) none) none:=(jn _ _).trans (by kernel_rfl)
def IN:Code:=cB (di P 70)
def bN(k:Nat)(a0:LI)(a1:Int):Option Int:=call k 70 (a0,a1)
def bN.L0(k j:Nat)(x0 x1:Int)(x2:LI):Option Int:=LL k 70 (cC (cC (cB (cA IN)))) j (bI 0 (JK k 70 (cB IN) (R0 70))) [frm 21 [(0,Sl 0),(1,In x0),(5,In x1)]] [Ro x2]
theorem bN.eq(k:Nat)(a0 a1):bN (k+1) a0 a1=bN.L0 k k a1 0 a0:=by kernel_rfl
theorem bN.bP(k j:Nat)(x0 x1 x2):bN.L0 k (j+1) x0 x1 x2=T (D.lt x1 (O (N x2))) (T (D.le 0 x1) (T (U (V x1) (N x2)) (T (U (V x1) (N x2)) (T (D.no (D.eq (E x2 (V x1) 0) x0)) (some (-1)) (bN.L0 k j (Z .i64 (A x0 1)) (Z .i64 (A x1 1)) x2)) none) none) none) (some x0):=(jn _ _).trans (by kernel_rfl)
def IU:Code:=cB (di P 71)
def bQ(k:Nat)(a0:LJ)(a1:Int):Option Int:=call k 71 (a0,a1)
def bQ.L0(k j:Nat)(x0 x1:Int)(x2:LJ):Option Int:=LL k 71 (cC (cC (cB (cA IU)))) j (bI 0 (JK k 71 (cB IU) (R0 71))) [frm 21 [(0,Sl 0),(1,In x0),(5,In x1)]] [Roo x2]
theorem bQ.eq(k:Nat)(a0 a1):bQ (k+1) a0 a1=bQ.L0 k k a1 0 a0:=by kernel_rfl
theorem bQ.bP(k j:Nat)(x0 x1 x2):bQ.L0 k (j+1) x0 x1 x2=T (D.lt x1 (O (N x2))) (T (D.le 0 x1) (T (U (V x1) (N x2)) (T (U (V x1) (N x2)) (T (U (V x1) (N x2)) (B (bN k (E x2 (V x1) []) x0) fun r0=>T (D.lt r0 0) (some (-1)) (bQ.L0 k j r0 (Z .i64 (A x1 1)) x2)) none) none) none) none) (some x0):=(jn _ _).trans (by kernel_rfl)
def II:Code:=cB (di P 25)
def a8(k:Nat)(a0:List ((LI)×(LJ)))(a1:Int):Option Int:=call k 25 (a0,a1)
def a8.L0(k j:Nat)(x0 x1:Int)(x2:List ((LI)×(LJ))):Option Int:=LL k 25 (cC (cC (cB (cA II)))) j (bI 0 (JK k 25 (cB II) (R0 25))) [frm 31 [(0,Sl 0),(1,In x0),(5,In x1)]] [.row Bool.false (.pair (.sl (.int .i64)) (.sl (.sl (.int .i64)))) x2]
theorem a8.eq(k:Nat)(a0 a1):a8 (k+1) a0 a1=a8.L0 k k a1 0 a0:=by kernel_rfl
theorem a8.bP(k j:Nat)(x0 x1 x2):a8.L0 k (j+1) x0 x1 x2=T (D.lt x1 (O (N x2))) (T (D.le 0 x1) (T (U (V x1) (N x2)) (T (U (V x1) (N x2)) (T (U (V x1) (N x2)) (B (bN k (E x2 (V x1) (([]:LI),([]:LJ))).1 x0) fun r0=>T (D.lt r0 0) (some (-1)) (T (D.le 0 x1) (T (U (V x1) (N x2)) (T (U (V x1) (N x2)) (T (U (V x1) (N x2)) (B (bQ k (E x2 (V x1) (([]:LI),([]:LJ))).2 r0) fun r1=>T (D.lt r1 0) (some (-1)) (a8.L0 k j r1 (Z .i64 (A x1 1)) x2)) none) none) none) none)) none) none) none) none) (some x0):=(jn _ _).trans (by kernel_rfl)
def aQ(k:Nat)(a0:(LI)×(LI)):Option Bool:=call k 5 a0
def aQ.J0(k:Nat)(x0 x1:List ((LI)×(LJ)))(x2 x3:LI):Option Bool:=JJ k 5 (cB (cB (cB (cB (cB (cB (cB (cB (cB (cB (cB (cB (di P 5))))))))))))) (R0 5) [frm 69 [(1,.pv 0 0),(4,Sl 1),(6,Sl 2)]] [.var [Sl 3,Sl 4],.row Bool.true (.pair (.sl (.int .i64)) (.sl (.sl (.int .i64)))) x0,.row Bool.true (.pair (.sl (.int .i64)) (.sl (.sl (.int .i64)))) x1,Ro x2,Ro x3]
theorem aQ.eq(k:Nat)(a0):aQ (k+1) a0=B (gR k (a0.1,a0.2) 1048576) fun r0=>T (D.lt r0 0) (some true) (B (eX k (a0.1,a0.2)) fun r1=>B (ak k (r1.1,r1.2)) fun r2=>B (eX k (a0.1,a0.2)) fun r3=>B (cO k (r3.1,r3.2)) fun r4=>B (bp k r4 r2) fun r5=>T (D.no r5) (some false) (B (eX k (a0.1,a0.2)) fun r6=>B (gX k (r3.1,r3.2) (r6.1,r6.2)) fun r7=>T (D.no r7) (some false) (B (dR k 1 r3.1 r3.2) fun r8=>T (D.lt r8.1 0) (some false) (B (bp k r4 r2) fun r9=>T (D.no r9) (some false) (aQ.J0 k r2 r4 a0.1 a0.2))))):=by kernel_rfl
theorem aQ.lf(k:Nat)(x0 x1 x2 x3):aQ.J0 k x0 x1 x2 x3=B (ai k 1 x1) fun r10=>B (a8 k r10.2 1) fun r11=>T (D.lt r11 0) (some false) (T (D.no (D.eq r11 r10.1)) (some false) (B (eX k (x2,x3)) fun r12=>B (cO k (r12.1,r12.2)) fun r13=>B (bp k r13 x0) fun r14=>T (D.no r14) (some false) (B (a8 k r10.2 1) fun r15=>T (D.lt r15 0) (some false) (T (D.no (D.eq r15 r10.1)) (some false) (some true))))):=(jn _ _).trans (by kernel_rfl)
end Go.Am.Seat
