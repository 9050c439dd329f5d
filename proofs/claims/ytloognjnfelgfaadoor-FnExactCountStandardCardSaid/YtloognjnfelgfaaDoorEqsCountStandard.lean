/- The machine's equations for the functions that the law reaches, each checked by the kernel; no conditions. -/
import Derived.Test.YtloognjnfelgfaaDoorCfgCountStandard
import Derived.Test.YtloognjnfelgfaaDoorProg
set_option linter.unusedSimpArgs false
set_option linter.unusedVariables false
set_option linter.unnecessarySimpa false
set_option linter.unusedSectionVars false
noncomputable section
namespace Go.Am.Seat
open Go Go.Am Go.Proofs
set_option linter.unusedVariables false
set_option linter.unusedSectionVars false
set_option maxRecDepth 100000
variable [D] [DJ]
abbrev LI:=List Int
abbrev LJ:=List (List Int)
abbrev P:Program:=Go.Proofs.Tryd.prog
def ext:Ext P:=EW P E8 GA
def X{R:Type}(k f:Nat)(c:Code):St→cM R→Option R:=exec P cfg (qt P cfg ext k) k f c
abbrev call(k f:Nat)(x:den (dG P f)):Option (den (resTy P f)):=yi P cfg ext k f x
abbrev He(k f:Nat)(x:den (dG P f)):Option (den (resTy P f)):=Ge P cfg ext k f x
def R0(f:Nat):cM (den (resTy P f)):=ud (finish P f (GL P f))
def JK{T:Type}(k f:Nat)(c:Code)(K:cM T):cM T:=pX (fun a b=>gB (Cfg.joins cfg f (key c)) (fun s=>X k f c s b) a) K
def LK{T:Type}(k f:Nat)(c:Code)(j:Nat)(K:cM T):cM T:=pX (fun a b=>gB (Cfg.loops cfg f (key c)) (fun s=>ju (fun x y=>X k f c x y) (Cfg.loops cfg f (key c)) j s b) a) K
def LL{T:Type}(k f:Nat)(c:Code)(j:Nat)(K:cM T)(fr:List (List AV))(rs:List ak):Option T:=D.jn (fun a=>ju (fun x y=>X k f c x y) (Cfg.loops cfg f (key c)) j a K) (St.mk fr rs)
def JJ{T:Type}(k f:Nat)(c:Code)(K:cM T)(fr:List (List AV))(rs:List ak):Option T:=D.jn (fun a=>X k f c a K) (St.mk fr rs)
abbrev IO_(k f nV nD n:Nat)(rs0:List ak)(fr:List (List AV))(rs:List ak):Option (den (resTy P f)×den (rz nV nD n rs0)):=j8 (qt P cfg ext k) f nV nD n rs0 (St.mk fr rs)
def Sl(n:Nat):AV:= .sl n [] none
def In(n:Int):AV:= .int .i64 n
def Rw(x:LI):ak:= .row Bool.true (.int .i64) x
def Rww(x:LJ):ak:= .row Bool.true (.sl (.int .i64)) x
def Ro(x:LI):ak:= .row Bool.false (.int .i64) x
def Roo(x:LJ):ak:= .row Bool.false (.sl (.int .i64)) x
open Go.Am.D renaming test → T, bnd → B, len → N, nat → V, ltN → U, rd → E, ofN → O, wrap → Z, add → A, sub → M
open Go.Am.DJ renaming jn_eq → jn
open Go.Am.Code (cA cB cC cT)
def eD(k:Nat)(a0:LI)(a1:Int):Option Int:=call k 53 (a0,a1)
theorem eD.eq(k:Nat)(a0 a1):eD (k+1) a0 a1=T (D.lt (Z .i64 (M a1 (O (N a0)))) 0) (some (-1)) (some (Z .i64 (M a1 (O (N a0))))):=by kernel_rfl
def fY(k:Nat)(a0:(LI)×(LI))(a1:Int):Option Int:=call k 16 (a0,a1)
theorem fY.eq(k:Nat)(a0 a1):fY (k+1) a0 a1=B (eD k a0.1 a1) fun r0=>T (D.lt r0 0) (some (-1)) (B (eD k a0.2 r0) fun r1=>T (D.lt r1 0) (some (-1)) (some r1)):=by kernel_rfl
def c1:Code:=cB (cB (gJ P 13))
def bD(k:Nat)(a0:LI):Option LI:=call k 13 a0
def bD.L0(k j:Nat)(x0:Int)(x1 x2:LI):Option LI:=LL k 13 (cC (cC (cB (cA c1)))) j (dv 0 (JK k 13 (cB c1) (R0 13))) [frm 22 [(0,Sl 0),(3,Sl 1),(4,In x0)]] [Ro x1,Rw x2]
theorem bD.eq(k:Nat)(a0):bD (k+1) a0=T (D.le 0 (O (N a0))) (T (D.le (O (N a0)) (O (N a0))) (T (D.leN (V (O (N a0))) 1099511627776) (bD.L0 k k 0 a0 (D.rep (V (O (N a0))) (0:Int))) none) none) none:=by kernel_rfl
theorem bD.dJ(k j:Nat)(x0 x1 x2):bD.L0 k (j+1) x0 x1 x2=T (D.lt x0 (O (N x1))) (T (D.le 0 x0) (T (U (V x0) (N x1)) (T (U (V x0) (N x1)) (T (D.le 0 x0) (T (U (V x0) (N x2)) (T (U (V x0) (N x2)) (bD.L0 k j (Z .i64 (A x0 1)) x1 (D.set x2 (V x0) (E x1 (V x0) 0))) none) none) none) none) none) none) (some x2):=(jn _ _).trans (by kernel_rfl)
def cP(k:Nat)(a0:(LI)×(LI)):Option ((LI)×(LI)):=call k 18 a0
theorem cP.eq(k:Nat)(a0):cP (k+1) a0=B (bD k a0.1) fun r0=>B (bD k a0.2) fun r1=>some (r0,r1):=by kernel_rfl
def jI(k:Nat)(a0 a1 a2:Int):Option Bool:=call k 61 (a0,a1,a2)
theorem jI.eq(k:Nat)(a0 a1 a2):jI (k+1) a0 a1 a2=T (D.le a1 a0) (some (D.le a0 a2)) (some false):=by kernel_rfl
def c2:Code:=cB (cB (gJ P 67))
def c3:Code:=cC (cC (cB (cA c2)))
def K4(k:Nat):cM (den (resTy P 67)):=dv 0 (JK k 67 (cB c2) (R0 67))
def c5:Code:=cB c3
def ay(k:Nat)(a0:LI):Option Bool:=call k 67 a0
def ay.L0(k j:Nat)(x0 x1:Int)(x2:LI):Option Bool:=LL k 67 c3 j (K4 k) [frm 41 [(0,Sl 0),(3,In x0),(4,In x1)]] [Ro x2]
def ay.J1(k k1:Nat)(x0 x1:Int)(x2:LI):Option Bool:=JJ k 67 (cB (cC (cA c5))) (dv 1 (JK k 67 (cB c5) (LK k 67 c3 k1 (K4 k)))) [frm 41 [(0,Sl 0),(3,In x0),(4,In x1)]] [Ro x2]
theorem ay.eq(k:Nat)(a0):ay (k+1) a0=ay.L0 k k 0 0 a0:=by kernel_rfl
theorem ay.dJ(k j:Nat)(x0 x1 x2):ay.L0 k (j+1) x0 x1 x2=T (D.lt x1 (O (N x2))) (T (D.le 0 x1) (T (U (V x1) (N x2)) (T (U (V x1) (N x2)) (B (jI k (E x2 (V x1) 0) 1 9) fun r0=>T (D.no r0) (some false) (T (D.lt 0 x1) (T (D.le 0 x1) (T (U (V x1) (N x2)) (T (U (V x1) (N x2)) (T (D.le 0 (Z .i64 (M x1 1))) (T (U (V (Z .i64 (M x1 1))) (N x2)) (T (U (V (Z .i64 (M x1 1))) (N x2)) (T (D.lt (E x2 (V (Z .i64 (M x1 1))) 0) (E x2 (V x1) 0)) (some false) (ay.J1 k j x0 x1 x2)) none) none) none) none) none) none) (ay.J1 k j x0 x1 x2))) none) none) none) (some true):=(jn _ _).trans (by kernel_rfl)
theorem ay.oe(k k1:Nat)(x0 x1 x2):ay.J1 k k1 x0 x1 x2=T (D.le 0 x1) (T (U (V x1) (N x2)) (T (U (V x1) (N x2)) (T (D.lt 9 (Z .i64 (A x0 (E x2 (V x1) 0)))) (some false) (ay.L0 k k1 (Z .i64 (A x0 (E x2 (V x1) 0))) (Z .i64 (A x1 1)) x2)) none) none) none:=(jn _ _).trans (by kernel_rfl)
def c6:Code:=cB (cB (gJ P 85))
def aT(k:Nat)(a0 a1:LI):Option Bool:=call k 85 (a0,a1)
def aT.J0(k:Nat)(x0 x1:LI):Option Bool:=JJ k 85 c6 (R0 85) [frm 36 [(0,Sl 0),(1,Sl 1)]] [Ro x0,Ro x1]
def aT.L1(k j:Nat)(x0:Int)(x1 x2:LI):Option Bool:=LL k 85 (cC (cC (cB (cA c6)))) j (dv 0 (JK k 85 (cB c6) (R0 85))) [frm 36 [(0,Sl 0),(1,Sl 1),(5,In x0)]] [Ro x1,Ro x2]
theorem aT.eq(k:Nat)(a0 a1):aT (k+1) a0 a1=B (ay k a0) fun r0=>T (D.no r0) (some false) (B (ay k a1) fun r1=>T (D.no r1) (some false) (T (D.lt (O (N a1)) (O (N a0))) (some false) (aT.J0 k a0 a1))):=by kernel_rfl
theorem aT.qI(k:Nat)(x0 x1):aT.J0 k x0 x1=aT.L1 k k 0 x0 x1:=(jn _ _).trans (by kernel_rfl)
theorem aT.nQ(k j:Nat)(x0 x1 x2):aT.L1 k (j+1) x0 x1 x2=T (D.lt x0 (O (N x1))) (T (D.le 0 x0) (T (U (V x0) (N x1)) (T (U (V x0) (N x1)) (T (D.le 0 x0) (T (U (V x0) (N x2)) (T (U (V x0) (N x2)) (T (D.lt (E x2 (V x0) 0) (E x1 (V x0) 0)) (some false) (aT.L1 k j (Z .i64 (A x0 1)) x1 x2)) none) none) none) none) none) none) (some true):=(jn _ _).trans (by kernel_rfl)
def fX(k:Nat)(a0:(LI)×(LI)):Option Bool:=call k 54 a0
theorem fX.eq(k:Nat)(a0):fX (k+1) a0=B (aT k a0.2 a0.1) fun r0=>some r0:=by kernel_rfl
def c7:Code:=cB (cB (gJ P 86))
def br(k:Nat)(a0:LI):Option Int:=call k 86 a0
def br.L0(k j:Nat)(x0 x1:Int)(x2:LI):Option Int:=LL k 86 (cC (cC (cB (cA c7)))) j (dv 0 (JK k 86 (cB c7) (R0 86))) [frm 18 [(0,Sl 0),(3,In x0),(4,In x1)]] [Ro x2]
theorem br.eq(k:Nat)(a0):br (k+1) a0=br.L0 k k 0 0 a0:=by kernel_rfl
theorem br.dJ(k j:Nat)(x0 x1 x2):br.L0 k (j+1) x0 x1 x2=T (D.lt x1 (O (N x2))) (T (D.le 0 x1) (T (U (V x1) (N x2)) (T (U (V x1) (N x2)) (br.L0 k j (Z .i64 (A x0 (E x2 (V x1) 0))) (Z .i64 (A x1 1)) x2) none) none) none) (some x0):=(jn _ _).trans (by kernel_rfl)
def c8:Code:=cB (cB (gJ P 87))
def bq(k:Nat)(a0:LI)(a1:Int):Option ((LI)×Bool):=call k 87 (a0,a1)
def bq.J0(k:Nat)(x0:Int)(x1:LI):Option ((LI)×Bool):=JJ k 87 c8 (R0 87) [frm 44 [(0,Sl 0),(1,In x0)]] [Ro x1]
def bq.J1(k:Nat)(x0:Int)(x1:LI):Option ((LI)×Bool):=JJ k 87 (cB (cB c8)) (R0 87) [frm 44 [(1,In x0),(6,Sl 0)]] [Rw x1]
theorem bq.eq(k:Nat)(a0 a1):bq (k+1) a0 a1=B (ay k a0) fun r0=>T (D.no r0) (some (([]:LI),false)) (T (D.lt a1 0) (some (([]:LI),false)) (T (D.lt (O (N a0)) a1) (some (([]:LI),false)) (bq.J0 k a1 a0))):=by kernel_rfl
theorem bq.qI(k:Nat)(x0 x1):bq.J0 k x0 x1=T (D.leN (N (D.app ([]:LI) x1)) 1099511627776) (T (D.eq x0 (O (N x1))) (T (D.leN (N (D.app (D.app ([]:LI) x1) (0::([]:LI)))) 1099511627776) (bq.J1 k x0 (D.app (D.app ([]:LI) x1) (0::([]:LI)))) none) (bq.J1 k x0 (D.app ([]:LI) x1))) none:=(jn _ _).trans (by kernel_rfl)
theorem bq.oe(k:Nat)(x0 x1):bq.J1 k x0 x1=T (D.le 0 x0) (T (U (V x0) (N x1)) (T (U (V x0) (N x1)) (T (D.le 0 x0) (T (U (V x0) (N x1)) (T (U (V x0) (N x1)) (B (ay k (D.set x1 (V x0) (Z .i64 (A (E x1 (V x0) 0) 1)))) fun r1=>T (D.no r1) (some (([]:LI),false)) (some ((D.set x1 (V x0) (Z .i64 (A (E x1 (V x0) 0) 1))),true))) none) none) none) none) none) none:=(jn _ _).trans (by kernel_rfl)
def c9:Code:=cB (cB (cB (cB (gJ P 55))))
def c10:Code:=cC (cC (cB (cA c9)))
def K11(k:Nat):cM (den (resTy P 55)):=dv 0 (JK k 55 (cB c9) (ud (rk P 55 (GL P 55))))
def aU(k:Nat)(a0:LI)(a1:LJ):Option (List LJ):=He k 55 (a0,a1)
def aU.L0(k j x0:Nat)(x1:Int)(x2:LI)(x3:LJ)(x4:List LJ):Option (List LJ):=LL k 55 c10 j (K11 k) [frm 53 [(0,Sl 0),(1,Sl 1),(5,.sl 1 [(x0,0)] Option.none),(6,Sl 2),(7,In x1)]] [Ro x2,Roo x3,.sh (.sl (.sl (.int .i64))) x4]
def aU.J1(k k1 x0:Nat)(x1:Int)(x2:LI)(x3:LJ)(x4:List LJ):Option (List LJ):=JJ k 55 (cB (cB c10)) (LK k 55 c10 k1 (K11 k)) [frm 53 [(0,Sl 0),(1,Sl 1),(5,.sl 1 [(x0,0)] Option.none),(6,Sl 2),(7,In x1)]] [Ro x2,Roo x3,.sh (.sl (.sl (.int .i64))) x4]
theorem aU.eq(k:Nat)(a0 a1):aU (k+1) a0 a1=T (D.le 0 (Z .i64 (M (O (N a1)) 1))) (T (U (V (Z .i64 (M (O (N a1)) 1))) (N a1)) (T (U (V (Z .i64 (M (O (N a1)) 1))) (N a1)) (T (U (V (Z .i64 (M (O (N a1)) 1))) (N a1)) (B (br k (E a1 (V (Z .i64 (M (O (N a1)) 1))) [])) fun r0=>B (br k a0) fun r1=>T (D.eq r0 r1) (some (a1::([]:List LJ))) (aU.L0 k k (V (Z .i64 (M (O (N a1)) 1))) 0 a0 a1 ([]:List LJ))) none) none) none) none:=by kernel_rfl
theorem aU.dJ(k j:Nat)(x0 x1 x2 x3 x4):aU.L0 k (j+1) x0 x1 x2 x3 x4=T (U x0 (N x3)) (T (D.le x1 (O (N (E x3 x0 [])))) (T (U x0 (N x3)) (B (bq k (E x3 x0 []) x1) fun r2=>T r2.2 (B (aT k r2.1 x2) fun r3=>T r3 (T (D.leN (N (D.app ([]:LJ) x3)) 1099511627776) (T (D.leN (N (D.app (D.app ([]:LJ) x3) (r2.1::([]:LJ)))) 1099511627776) (B (aU k x2 (D.app (D.app ([]:LJ) x3) (r2.1::([]:LJ)))) fun r4=>T (D.leN (N (D.app x4 r4)) 1099511627776) (aU.J1 k j x0 x1 x2 x3 (D.app x4 r4)) none) none) none) (aU.J1 k j x0 x1 x2 x3 x4)) (aU.J1 k j x0 x1 x2 x3 x4)) none) (some x4)) none:=(jn _ _).trans (by kernel_rfl)
theorem aU.oe(k k1:Nat)(x0 x1 x2 x3 x4):aU.J1 k k1 x0 x1 x2 x3 x4=aU.L0 k k1 x0 (Z .i64 (A x1 1)) x2 x3 x4:=(jn _ _).trans (by kernel_rfl)
def cG(k:Nat)(a0:(LI)×(LI)):Option Int:=call k 17 a0
theorem cG.eq(k:Nat)(a0):cG (k+1) a0=B (fX k (a0.1,a0.2)) fun r0=>T (D.no r0) (some 0) (T (D.leN (N (D.app ([]:LI) a0.2)) 1099511627776) (B (aU k a0.1 ((D.app ([]:LI) a0.2)::([]:LJ))) fun r1=>some (O (N r1))) none):=by kernel_rfl
def cJ(k:Nat)(a0 a1 a2:Int):Option Bool:=call k 60 (a0,a1,a2)
theorem cJ.eq(k:Nat)(a0 a1 a2):cJ (k+1) a0 a1 a2=T (D.le a1 a0) (some (D.le a0 a2)) (some false):=by kernel_rfl
def c12:Code:=cB (cB (gJ P 82))
def c13:Code:=cC (cC (cB (cA c12)))
def K14(k:Nat):cM (den (resTy P 82)):=dv 0 (JK k 82 (cB c12) (R0 82))
def c15:Code:=cB (cB c13)
def az(k:Nat)(a0:LI):Option Bool:=call k 82 a0
def az.L0(k j:Nat)(x0 x1 x2:Int)(x3:LI):Option Bool:=LL k 82 c13 j (K14 k) [frm 35 [(0,Sl 0),(3,In x0),(6,Sl 0),(7,In x1),(8,In x2)]] [Ro x3]
def az.J1(k k1:Nat)(x0 x1 x2 x3:Int)(x4:LI):Option Bool:=JJ k 82 (cB (cB (cC (cA c15)))) (dv 1 (JK k 82 (cB c15) (LK k 82 c13 k1 (K14 k)))) [frm 35 [(0,Sl 0),(3,In x0),(5,In x1),(6,Sl 0),(7,In x2),(8,In x3)]] [Ro x4]
theorem az.eq(k:Nat)(a0):az (k+1) a0=az.L0 k k 0 (O (N a0)) 0 a0:=by kernel_rfl
theorem az.dJ(k j:Nat)(x0 x1 x2 x3):az.L0 k (j+1) x0 x1 x2 x3=T (D.lt x2 x1) (T (D.le 0 x2) (T (U (V x2) (N x3)) (T (U (V x2) (N x3)) (B (cJ k (E x3 (V x2) 0) 1 9) fun r0=>T (D.no r0) (some false) (T (D.lt 0 x2) (T (D.le 0 (Z .i64 (M x2 1))) (T (U (V (Z .i64 (M x2 1))) (N x3)) (T (U (V (Z .i64 (M x2 1))) (N x3)) (T (D.lt (E x3 (V (Z .i64 (M x2 1))) 0) (E x3 (V x2) 0)) (some false) (az.J1 k j x0 (E x3 (V x2) 0) x1 x2 x3)) none) none) none) (az.J1 k j x0 (E x3 (V x2) 0) x1 x2 x3))) none) none) none) (some true):=(jn _ _).trans (by kernel_rfl)
theorem az.oe(k k1:Nat)(x0 x1 x2 x3 x4):az.J1 k k1 x0 x1 x2 x3 x4=T (D.lt 9 (Z .i64 (A x0 x1))) (some false) (az.L0 k k1 (Z .i64 (A x0 x1)) x2 (Z .i64 (A x3 1)) x4):=(jn _ _).trans (by kernel_rfl)
def dC(k:Nat)(a0:LI)(a1:Int):Option Int:=call k 80 (a0,a1)
theorem dC.eq(k:Nat)(a0 a1):dC (k+1) a0 a1=B (cJ k a1 0 (Z .i64 (M (O (N a0)) 1))) fun r0=>T (D.no r0) (some 0) (T (D.le 0 a1) (T (U (V a1) (N a0)) (T (U (V a1) (N a0)) (some (E a0 (V a1) 0)) none) none) none):=by kernel_rfl
def c16:Code:=cB (cB (gJ P 113))
def a7(k:Nat)(a0 a1:LI):Option Bool:=call k 113 (a0,a1)
def a7.J0(k:Nat)(x0 x1:LI):Option Bool:=JJ k 113 c16 (R0 113) [frm 28 [(0,Sl 0),(1,Sl 1)]] [Ro x0,Ro x1]
def a7.L1(k j:Nat)(x0 x1:Int)(x2 x3:LI):Option Bool:=LL k 113 (cC (cC (cB (cA c16)))) j (dv 0 (JK k 113 (cB c16) (R0 113))) [frm 28 [(1,Sl 0),(15,Sl 1),(16,In x0),(17,In x1)]] [Ro x2,Ro x3]
theorem a7.eq(k:Nat)(a0 a1):a7 (k+1) a0 a1=B (az k a0) fun r0=>T (D.no r0) (some false) (B (az k a1) fun r1=>T (D.no r1) (some false) (a7.J0 k a0 a1)):=by kernel_rfl
theorem a7.qI(k:Nat)(x0 x1):a7.J0 k x0 x1=a7.L1 k k (O (N x0)) 0 x1 x0:=(jn _ _).trans (by kernel_rfl)
theorem a7.nQ(k j:Nat)(x0 x1 x2 x3):a7.L1 k (j+1) x0 x1 x2 x3=T (D.lt x1 x0) (T (D.le 0 x1) (T (U (V x1) (N x3)) (T (U (V x1) (N x3)) (B (dC k x2 x1) fun r2=>T (D.lt r2 (E x3 (V x1) 0)) (some false) (a7.L1 k j x0 (Z .i64 (A x1 1)) x2 x3)) none) none) none) (some true):=(jn _ _).trans (by kernel_rfl)
def cQ(k:Nat)(a0:(LI)×(LI)):Option Bool:=call k 88 a0
theorem cQ.eq(k:Nat)(a0):cQ (k+1) a0=B (a7 k a0.2 a0.1) fun r0=>some r0:=by kernel_rfl
def c17:Code:=cB (cB (gJ P 114))
def cq(k:Nat)(a0:LI):Option Int:=call k 114 a0
def cq.L0(k j:Nat)(x0 x1 x2:Int)(x3:LI):Option Int:=LL k 114 (cC (cC (cB (cA c17)))) j (dv 0 (JK k 114 (cB c17) (R0 114))) [frm 17 [(3,In x0),(6,Sl 0),(7,In x1),(8,In x2)]] [Ro x3]
theorem cq.eq(k:Nat)(a0):cq (k+1) a0=cq.L0 k k 0 (O (N a0)) 0 a0:=by kernel_rfl
theorem cq.dJ(k j:Nat)(x0 x1 x2 x3):cq.L0 k (j+1) x0 x1 x2 x3=T (D.lt x2 x1) (T (D.le 0 x2) (T (U (V x2) (N x3)) (T (U (V x2) (N x3)) (cq.L0 k j (Z .i64 (A x0 (E x3 (V x2) 0))) x1 (Z .i64 (A x2 1)) x3) none) none) none) (some x0):=(jn _ _).trans (by kernel_rfl)
def cS(k:Nat)(a0:(LI)×(LI)):Option Int:=call k 91 a0
theorem cS.eq(k:Nat)(a0):cS (k+1) a0=B (cQ k (a0.1,a0.2)) fun r0=>T (D.no r0) (some (-1)) (B (cq k a0.1) fun r1=>B (cq k a0.2) fun r2=>some (Z .i64 (M r1 r2))):=by kernel_rfl
def dS(k:Nat)(a0 a1:Int):Option (Int×Int):=call k 128 (a0,a1)
theorem dS.eq(k:Nat)(a0 a1):dS (k+1) a0 a1=T (D.le 0 32) (T (D.le 0 32) (T (D.le 0 32) (T (D.le 0 32) (T (D.le 0 32) (some ((Z .u64 (A (Z .u64 (A (Z .u64 (D.mul (D.shrI .u64 a0 32) (D.shrI .u64 a1 32))) (D.shrI .u64 (Z .u64 (A (Z .u64 (D.mul (D.shrI .u64 a0 32) (D.andI .u64 a1 4294967295))) (D.shrI .u64 (Z .u64 (D.mul (D.andI .u64 a0 4294967295) (D.andI .u64 a1 4294967295))) 32))) 32))) (D.shrI .u64 (Z .u64 (A (D.andI .u64 (Z .u64 (A (Z .u64 (D.mul (D.shrI .u64 a0 32) (D.andI .u64 a1 4294967295))) (D.shrI .u64 (Z .u64 (D.mul (D.andI .u64 a0 4294967295) (D.andI .u64 a1 4294967295))) 32))) 4294967295) (Z .u64 (D.mul (D.andI .u64 a0 4294967295) (D.shrI .u64 a1 32))))) 32))),(Z .u64 (D.mul a0 a1)))) none) none) none) none) none:=by kernel_rfl
def ez(k:Nat)(a0 a1:Int):Option (Int×Int):=call k 109 (a0,a1)
theorem ez.eq(k:Nat)(a0 a1):ez (k+1) a0 a1=B (dS k a0 a1) fun r0=>some (r0.1,r0.2):=by kernel_rfl
def c18:Code:=cB (cB (gJ P 120))
def c19:Code:=cB (cB c18)
def c20:Code:=cB (cB c19)
def ao(k:Nat)(a0:LI)(a1:Int):Option LI:=call k 120 (a0,a1)
def ao.J0(k:Nat)(x0:Int)(x1:LI):Option LI:=JJ k 120 c18 (R0 120) [frm 48 [(0,Sl 0),(1,In x0)]] [Ro x1]
def ao.J1(k:Nat)(x0:Int)(x1:LI):Option LI:=JJ k 120 c19 (R0 120) [frm 48 [(0,Sl 0),(6,.int .u64 x0)]] [Ro x1]
def ao.L2(k j:Nat)(x0:Int)(x1:LI):Option LI:=LL k 120 (cC (cC (cA c20))) j (dv 0 (JK k 120 (cB c20) (R0 120))) [frm 48 [(7,Sl 0),(8,In x0)]] [Rw x1]
theorem ao.eq(k:Nat)(a0 a1):ao (k+1) a0 a1=T (D.lt a1 0) none (ao.J0 k a1 a0):=by kernel_rfl
theorem ao.qI(k:Nat)(x0 x1):ao.J0 k x0 x1=B (ez k (Z .u64 (O (N x1))) (Z .u64 x0)) fun r0=>T (D.lt 0 r0.1) none (T (D.lt 9223372036854775807 r0.2) none (ao.J1 k r0.2 x1)):=(jn _ _).trans (by kernel_rfl)
theorem ao.oe(k:Nat)(x0 x1):ao.J1 k x0 x1=T (D.le 0 (Z .i64 x0)) (T (D.le (Z .i64 x0) (Z .i64 x0)) (T (D.leN (V (Z .i64 x0)) 1099511627776) (ao.L2 k k (O (N (D.take (N (D.rep (V (Z .i64 x0)) (0:Int))) x1))) (D.app (D.take 0 (D.rep (V (Z .i64 x0)) (0:Int))) (D.app (D.take (N (D.rep (V (Z .i64 x0)) (0:Int))) x1) (D.drop (N (D.take (N (D.rep (V (Z .i64 x0)) (0:Int))) x1)) (D.rep (V (Z .i64 x0)) (0:Int)))))) none) none) none:=(jn _ _).trans (by kernel_rfl)
theorem ao.GD(k j:Nat)(x0 x1):ao.L2 k (j+1) x0 x1=T (D.lt x0 (O (N x1))) (T (D.le 0 x0) (T (D.leN (V x0) (N x1)) (T (D.le 0 x0) (T (D.leN (V x0) (N x1)) (ao.L2 k j (Z .i64 (A x0 (O (N (D.take (D.subN (N x1) (V x0)) (D.take (D.subN (V x0) 0) (D.drop 0 x1))))))) (D.app (D.take (D.addN (V x0) 0) x1) (D.app (D.take (D.subN (N x1) (V x0)) (D.take (D.subN (V x0) 0) (D.drop 0 x1))) (D.drop (D.addN (V x0) (N (D.take (D.subN (N x1) (V x0)) (D.take (D.subN (V x0) 0) (D.drop 0 x1))))) x1)))) none) none) none) none) (some x1):=(jn _ _).trans (by kernel_rfl)
def jD(k:Nat)(a0:Int):Option LI:=call k 90 a0
theorem jD.eq(k:Nat)(a0):jD (k+1) a0=B (ao k (1::([]:LI)) a0) fun r0=>some r0:=by kernel_rfl
def aY(k:Nat)(a0:LI):Option LI:=call k 27 a0
theorem aY.eq(k:Nat)(a0):aY (k+1) a0=T (D.eqN (N a0) 0) (D.both (some ([]:LI)) (T (D.leN (N (D.app ([]:LI) a0)) 1099511627776) (some (D.app ([]:LI) a0)) none)) (T (D.leN (N (D.app ([]:LI) a0)) 1099511627776) (some (D.app ([]:LI) a0)) none):=by kernel_rfl
def c21:Code:=cB (cB (gJ P 131))
def aW(k:Nat)(a0:(LI)×(LJ)):Option ((LI)×(LJ)):=call k 131 a0
def aW.L0(k j:Nat)(x0 x1:Int)(x2:LJ)(x3:LI)(x4:LJ)(x5:LI)(x6:LJ):Option ((LI)×(LJ)):=LL k 131 (cC (cC (cB (cA c21)))) j (dv 0 (JK k 131 (cB c21) (R0 131))) [frm 26 [(2,.pv 0 0),(3,.pv 1 0),(11,Sl 2),(12,In x0),(13,In x1)]] [.var [Sl 3,Sl 4],.var [Sl 5,Sl 6],Roo x2,Rw x3,Rww x4,Rw x5,Rww x6]
theorem aW.eq(k:Nat)(a0):aW (k+1) a0=B (aY k a0.1) fun r0=>aW.L0 k k (O (N a0.2)) 0 a0.2 ([]:LI) ([]:LJ) r0 ([]:LJ):=by kernel_rfl
theorem aW.dJ(k j:Nat)(x0 x1 x2 x3 x4 x5 x6):aW.L0 k (j+1) x0 x1 x2 x3 x4 x5 x6=T (D.lt x1 x0) (T (D.le 0 x1) (T (U (V x1) (N x2)) (T (U (V x1) (N x2)) (T (U (V x1) (N x2)) (B (aY k (E x2 (V x1) [])) fun r1=>T (D.leN (N (D.app x6 (r1::([]:LJ)))) 1099511627776) (aW.L0 k j x0 (Z .i64 (A x1 1)) x2 x3 x4 x5 (D.app x6 (r1::([]:LJ)))) none) none) none) none) none) (some (x5,x6)):=(jn _ _).trans (by kernel_rfl)
def ag(k:Nat)(x0 x1 x2:Int)(x3:LI)(x4:LJ)(x5:List ((LI)×(LJ)))(x6 x7 x8:LI):Option (PUnit×((LI)×((LJ)×(PUnit×(PUnit×(PUnit×(PUnit×(Int×(PUnit×(PUnit×(PUnit×(List ((LI)×(LJ)))))))))))))):=IO_ k 132 7 2 10 [.var [Sl 10,Sl 11],.var [Sl 7,Sl 8],.var [In 0],.var [Sl 12],.var [.fn 116 [] [.pv 6 0]],.var [.fn 132 [] (frm 6 [(0,.pv 0 0),(1,.pv 1 0),(2,.pv 2 0),(3,.pv 3 0),(4,.pv 4 0),(5,.pv 5 0)])],.var [Sl 9],Rw [],Rww [],.row Bool.true (.pair (.sl (.int .i64)) (.sl (.sl (.int .i64)))) [],Ro [],Ro [],Ro []] [frm 8 [(0,In x0),(1,In x1),(2,.pv 0 0),(3,.pv 1 0),(4,.pv 2 0),(5,.pv 3 0),(6,.pv 4 0),(7,.pv 5 0)],frm 13 [(0,.pv 0 0),(1,.pv 1 0),(2,.pv 2 0),(3,.pv 3 0),(4,.pv 4 0),(5,.pv 5 0),(6,.pv 6 0),(7,Sl 7),(8,Sl 8),(10,Sl 10),(11,Sl 11),(12,Sl 12)]] [.var [Sl 10,Sl 11],.var [Sl 7,Sl 8],.var [In x2],.var [Sl 12],.var [.fn 116 [] [.pv 6 0]],.var [.fn 132 [] (frm 6 [(0,.pv 0 0),(1,.pv 1 0),(2,.pv 2 0),(3,.pv 3 0),(4,.pv 4 0),(5,.pv 5 0)])],.var [Sl 9],Rw x3,Rww x4,.row Bool.true (.pair (.sl (.int .i64)) (.sl (.sl (.int .i64)))) x5,Ro x6,Ro x7,Ro x8]
def ig(k:Nat)(x0:Int)(x1:LI)(x2:LJ)(x3:List ((LI)×(LJ)))(x4 x5 x6:LI):Option (PUnit×((LI)×((LJ)×(List ((LI)×(LJ)))))):=IO_ k 115 1 2 4 [.var [Sl 3],Rw [],Rww [],.row Bool.true (.pair (.sl (.int .i64)) (.sl (.sl (.int .i64)))) [],Ro [],Ro [],Ro []] [frm 5 [(0,.agg [Sl 4,Sl 5]),(1,.agg [Sl 1,Sl 2]),(2,In x0),(3,Sl 6),(4,.fn 116 [] [.pv 0 0])],frm 7 [(0,.pv 0 0),(1,Sl 1),(2,Sl 2),(4,Sl 4),(5,Sl 5),(6,Sl 6)]] [.var [Sl 3],Rw x1,Rww x2,.row Bool.true (.pair (.sl (.int .i64)) (.sl (.sl (.int .i64)))) x3,Ro x4,Ro x5,Ro x6]
def bM(k:Nat)(a0:(LI)×(LJ))(a1 a2:Int):Option Int:=call k 108 (a0,a1,a2)
theorem bM.eq(k:Nat)(a0 a1 a2):bM (k+1) a0 a1 a2=B (cJ k a1 0 (Z .i64 (M (O (N a0.2)) 1))) fun r0=>T (D.no r0) (some 0) (T (D.le 0 a1) (T (U (V a1) (N a0.2)) (T (U (V a1) (N a0.2)) (B (dC k a0.1 a1) fun r1=>T (U (V a1) (N a0.2)) (B (dC k (E a0.2 (V a1) []) (Z .i64 (M a2 r1))) fun r2=>some r2) none) none) none) none):=by kernel_rfl
def c22:Code:=cC (cC (cB (cB (gJ P 132))))
def K23:cM (PUnit×((LI)×((LJ)×(PUnit×(PUnit×(PUnit×(PUnit×(Int×(PUnit×(PUnit×(PUnit×(List ((LI)×(LJ)))))))))))))):=dv 0 (ud (lr P (GL P 132) (fun z4 z5=>wL P 132 7 2 10 [.var [Sl 10,Sl 11],.var [Sl 7,Sl 8],.var [In 0],.var [Sl 12],.var [.fn 116 [] [.pv 6 0]],.var [.fn 132 [] (frm 6 [(0,.pv 0 0),(1,.pv 1 0),(2,.pv 2 0),(3,.pv 3 0),(4,.pv 4 0),(5,.pv 5 0)])],.var [Sl 9],Rw [],Rww [],.row Bool.true (.pair (.sl (.int .i64)) (.sl (.sl (.int .i64)))) [],Ro [],Ro [],Ro []] z4 z5)))
def c24:Code:=cB c22
def c25:Code:=cB (cB (cB (cC (cA c24))))
def c26:Code:=cB c24
def K27(k k1:Nat):cM (PUnit×((LI)×((LJ)×(PUnit×(PUnit×(PUnit×(PUnit×(Int×(PUnit×(PUnit×(PUnit×(List ((LI)×(LJ)))))))))))))):=LK k 132 c22 k1 K23
def K28(k k1:Nat):cM (PUnit×((LI)×((LJ)×(PUnit×(PUnit×(PUnit×(PUnit×(Int×(PUnit×(PUnit×(PUnit×(List ((LI)×(LJ)))))))))))))):=dv 1 (JK k 132 c26 (K27 k k1))
def ag.L0(k j:Nat)(x0 x1 x2:Int)(x3:LI)(x4:LJ)(x5 x6 x7:LI)(x8:List ((LI)×(LJ))):Option (PUnit×((LI)×((LJ)×(PUnit×(PUnit×(PUnit×(PUnit×(Int×(PUnit×(PUnit×(PUnit×(List ((LI)×(LJ)))))))))))))):=LL k 132 c22 j K23 [frm 112 [(1,In x0),(2,.pv 0 0),(3,.pv 1 0),(4,.pv 2 0),(7,.pv 3 0),(10,In x1)],frm 13 [(0,.pv 0 0),(1,.pv 1 0),(2,.pv 2 0),(3,.pv 4 0),(4,.pv 5 0),(5,.pv 3 0),(6,.pv 6 0),(7,Sl 7),(8,Sl 8),(10,Sl 9),(11,Sl 10),(12,Sl 11)]] [.var [Sl 9,Sl 10],.var [Sl 7,Sl 8],.var [In x2],.var [.fn 132 [] (frm 6 [(0,.pv 0 0),(1,.pv 1 0),(2,.pv 2 0),(3,.pv 4 0),(4,.pv 5 0),(5,.pv 3 0)])],.var [Sl 11],.var [.fn 116 [] [.pv 6 0]],.var [Sl 12],Rw x3,Rww x4,Ro x5,Ro x6,Ro x7,.row Bool.true (.pair (.sl (.int .i64)) (.sl (.sl (.int .i64)))) x8]
def ag.J1(k k1:Nat)(x0 x1 x2:Int)(x3:Bool)(x4:Int)(x5:LI)(x6:LJ)(x7 x8 x9:LI)(x10:List ((LI)×(LJ))):Option (PUnit×((LI)×((LJ)×(PUnit×(PUnit×(PUnit×(PUnit×(Int×(PUnit×(PUnit×(PUnit×(List ((LI)×(LJ)))))))))))))):=JJ k 132 c25 (K28 k k1) [frm 112 [(1,In x0),(2,.pv 0 0),(3,.pv 1 0),(4,.pv 2 0),(7,.pv 3 0),(10,In x1),(11,In x2),(13,.bool x3)],frm 13 [(0,.pv 0 0),(1,.pv 1 0),(2,.pv 2 0),(3,.pv 4 0),(4,.pv 5 0),(5,.pv 3 0),(6,.pv 6 0),(7,Sl 7),(8,Sl 8),(10,Sl 9),(11,Sl 10),(12,Sl 11)]] [.var [Sl 9,Sl 10],.var [Sl 7,Sl 8],.var [In x4],.var [.fn 132 [] (frm 6 [(0,.pv 0 0),(1,.pv 1 0),(2,.pv 2 0),(3,.pv 4 0),(4,.pv 5 0),(5,.pv 3 0)])],.var [Sl 11],.var [.fn 116 [] [.pv 6 0]],.var [Sl 12],Rw x5,Rww x6,Ro x7,Ro x8,Ro x9,.row Bool.true (.pair (.sl (.int .i64)) (.sl (.sl (.int .i64)))) x10]
def ag.J2(k k1:Nat)(x0 x1 x2:Int)(x3:LI)(x4:LJ)(x5 x6 x7:LI)(x8:List ((LI)×(LJ))):Option (PUnit×((LI)×((LJ)×(PUnit×(PUnit×(PUnit×(PUnit×(Int×(PUnit×(PUnit×(PUnit×(List ((LI)×(LJ)))))))))))))):=JJ k 132 c26 (K27 k k1) [frm 112 [(1,In x0),(2,.pv 0 0),(3,.pv 1 0),(4,.pv 2 0),(7,.pv 3 0),(10,In x1)],frm 13 [(0,.pv 0 0),(1,.pv 1 0),(2,.pv 2 0),(3,.pv 4 0),(4,.pv 5 0),(5,.pv 3 0),(6,.pv 6 0),(7,Sl 7),(8,Sl 8),(10,Sl 9),(11,Sl 10),(12,Sl 11)]] [.var [Sl 9,Sl 10],.var [Sl 7,Sl 8],.var [In x2],.var [.fn 132 [] (frm 6 [(0,.pv 0 0),(1,.pv 1 0),(2,.pv 2 0),(3,.pv 4 0),(4,.pv 5 0),(5,.pv 3 0)])],.var [Sl 11],.var [.fn 116 [] [.pv 6 0]],.var [Sl 12],Rw x3,Rww x4,Ro x5,Ro x6,Ro x7,.row Bool.true (.pair (.sl (.int .i64)) (.sl (.sl (.int .i64)))) x8]
def ag.J3(k k1:Nat)(x0 x1 x2:Int)(x3:LI)(x4:LJ)(x5 x6 x7:LI)(x8:List ((LI)×(LJ))):Option (PUnit×((LI)×((LJ)×(PUnit×(PUnit×(PUnit×(PUnit×(Int×(PUnit×(PUnit×(PUnit×(List ((LI)×(LJ)))))))))))))):=JJ k 132 (cB c25) (K28 k k1) [frm 112 [(1,In x0),(2,.pv 0 0),(3,.pv 1 0),(4,.pv 2 0),(7,.pv 3 0),(10,In x1)],frm 13 [(0,.pv 0 0),(1,.pv 1 0),(2,.pv 2 0),(3,.pv 4 0),(4,.pv 5 0),(5,.pv 3 0),(6,.pv 6 0),(7,Sl 7),(8,Sl 8),(10,Sl 9),(11,Sl 10),(12,Sl 11)]] [.var [Sl 9,Sl 10],.var [Sl 7,Sl 8],.var [In x2],.var [.fn 132 [] (frm 6 [(0,.pv 0 0),(1,.pv 1 0),(2,.pv 2 0),(3,.pv 4 0),(4,.pv 5 0),(5,.pv 3 0)])],.var [Sl 11],.var [.fn 116 [] [.pv 6 0]],.var [Sl 12],Rw x3,Rww x4,Ro x5,Ro x6,Ro x7,.row Bool.true (.pair (.sl (.int .i64)) (.sl (.sl (.int .i64)))) x8]
theorem ag.eq(k:Nat)(x0 x1 x2 x3 x4 x5 x6 x7 x8):ag (k+1) x0 x1 x2 x3 x4 x5 x6 x7 x8=T (D.eq x1 0) (T (D.le 0 1) (T (D.leN (V 1) (N x8)) (B (ig k (Z .i64 (A x2 1)) x3 x4 x5 x6 x7 (D.take (D.subN (N x8) (V 1)) (D.drop (V 1) x8))) fun r0=>some ((),(r0.2.1,(r0.2.2.1,((),((),((),((),(x2,((),((),((),r0.2.2.2)))))))))))) none) none) (ag.L0 k k x1 x0 x2 x3 x4 x6 x7 x8 x5):=by kernel_rfl
theorem ag.dJ(k j:Nat)(x0 x1 x2 x3 x4 x5 x6 x7 x8):ag.L0 k (j+1) x0 x1 x2 x3 x4 x5 x6 x7 x8=T (D.lt x1 (O (N x5))) (B (dC k x6 x1) fun r1=>T (D.le 0 x1) (T (U (V x1) (N x4)) (T (U (V x1) (N x4)) (T (U (V x1) (N x4)) (B (bM k (x3,x4) (Z .i64 (M x1 1)) (Z .i64 (A r1 (O (N (E x4 (V x1) [])))))) fun r2=>T (D.lt 0 x1) (B (dC k x6 (Z .i64 (M x1 1))) fun r3=>T (D.le r3 (Z .i64 (A r1 (O (N (E x4 (V x1) [])))))) (T (D.eq r2 0) (ag.J1 k j x0 x1 (Z .i64 (A r1 (O (N (E x4 (V x1) []))))) true x2 x3 x4 x5 x6 x7 x8) (ag.J1 k j x0 x1 (Z .i64 (A r1 (O (N (E x4 (V x1) []))))) (D.eq r2 x2) x2 x3 x4 x5 x6 x7 x8)) (ag.J1 k j x0 x1 (Z .i64 (A r1 (O (N (E x4 (V x1) []))))) false x2 x3 x4 x5 x6 x7 x8)) (ag.J1 k j x0 x1 (Z .i64 (A r1 (O (N (E x4 (V x1) []))))) false x2 x3 x4 x5 x6 x7 x8)) none) none) none) none) (some ((),(x3,(x4,((),((),((),((),(x2,((),((),((),x8)))))))))))):=(jn _ _).trans (by kernel_rfl)
theorem ag.oe(k k1:Nat)(x0 x1 x2 x3 x4 x5 x6 x7 x8 x9 x10):ag.J1 k k1 x0 x1 x2 x3 x4 x5 x6 x7 x8 x9 x10=T (D.le 0 x1) (T (U (V x1) (N x7)) (T (U (V x1) (N x7)) (T (D.eq x2 (E x7 (V x1) 0)) (ag.J2 k k1 x0 x1 x4 x5 x6 x7 x8 x9 x10) (T x3 (ag.J2 k k1 x0 x1 x4 x5 x6 x7 x8 x9 x10) (ag.J3 k k1 x0 x1 x4 x5 x6 x7 x8 x9 x10))) none) none) none:=(jn _ _).trans (by kernel_rfl)
theorem ag.DR(k k1:Nat)(x0 x1 x2 x3 x4 x5 x6 x7 x8):ag.J2 k k1 x0 x1 x2 x3 x4 x5 x6 x7 x8=ag.L0 k k1 x0 (Z .i64 (A x1 1)) x2 x3 x4 x5 x6 x7 x8:=(jn _ _).trans (by kernel_rfl)
theorem ag.Hl(k k1:Nat)(x0 x1 x2 x3 x4 x5 x6 x7 x8):ag.J3 k k1 x0 x1 x2 x3 x4 x5 x6 x7 x8=T (D.le 0 x1) (T (U (V x1) (N x4)) (T (U (V x1) (N x4)) (T (U (V x1) (N x4)) (T (D.leN (N (D.app (E x4 (V x1) []) (x2::([]:LI)))) 1099511627776) (T (D.le 0 x1) (T (U (V x1) (N x4)) (T (U (V x1) (N x4)) (T (D.eqP (((V x1),0)::([]:List (Nat×Nat))) (((V x1),0)::([]:List (Nat×Nat)))) (B (ag k x1 (Z .i64 (M x0 1)) x2 x3 (D.set x4 (V x1) (D.app (E x4 (V x1) []) (x2::([]:LI)))) x8 x5 x6 x7) fun r4=>T (D.le 0 x1) (T (U (V x1) (N r4.2.2.1)) (T (U (V x1) (N r4.2.2.1)) (T (D.le 0 x1) (T (U (V x1) (N r4.2.2.1)) (T (U (V x1) (N r4.2.2.1)) (T (U (V x1) (N r4.2.2.1)) (T (U (V x1) (N r4.2.2.1)) (T (D.le 0 (Z .i64 (M (O (N (E r4.2.2.1 (V x1) []))) 1))) (T (D.leN (V (Z .i64 (M (O (N (E r4.2.2.1 (V x1) []))) 1))) (N (E r4.2.2.1 (V x1) []))) (T (D.le 0 x1) (T (U (V x1) (N r4.2.2.1)) (T (U (V x1) (N r4.2.2.1)) (T (U (V x1) (N r4.2.2.1)) (T (D.eqP (((V x1),0)::([]:List (Nat×Nat))) (((V x1),0)::([]:List (Nat×Nat)))) (ag.J2 k k1 x0 x1 r4.2.2.2.2.2.2.2.1 r4.2.1 (D.set r4.2.2.1 (V x1) (D.take (D.subN (V (Z .i64 (M (O (N (E r4.2.2.1 (V x1) []))) 1))) 0) (D.drop 0 (E r4.2.2.1 (V x1) [])))) x5 x6 x7 r4.2.2.2.2.2.2.2.2.2.2.2) none) none) none) none) none) none) none) none) none) none) none) none) none) none) none) none) none) none) none) none) none) none) none) none:=(jn _ _).trans (by kernel_rfl)
def aH(k:Nat)(x0:Int)(x1:LI)(x2:LJ)(x3:List ((LI)×(LJ)))(x4 x5 x6:LI):Option (PUnit×((LI)×((LJ)×(List ((LI)×(LJ)))))):=IO_ k 115 1 2 4 [.var [Sl 3],Rw [],Rww [],.row Bool.true (.pair (.sl (.int .i64)) (.sl (.sl (.int .i64)))) [],Ro [],Ro [],Ro []] [frm 5 [(0,.agg [Sl 4,Sl 5]),(1,.agg [Sl 1,Sl 2]),(2,In x0),(3,Sl 6),(4,.fn 116 [] [.pv 0 0])],frm 7 [(0,.pv 0 0),(1,Sl 1),(2,Sl 2),(4,Sl 4),(5,Sl 5),(6,Sl 6)]] [.var [Sl 3],Rw x1,Rww x2,.row Bool.true (.pair (.sl (.int .i64)) (.sl (.sl (.int .i64)))) x3,Ro x4,Ro x5,Ro x6]
theorem aH.eq(k:Nat)(x0 x1 x2 x3 x4 x5 x6):aH (k+2) x0 x1 x2 x3 x4 x5 x6=T (D.eq (O (N x6)) 0) (B (aW (k+1) (x1,x2)) fun r0=>T (D.leN (N (D.app x3 ((r0.1,r0.2)::([]:List ((LI)×(LJ)))))) 1099511627776) (some ((),(x1,(x2,(D.app x3 ((r0.1,r0.2)::([]:List ((LI)×(LJ))))))))) none) (T (D.le 0 0) (T (U (V 0) (N x6)) (T (U (V 0) (N x6)) (B (ag (k+1) 0 (E x6 (V 0) 0) x0 x1 x2 x3 x4 x5 x6) fun r1=>some ((),(r1.2.1,(r1.2.2.1,r1.2.2.2.2.2.2.2.2.2.2.2)))) none) none) none):=by kernel_rfl
def c29:Code:=cB (cB (gJ P 83))
def c30:Code:=cB c29
def bn(k:Nat)(a0:(LI)×(LJ)):Option (((LI)×(LI))×Bool):=call k 83 a0
def bn.J0(k:Nat)(x0:LI)(x1:LJ)(x2 x3:LI):Option (((LI)×(LI))×Bool):=JJ k 83 c29 (R0 83) [frm 51 [(1,.pv 0 0),(2,.pv 1 0)]] [.var [Sl 2,Sl 3],.var [Sl 4,Sl 5],Ro x0,Roo x1,Rw x2,Rw x3]
def bn.L1(k j:Nat)(x0 x1:Int)(x2:LJ)(x3 x4 x5 x6 x7:LI):Option (((LI)×(LI))×Bool):=LL k 83 (cC (cC (cB (cA c30)))) j (dv 0 (JK k 83 (cB c30) (R0 83))) [frm 51 [(1,.pv 0 0),(2,.pv 1 0),(4,.pv 2 0),(26,Sl 3),(27,In x0),(28,In x1)]] [.var [Sl 4,Sl 3],.var [Sl 5,Sl 6],.var [Sl 7,Sl 8],Roo x2,Ro x3,Rw x4,Rw x5,Rw x6,Rw x7]
theorem bn.eq(k:Nat)(a0):bn (k+1) a0=B (az k a0.1) fun r0=>T (D.no r0) (some ((([]:LI),([]:LI)),false)) (T (D.lt (O (N a0.2)) (O (N a0.1))) (some ((([]:LI),([]:LI)),false)) (bn.J0 k a0.1 a0.2 ([]:LI) ([]:LI))):=by kernel_rfl
theorem bn.qI(k:Nat)(x0 x1 x2 x3):bn.J0 k x0 x1 x2 x3=B (aY k x0) fun r1=>bn.L1 k k (O (N x1)) 0 x1 x0 x2 x3 ([]:LI) r1:=(jn _ _).trans (by kernel_rfl)
theorem bn.nQ(k j:Nat)(x0 x1 x2 x3 x4 x5 x6 x7):bn.L1 k (j+1) x0 x1 x2 x3 x4 x5 x6 x7=T (D.lt x1 x0) (T (D.le 0 x1) (T (U (V x1) (N x2)) (T (U (V x1) (N x2)) (B (dC k x3 x1) fun r2=>T (U (V x1) (N x2)) (T (D.leN (N (D.app x6 ((Z .i64 (A r2 (O (N (E x2 (V x1) [])))))::([]:LI)))) 1099511627776) (bn.L1 k j x0 (Z .i64 (A x1 1)) x2 x3 x4 x5 (D.app x6 ((Z .i64 (A r2 (O (N (E x2 (V x1) [])))))::([]:LI))) x7) none) none) none) none) none) (B (cQ k (x6,x7)) fun r3=>T (D.no r3) (some ((([]:LI),([]:LI)),false)) (some ((x6,x7),true))):=(jn _ _).trans (by kernel_rfl)
def c31:Code:=cB (cB (gJ P 78))
def c32:Code:=cC (cC (cB (cA c31)))
def K33(k:Nat):cM (den (resTy P 78)):=dv 0 (JK k 78 (cB c31) (R0 78))
def c34:Code:=cB (cB c32)
def c35:Code:=cC (cC (cB (cB (cC (cA c34)))))
def K36(k k1:Nat):cM (den (resTy P 78)):=dv 2 (dv 1 (JK k 78 (cB c34) (LK k 78 c32 k1 (K33 k))))
def au(k:Nat)(a0:(LI)×(LJ)):Option Bool:=call k 78 a0
def au.L0(k j:Nat)(x0 x1:Int)(x2:LJ)(x3:LI):Option Bool:=LL k 78 c32 j (K33 k) [frm 67 [(1,.pv 0 0),(17,Sl 1),(18,In x0),(19,In x1)]] [.var [Sl 2,Sl 1],Roo x2,Ro x3]
def au.L1(k k1 j:Nat)(x0:Int)(x1:Nat)(x2 x3:Int)(x4:Nat)(x5 x6:Int)(x7:LJ)(x8:LI):Option Bool:=LL k 78 c35 j (K36 k k1) [frm 67 [(1,.pv 0 0),(5,In x0),(6,.sl 1 [(x1,0)] Option.none),(17,Sl 1),(18,In x2),(19,In x3),(24,.sl 1 [(x4,0)] Option.none),(25,In x5),(26,In x6)]] [.var [Sl 2,Sl 1],Roo x7,Ro x8]
def au.J2(k k1 k2:Nat)(x0:Int)(x1:Nat)(x2 x3:Int)(x4:Nat)(x5 x6:Int)(x7:LJ)(x8:LI):Option Bool:=JJ k 78 (cB (cB (cB c35))) (LK k 78 c35 k2 (K36 k k1)) [frm 67 [(1,.pv 0 0),(5,In x0),(6,.sl 1 [(x1,0)] Option.none),(17,Sl 1),(18,In x2),(19,In x3),(24,.sl 1 [(x4,0)] Option.none),(25,In x5),(26,In x6)]] [.var [Sl 2,Sl 1],Roo x7,Ro x8]
theorem au.eq(k:Nat)(a0):au (k+1) a0=B (bn k (a0.1,a0.2)) fun r0=>T (D.no r0.2) (some false) (au.L0 k k (O (N a0.2)) 0 a0.2 a0.1):=by kernel_rfl
theorem au.dJ(k j:Nat)(x0 x1 x2 x3):au.L0 k (j+1) x0 x1 x2 x3=T (D.lt x1 x0) (T (D.le 0 x1) (T (U (V x1) (N x2)) (T (U (V x1) (N x2)) (T (U (V x1) (N x2)) (au.L1 k j k x1 (V x1) x0 x1 (V x1) (O (N (E x2 (V x1) []))) 0 x2 x3) none) none) none) none) (some true):=(jn _ _).trans (by kernel_rfl)
theorem au.nQ(k k1 j:Nat)(x0 x1 x2 x3 x4 x5 x6 x7 x8):au.L1 k k1 (j+1) x0 x1 x2 x3 x4 x5 x6 x7 x8=T (D.lt x6 x5) (T (U x4 (N x7)) (T (D.le 0 x6) (T (U (V x6) (N (E x7 x4 []))) (T (U x4 (N x7)) (T (U (V x6) (N (E x7 x4 []))) (B (cJ k (E (E x7 x4 []) (V x6) 0) 1 9) fun r1=>T (D.no r1) (some false) (T (D.lt 0 x6) (T (U x1 (N x7)) (T (D.le 0 (Z .i64 (M x6 1))) (T (U (V (Z .i64 (M x6 1))) (N (E x7 x1 []))) (T (U x1 (N x7)) (T (U (V (Z .i64 (M x6 1))) (N (E x7 x1 []))) (T (D.lt (E (E x7 x4 []) (V x6) 0) (E (E x7 x1 []) (V (Z .i64 (M x6 1))) 0)) (some false) (T (D.lt 0 x0) (B (dC k x8 x0) fun r2=>B (bM k (x8,x7) (Z .i64 (M x0 1)) (Z .i64 (A r2 x6))) fun r3=>T (D.le (E (E x7 x4 []) (V x6) 0) r3) (some false) (au.J2 k k1 j x0 x1 x2 x3 x4 x5 x6 x7 x8)) (au.J2 k k1 j x0 x1 x2 x3 x4 x5 x6 x7 x8))) none) none) none) none) none) (T (D.lt 0 x0) (B (dC k x8 x0) fun r4=>B (bM k (x8,x7) (Z .i64 (M x0 1)) (Z .i64 (A r4 x6))) fun r5=>T (D.le (E (E x7 x4 []) (V x6) 0) r5) (some false) (au.J2 k k1 j x0 x1 x2 x3 x4 x5 x6 x7 x8)) (au.J2 k k1 j x0 x1 x2 x3 x4 x5 x6 x7 x8)))) none) none) none) none) none) (au.L0 k k1 x2 (Z .i64 (A x3 1)) x7 x8):=(jn _ _).trans (by kernel_rfl)
theorem au.DR(k k1 k2:Nat)(x0 x1 x2 x3 x4 x5 x6 x7 x8):au.J2 k k1 k2 x0 x1 x2 x3 x4 x5 x6 x7 x8=au.L1 k k1 k2 x0 x1 x2 x3 x4 x5 (Z .i64 (A x6 1)) x7 x8:=(jn _ _).trans (by kernel_rfl)
def strings_Repeat(k:Nat)(a0:ByteArray)(a1:Int):Option ByteArray:=call k 79 (a0,a1)
theorem strings_Repeat.eq(k:Nat)(a0 a1):strings_Repeat (k+1) a0 a1=wW a0 a1:=by kernel_rfl
def strconv_Itoa(k:Nat)(a0:Int):Option ByteArray:=call k 84 a0
theorem strconv_Itoa.eq(k:Nat)(a0):strconv_Itoa (k+1) a0=rB a0:=by kernel_rfl
def eL(k:Nat)(a0:Int):Option ByteArray:=call k 49 a0
theorem eL.eq(k:Nat)(a0):eL (k+1) a0=B (strconv_Itoa k a0) fun r0=>some r0:=by kernel_rfl
def strings_Join(k:Nat)(a0:List ByteArray)(a1:ByteArray):Option ByteArray:=call k 77 (a0,a1)
theorem strings_Join.eq(k:Nat)(a0 a1):strings_Join (k+1) a0 a1=r7 a0 a1:=by kernel_rfl
def gY(k:Nat)(a0:List ByteArray)(a1:ByteArray):Option ByteArray:=call k 45 (a0,a1)
theorem gY.eq(k:Nat)(a0 a1):gY (k+1) a0 a1=B (strings_Join k a0 a1) fun r0=>some r0:=by kernel_rfl
def c37:Code:=cB (cB (gJ P 81))
def bQ(k:Nat)(a0:LI)(a1:ByteArray):Option ByteArray:=call k 81 (a0,a1)
def bQ.L0(k j:Nat)(x0:ByteArray)(x1 x2:Int)(x3:List ByteArray)(x4:LI):Option ByteArray:=LL k 81 (cC (cC (cB (cA c37)))) j (dv 0 (JK k 81 (cB c37) (R0 81))) [frm 24 [(1,.str x0),(5,Sl 0),(9,Sl 1),(10,In x1),(11,In x2)]] [.row Bool.true .str x3,Ro x4]
theorem bQ.eq(k:Nat)(a0 a1):bQ (k+1) a0 a1=bQ.L0 k k a1 (O (N a0)) 0 ([]:List ByteArray) a0:=by kernel_rfl
theorem bQ.dJ(k j:Nat)(x0 x1 x2 x3 x4):bQ.L0 k (j+1) x0 x1 x2 x3 x4=T (D.lt x2 x1) (T (D.le 0 x2) (T (U (V x2) (N x4)) (T (U (V x2) (N x4)) (B (eL k (E x4 (V x2) 0)) fun r0=>T (D.leN (N (D.app x3 (r0::([]:List ByteArray)))) 1099511627776) (bQ.L0 k j x0 x1 (Z .i64 (A x2 1)) (D.app x3 (r0::([]:List ByteArray))) x4) none) none) none) none) (B (gY k x3 x0) fun r1=>some r1):=(jn _ _).trans (by kernel_rfl)
def c38:Code:=cB (cB (cB (gJ P 46)))
def aN(k:Nat)(a0:(LI)×(LJ)):Option ByteArray:=call k 46 a0
def aN.L0(k j:Nat)(x0 x1:Int)(x2:List ByteArray)(x3:LJ)(x4:LI):Option ByteArray:=LL k 46 (cC (cC (cB (cA c38)))) j (dv 1 (JK k 46 (cB c38) (R0 46))) [frm 38 [(1,.pv 0 0),(3,Sl 1),(17,Sl 2),(18,In x0),(19,In x1)]] [.var [Sl 3,Sl 2],.row Bool.true .str x2,Roo x3,Ro x4]
theorem aN.eq(k:Nat)(a0):aN (k+1) a0=B (au k (a0.1,a0.2)) fun r0=>T (D.no r0) (some (⟨#[]⟩:ByteArray)) (T (D.eq (O (N a0.2)) 0) (some (⟨#[45]⟩:ByteArray)) (aN.L0 k k (O (N a0.2)) 0 ([]:List ByteArray) a0.2 a0.1)):=by kernel_rfl
theorem aN.dJ(k j:Nat)(x0 x1 x2 x3 x4):aN.L0 k (j+1) x0 x1 x2 x3 x4=T (D.lt x1 x0) (T (D.le 0 x1) (T (U (V x1) (N x3)) (T (U (V x1) (N x3)) (B (dC k x4 x1) fun r1=>B (strings_Repeat k (⟨#[46]⟩:ByteArray) r1) fun r2=>T (U (V x1) (N x3)) (B (bQ k (E x3 (V x1) []) (⟨#[]⟩:ByteArray)) fun r3=>T (D.leN (D.addN (D.lenS r2) (D.lenS r3)) 1099511627776) (T (D.leN (N (D.app x2 ((D.catS r2 r3)::([]:List ByteArray)))) 1099511627776) (aN.L0 k j x0 (Z .i64 (A x1 1)) (D.app x2 ((D.catS r2 r3)::([]:List ByteArray))) x3 x4) none) none) none) none) none) none) (B (gY k x2 (⟨#[47]⟩:ByteArray)) fun r4=>some r4):=(jn _ _).trans (by kernel_rfl)
def strings_Compare(k:Nat)(a0 a1:ByteArray):Option Int:=call k 119 (a0,a1)
theorem strings_Compare.eq(k:Nat)(a0 a1):strings_Compare (k+1) a0 a1=Eg a0 a1:=by kernel_rfl
def dV(k:Nat)(a0 a1:(LI)×(LJ)):Option Int:=call k 118 (a0,a1)
theorem dV.eq(k:Nat)(a0 a1):dV (k+1) a0 a1=B (aN k (a0.1,a0.2)) fun r0=>B (aN k (a1.1,a1.2)) fun r1=>B (strings_Compare k r0 r1) fun r2=>some r2:=by kernel_rfl
def dD(k:Nat)(a0:(LI)×(LI))(a1:LI):Option (List ((LI)×(LJ))):=call k 89 (a0,a1)
theorem dD.eq(k:Nat)(a0 a1):dD (k+2) a0 a1=B (cq (k+1) a1) fun r0=>B (cS (k+1) (a0.1,a0.2)) fun r1=>T (D.no (D.eq r0 r1)) (some ([]:List ((LI)×(LJ)))) (B (aY (k+1) a0.2) fun r2=>T (D.le 0 (O (N a0.1))) (T (D.le (O (N a0.1)) (O (N a0.1))) (T (D.leN (V (O (N a0.1))) 1099511627776) (B (aH (k+1) 1 r2 (D.rep (V (O (N a0.1))) ([]:LI)) ([]:List ((LI)×(LJ))) a0.1 a0.2 a1) fun r3=>B (D.srt (fun a b=>dV (k+1) a b) r3.2.2.2) fun r4=>some r4) none) none) none):=by kernel_rfl
def b7(k:Nat)(a0:(LI)×(LI)):Option (List ((LI)×(LJ))):=call k 56 a0
theorem b7.eq(k:Nat)(a0):b7 (k+1) a0=B (cQ k (a0.1,a0.2)) fun r0=>T (D.no r0) (some ([]:List ((LI)×(LJ)))) (B (cS k (a0.1,a0.2)) fun r1=>B (jD k r1) fun r2=>B (dD k (a0.1,a0.2) r2) fun r3=>some r3):=by kernel_rfl
def cH(k:Nat)(a0:(LI)×(LI)):Option Int:=call k 19 a0
theorem cH.eq(k:Nat)(a0):cH (k+1) a0=B (b7 k (a0.1,a0.2)) fun r0=>some (O (N r0)):=by kernel_rfl
def c39:Code:=cB (cB (gJ P 15))
def bE(k:Nat)(a0 a1:LI):Option Bool:=call k 15 (a0,a1)
def bE.L0(k j:Nat)(x0:Int)(x1 x2:LI):Option Bool:=LL k 15 (cC (cC (cB (cA c39)))) j (dv 0 (JK k 15 (cB c39) (R0 15))) [frm 26 [(0,Sl 0),(1,Sl 1),(5,In x0)]] [Ro x1,Ro x2]
theorem bE.eq(k:Nat)(a0 a1):bE (k+1) a0 a1=T (D.no (D.eq (O (N a0)) (O (N a1)))) (some false) (bE.L0 k k 0 a0 a1):=by kernel_rfl
theorem bE.dJ(k j:Nat)(x0 x1 x2):bE.L0 k (j+1) x0 x1 x2=T (D.lt x0 (O (N x1))) (T (D.le 0 x0) (T (U (V x0) (N x1)) (T (U (V x0) (N x1)) (T (D.le 0 x0) (T (U (V x0) (N x2)) (T (U (V x0) (N x2)) (T (D.no (D.eq (E x1 (V x0) 0) (E x2 (V x0) 0))) (some false) (bE.L0 k j (Z .i64 (A x0 1)) x1 x2)) none) none) none) none) none) none) (some true):=(jn _ _).trans (by kernel_rfl)
def gh(k:Nat)(a0 a1:(LI)×(LI)):Option Bool:=call k 20 (a0,a1)
theorem gh.eq(k:Nat)(a0 a1):gh (k+1) a0 a1=B (bE k a0.1 a1.1) fun r0=>T (D.no r0) (some false) (B (bE k a0.2 a1.2) fun r1=>T (D.no r1) (some false) (some true)):=by kernel_rfl
def bH(k:Nat)(a0:(LI)×(LI)):Option Bool:=call k 5 a0
theorem bH.eq(k:Nat)(a0):bH (k+1) a0=B (fY k (a0.1,a0.2) 1048576) fun r0=>T (D.lt r0 0) (some true) (B (cP k (a0.1,a0.2)) fun r1=>B (cG k (r1.1,r1.2)) fun r2=>B (cP k (a0.1,a0.2)) fun r3=>B (cH k (r3.1,r3.2)) fun r4=>T (D.no (D.eq r4 r2)) (some false) (B (cP k (a0.1,a0.2)) fun r5=>B (gh k (r3.1,r3.2) (r5.1,r5.2)) fun r6=>T (D.no r6) (some false) (some true))):=by kernel_rfl
end Go.Am.Seat
