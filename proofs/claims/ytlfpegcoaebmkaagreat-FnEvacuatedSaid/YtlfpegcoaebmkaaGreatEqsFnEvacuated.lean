/- The machine's equations for the functions that the law reaches, each checked by the kernel; no conditions. -/
import Derived.Test.YtlfpegcoaebmkaaGreatCfgFnEvacuated
import Derived.Test.YtlfpegcoaebmkaaGreatProg
set_option linter.unusedSimpArgs false
set_option linter.unusedVariables false
set_option linter.unnecessarySimpa false
set_option linter.unusedSectionVars false
noncomputable section
namespace Go.Am.Seat
open Go Go.Am Go.Proofs
set_option linter.unusedVariables false
set_option linter.unusedSectionVars false
set_option maxRecDepth 100000
variable [D] [DJ]
abbrev LI:=List Int
abbrev LJ:=List (List Int)
abbrev P:Program:=Go.Proofs.Tryz.prog
def ext:Ext P:=fun _=>none
def X{R:Type}(k f:Nat)(c:Code):St→cU R→Option R:=exec P cfg (mJ P cfg ext k) k f c
abbrev call(k f:Nat)(x:den (iw P f)):Option (den (resTy P f)):=AJ P cfg ext k f x
abbrev JE(k f:Nat)(x:den (iw P f)):Option (den (resTy P f)):=He P cfg ext k f x
def R0(f:Nat):cU (den (resTy P f)):=lQ (finish P f (o9 P f))
def JK{T:Type}(k f:Nat)(c:Code)(K:cU T):cU T:=sn (fun a b=>jM (Cfg.joins cfg f (key c)) (fun s=>X k f c s b) a) K
def LK{T:Type}(k f:Nat)(c:Code)(j:Nat)(K:cU T):cU T:=sn (fun a b=>jM (Cfg.loops cfg f (key c)) (fun s=>lE (fun x y=>X k f c x y) (Cfg.loops cfg f (key c)) j s b) a) K
def trN:Nat→List (Nat×Touch)
 |0=> []
 |n+1=>(n,iN)::trN n
def LL{T:Type}(k f:Nat)(c:Code)(j:Nat)(K:cU T)(fr:List (List AV))(rs:List aB):Option T:=D.jn (fun a=>lE (fun x y=>X k f c x y) (Cfg.loops cfg f (key c)) j a K) (St.mk fr rs)
def JJ{T:Type}(k f:Nat)(c:Code)(K:cU T)(fr:List (List AV))(rs:List aB):Option T:=D.jn (fun a=>X k f c a K) (St.mk fr rs)
abbrev IO_(k f nV nD n:Nat)(rs0:List aB)(fr:List (List AV))(rs:List aB):Option (den (resTy P f)×den (uU nV nD n rs0)):=mR (mJ P cfg ext k) f nV nD n rs0 (St.mk fr rs)
def Sl(n:Nat):AV:= .sl n [] none
def In(n:Int):AV:= .int .i64 n
def Rw(x:LI):aB:= .row Bool.true (.int .i64) x
def Rww(x:LJ):aB:= .row Bool.true (.sl (.int .i64)) x
def Ro(x:LI):aB:= .row Bool.false (.int .i64) x
def Roo(x:LJ):aB:= .row Bool.false (.sl (.int .i64)) x
open Go.Am.D renaming test → T, bnd → B, len → N, nat → V, ltN → U, rd → E, ofN → O, wrap → Z, add → A, sub → M
open Go.Am.DJ renaming jn_eq → jn
open Go.Am.Code (cA cB cC cT)
def nx(k:Nat)(a0:LI):Option Bool:=call k 6 a0
theorem nx.eq(k:Nat)(a0):nx (k+1) a0=some (D.lt 1048576 (O (N a0))):=by kernel_rfl
def cL(k:Nat)(x0 x1:Int)(x2:LI):Option (Int×(PUnit×(Int×Int))):=IO_ k 137 1 0 1 [.var [Sl 1,In 0,In 0],.row Bool.false (.int .u8) []] [[.pv 0 0],[.pv 0 0,Sl 1]] [.var [Sl 1,In x0,In x1],.row Bool.false (.int .u8) x2]
theorem cL.eq(k:Nat)(x0 x1 x2):cL (k+1) x0 x1 x2=T (D.le 0 33) (T (D.le 0 45) (T (D.lt x0 (O (N x2))) (T (D.le 0 x0) (T (U (V x0) (N x2)) (T (U (V x0) (N x2)) (some ((D.andI .i64 (Z .i64 (A (D.andI .i64 (D.xorI .i64 (D.shrI .i64 (Z .i64 (A (Z .i64 (D.mul x1 6364136223846793005)) 1442695040888963407)) 33) (D.shrI .i64 (Z .i64 (A (Z .i64 (D.mul x1 6364136223846793005)) 1442695040888963407)) 45)) 255) (Z .i64 (E x2 (V x0) 0)))) 255),((),((Z .i64 (A x0 1)),(Z .i64 (A (Z .i64 (D.mul x1 6364136223846793005)) 1442695040888963407)))))) none) none) none) (some ((D.andI .i64 (D.xorI .i64 (D.shrI .i64 (Z .i64 (A (Z .i64 (D.mul x1 6364136223846793005)) 1442695040888963407)) 33) (D.shrI .i64 (Z .i64 (A (Z .i64 (D.mul x1 6364136223846793005)) 1442695040888963407)) 45)) 255),((),(x0,(Z .i64 (A (Z .i64 (D.mul x1 6364136223846793005)) 1442695040888963407))))))) none) none:=by kernel_rfl
def aD(k:Nat)(x0 x1 x2:Int)(x3:LI):Option (Int×(PUnit×(Int×Int))):=IO_ k 81 1 0 1 [.var [Sl 1,In 0,In 0],.row Bool.false (.int .u8) []] [[.pv 0 0,In x0],[.pv 0 0,Sl 1]] [.var [Sl 1,In x1,In x2],.row Bool.false (.int .u8) x3]
theorem aD.eq(k:Nat)(x0 x1 x2 x3):aD (k+1) x0 x1 x2 x3=T (D.le x0 0) (some ((0:Int),((),(x1,x2)))) (T (D.le x0 256) (B (cL k x1 x2 x3) fun r0=>T (D.no (D.eq x0 0)) (some ((D.rem r0.1 x0),((),(r0.2.2.1,r0.2.2.2)))) none) (B (cL k x1 x2 x3) fun r1=>B (cL k r1.2.2.1 r1.2.2.2 x3) fun r2=>B (cL k r2.2.2.1 r2.2.2.2 x3) fun r3=>B (cL k r3.2.2.1 r3.2.2.2 x3) fun r4=>T (D.no (D.eq x0 0)) (some ((D.rem (Z .i64 (A (Z .i64 (A (Z .i64 (A (Z .i64 (D.mul r1.1 16777216)) (Z .i64 (D.mul r2.1 65536)))) (Z .i64 (D.mul r3.1 256)))) r4.1)) x0),((),(r4.2.2.1,r4.2.2.2)))) none)):=by kernel_rfl
def bP(k:Nat)(x0 x1 x2:Int)(x3:LI):Option (Bool×(PUnit×(Int×Int))):=IO_ k 79 1 0 1 [.var [Sl 1,In 0,In 0],.row Bool.false (.int .u8) []] [[.pv 0 0,In x0],[.pv 0 0,Sl 1]] [.var [Sl 1,In x1,In x2],.row Bool.false (.int .u8) x3]
theorem bP.eq(k:Nat)(x0 x1 x2 x3):bP (k+1) x0 x1 x2 x3=B (aD k x0 x1 x2 x3) fun r0=>some ((D.eq r0.1 0),((),(r0.2.2.1,r0.2.2.2))):=by kernel_rfl
def gZ(k:Nat)(a0 a1:Int):Option Int:=call k 162 (a0,a1)
theorem gZ.eq(k:Nat)(a0 a1):gZ (k+1) a0 a1=T (D.lt a0 a1) (some a0) (some a1):=by kernel_rfl
def c1:Code:=cB (cB (cB (bW P 163)))
def c2:Code:=cC (cC (cB (cA c1)))
def K3(k:Nat):cU (den (resTy P 163)):=a9 0 (JK k 163 (cB c1) (R0 163))
def c4:Code:=cB c2
def cH(k:Nat)(a0 a1:Int):Option LJ:=call k 163 (a0,a1)
def cH.L0(k j:Nat)(x0 x1:Int)(x2:LJ):Option LJ:=LL k 163 c2 j (K3 k) [frm 45 [(0,In x0),(5,Sl 0),(6,In x1)]] [Rww x2]
def cH.L1(k k1 j:Nat)(x0 x1 x2:Int)(x3 x4:LJ):Option LJ:=LL k 163 (cC (cC (cB (cB (cC (cA c4)))))) j (a9 2 (a9 1 (JK k 163 (cB c4) (LK k 163 c2 k1 (K3 k))))) [frm 45 [(0,In x0),(5,Sl 0),(6,In x1),(7,Sl 1),(8,In x2)]] [Rww x3,Rww x4]
theorem cH.eq(k:Nat)(a0 a1):cH (k+1) a0 a1=T (D.eq a0 0) (T (D.leN (N (D.app ([]:LJ) (([]:LI)::([]:LJ)))) 1099511627776) (some (D.app ([]:LJ) (([]:LI)::([]:LJ)))) none) (B (gZ k a0 a1) fun r0=>cH.L0 k k a0 r0 ([]:LJ)):=by kernel_rfl
theorem cH.aT(k j:Nat)(x0 x1 x2):cH.L0 k (j+1) x0 x1 x2=T (D.le 1 x1) (B (cH k (Z .i64 (M x0 x1)) x1) fun r1=>cH.L1 k j k x0 x1 0 x2 r1) (some x2):=(jn _ _).trans (by kernel_rfl)
theorem cH.dX(k k1 j:Nat)(x0 x1 x2 x3 x4):cH.L1 k k1 (j+1) x0 x1 x2 x3 x4=T (D.lt x2 (O (N x4))) (T (D.le 0 x2) (T (U (V x2) (N x4)) (T (U (V x2) (N x4)) (T (U (V x2) (N x4)) (T (D.leN (N (D.app (x1::([]:LI)) (E x4 (V x2) []))) 1099511627776) (T (D.leN (N (D.app x3 ((D.app (x1::([]:LI)) (E x4 (V x2) []))::([]:LJ)))) 1099511627776) (cH.L1 k k1 j x0 x1 (Z .i64 (A x2 1)) (D.app x3 ((D.app (x1::([]:LI)) (E x4 (V x2) []))::([]:LJ))) x4) none) none) none) none) none) none) (cH.L0 k k1 x0 (Z .i64 (M x1 1)) x3):=(jn _ _).trans (by kernel_rfl)
def ch(k:Nat)(x0 x1 x2:Int)(x3:LI):Option ((LI)×(PUnit×(Int×Int))):=IO_ k 135 1 0 1 [.var [Sl 1,In 0,In 0],.row Bool.false (.int .u8) []] [[.pv 0 0,In x0],[.pv 0 0,Sl 1]] [.var [Sl 1,In x1,In x2],.row Bool.false (.int .u8) x3]
theorem ch.eq(k:Nat)(x0 x1 x2 x3):ch (k+1) x0 x1 x2 x3=B (aD k (Z .i64 (A x0 1)) x1 x2 x3) fun r0=>B (cH k r0.1 x0) fun r1=>B (aD k (O (N r1)) r0.2.2.1 r0.2.2.2 x3) fun r2=>T (D.le 0 r2.1) (T (U (V r2.1) (N r1)) (T (U (V r2.1) (N r1)) (T (U (V r2.1) (N r1)) (some ((E r1 (V r2.1) []),((),(r2.2.2.1,r2.2.2.2)))) none) none) none) none:=by kernel_rfl
def c5:Code:=cB (cB (cB (bW P 164)))
def c6:Code:=cC (cC (cB (cA c5)))
def K7(k:Nat):cU (((LI)×(LI))×(PUnit×(Int×Int))):=a9 0 (JK k 164 (cB c5) (lQ (fI P (o9 P 164) (fun z7 z8=>nE P 164 1 0 1 [.var [Sl 1,In 0,In 0],.row Bool.false (.int .u8) []] z7 z8))))
def c8:Code:=cB c6
def aN(k:Nat)(x0 x1 x2:Int)(x3:LI):Option (((LI)×(LI))×(PUnit×(Int×Int))):=IO_ k 164 1 0 1 [.var [Sl 1,In 0,In 0],.row Bool.false (.int .u8) []] [[.pv 0 0,In x0],[.pv 0 0,Sl 1]] [.var [Sl 1,In x1,In x2],.row Bool.false (.int .u8) x3]
def aN.L0(k j:Nat)(x0 x1 x2 x3:Int)(x4 x5 x6 x7 x8:LI):Option (((LI)×(LI))×(PUnit×(Int×Int))):=LL k 164 c6 j (K7 k) [frm 44 [(0,.pv 0 0),(4,.pv 1 0),(5,.pv 2 0),(6,In x0),(7,In x1)],[.pv 0 0,Sl 3]] [.var [Sl 3,In x2,In x3],.var [Sl 4,Sl 5],.var [Sl 6,Sl 7],.row Bool.false (.int .u8) x4,Rw x5,Rw x6,Rw x7,Rw x8]
def aN.J1(k k1:Nat)(x0 x1 x2 x3:Int)(x4 x5 x6 x7 x8:LI):Option (((LI)×(LI))×(PUnit×(Int×Int))):=JJ k 164 (cB (cB (cC (cA c8)))) (a9 1 (JK k 164 (cB c8) (LK k 164 c6 k1 (K7 k)))) [frm 44 [(0,.pv 0 0),(4,.pv 1 0),(5,.pv 2 0),(6,In x0),(7,In x1)],[.pv 0 0,Sl 3]] [.var [Sl 3,In x2,In x3],.var [Sl 4,Sl 5],.var [Sl 6,Sl 7],.row Bool.false (.int .u8) x4,Rw x5,Rw x6,Rw x7,Rw x8]
theorem aN.eq(k:Nat)(x0 x1 x2 x3):aN (k+1) x0 x1 x2 x3=B (ch k x0 x1 x2 x3) fun r0=>aN.L0 k k x0 0 r0.2.2.1 r0.2.2.2 x3 ([]:LI) ([]:LI) r0.1 ([]:LI):=by kernel_rfl
theorem aN.aT(k j:Nat)(x0 x1 x2 x3 x4 x5 x6 x7 x8):aN.L0 k (j+1) x0 x1 x2 x3 x4 x5 x6 x7 x8=T (D.lt x1 (O (N x7))) (T (D.le 0 x1) (T (U (V x1) (N x7)) (T (U (V x1) (N x7)) (B (aD k (Z .i64 (A (E x7 (V x1) 0) 1)) x2 x3 x4) fun r1=>B (gZ k x0 r1.1) fun r2=>T (D.eq r2 0) (some ((x7,x8),((),(r1.2.2.1,r1.2.2.2)))) (B (bP k 3 r1.2.2.1 r1.2.2.2 x4) fun r3=>T r3.1 (some ((x7,x8),((),(r3.2.2.1,r3.2.2.2)))) (aN.J1 k j r2 x1 r3.2.2.1 r3.2.2.2 x4 x5 x6 x7 x8))) none) none) none) (some ((x7,x8),((),(x2,x3)))):=(jn _ _).trans (by kernel_rfl)
theorem aN.eM(k k1:Nat)(x0 x1 x2 x3 x4 x5 x6 x7 x8):aN.J1 k k1 x0 x1 x2 x3 x4 x5 x6 x7 x8=T (D.leN (N (D.app x8 (x0::([]:LI)))) 1099511627776) (aN.L0 k k1 x0 (Z .i64 (A x1 1)) x2 x3 x4 x5 x6 x7 (D.app x8 (x0::([]:LI)))) none:=(jn _ _).trans (by kernel_rfl)
def cS(k:Nat)(a0:LI)(a1:Int):Option Int:=call k 113 (a0,a1)
def cS.J0(k:Nat)(x0:Int)(x1:LI):Option Int:=JJ k 113 (cB (cB (bW P 113))) (R0 113) [frm 17 [(0,Sl 0),(1,In x0)]] [Ro x1]
theorem cS.eq(k:Nat)(a0 a1):cS (k+1) a0 a1=T (D.lt a1 0) (some 0) (T (D.le (O (N a0)) a1) (some 0) (cS.J0 k a1 a0)):=by kernel_rfl
theorem cS.iy(k:Nat)(x0 x1):cS.J0 k x0 x1=T (D.le 0 x0) (T (U (V x0) (N x1)) (T (U (V x0) (N x1)) (some (E x1 (V x0) 0)) none) none) none:=(jn _ _).trans (by kernel_rfl)
def c9:Code:=cB (cB (bW P 121))
def bS(k:Nat)(a0:(LI)×(LJ))(a1 a2:Int):Option Int:=call k 121 (a0,a1,a2)
def bS.J0(k:Nat)(x0 x1:Int)(x2:LI)(x3:LJ):Option Int:=JJ k 121 c9 (R0 121) [frm 43 [(1,In x0),(2,In x1),(3,.pv 0 0)]] [.var [Sl 1,Sl 2],Ro x2,Roo x3]
def bS.J1(k:Nat)(x0 x1:Int)(x2:LI)(x3:LJ):Option Int:=JJ k 121 (cB (cB c9)) (R0 121) [frm 43 [(1,In x0),(3,.pv 0 0),(7,In x1)]] [.var [Sl 1,Sl 2],Ro x2,Roo x3]
theorem bS.eq(k:Nat)(a0 a1 a2):bS (k+1) a0 a1 a2=T (D.lt a1 0) (some 0) (T (D.le (O (N a0.2)) a1) (some 0) (bS.J0 k a1 a2 a0.1 a0.2)):=by kernel_rfl
theorem bS.iy(k:Nat)(x0 x1 x2 x3):bS.J0 k x0 x1 x2 x3=B (cS k x2 x0) fun r0=>T (D.lt (Z .i64 (M x1 r0)) 0) (some 0) (T (D.le 0 x0) (T (U (V x0) (N x3)) (T (U (V x0) (N x3)) (T (U (V x0) (N x3)) (T (D.le (O (N (E x3 (V x0) []))) (Z .i64 (M x1 r0))) (some 0) (bS.J1 k x0 (Z .i64 (M x1 r0)) x2 x3)) none) none) none) none):=(jn _ _).trans (by kernel_rfl)
theorem bS.eM(k:Nat)(x0 x1 x2 x3):bS.J1 k x0 x1 x2 x3=T (D.le 0 x0) (T (U (V x0) (N x3)) (T (U (V x0) (N x3)) (T (U (V x0) (N x3)) (T (D.le 0 x1) (T (U (V x1) (N (E x3 (V x0) []))) (T (U (V x0) (N x3)) (T (U (V x1) (N (E x3 (V x0) []))) (some (E (E x3 (V x0) []) (V x1) 0)) none) none) none) none) none) none) none) none:=(jn _ _).trans (by kernel_rfl)
def kT(k:Nat)(a0 a1:Int):Option Int:=call k 161 (a0,a1)
theorem kT.eq(k:Nat)(a0 a1):kT (k+1) a0 a1=T (D.lt a1 a0) (some a0) (some a1):=by kernel_rfl
def gl(k:Nat)(a0:Bool):Option Int:=call k 146 a0
theorem gl.eq(k:Nat)(a0):gl (k+1) a0=T a0 (some 1) (some 0):=by kernel_rfl
def c10:Code:=cB (cB (bW P 134))
def c11:Code:=cC (cC (cB (cA c10)))
def K12(k:Nat):cU (((LI)×(LJ))×(PUnit×(Int×Int))):=a9 0 (JK k 134 (cB c10) (lQ (fI P (o9 P 134) (fun z6 z7=>nE P 134 1 0 1 [.var [Sl 3,In 0,In 0],Ro [],Ro [],.row Bool.false (.int .u8) []] z6 z7))))
def c13:Code:=cB c11
def c14:Code:=cB (cB (cC (cA c13)))
def aP(k:Nat)(x0 x1:Int)(x2 x3 x4:LI):Option (((LI)×(LJ))×(PUnit×(Int×Int))):=IO_ k 134 1 0 1 [.var [Sl 3,In 0,In 0],Ro [],Ro [],.row Bool.false (.int .u8) []] [[.pv 0 0,.agg [Sl 1,Sl 2]],frm 4 [(0,.pv 0 0),(1,Sl 1),(2,Sl 2),(3,Sl 3)]] [.var [Sl 3,In x0,In x1],Ro x2,Ro x3,.row Bool.false (.int .u8) x4]
def aP.L0(k j:Nat)(x0 x1 x2:Int)(x3 x4 x5 x6:LI)(x7:LJ)(x8:LI)(x9:LJ):Option (((LI)×(LJ))×(PUnit×(Int×Int))):=LL k 134 c11 j (K12 k) [frm 64 [(0,.pv 0 0),(3,.pv 1 0),(4,.pv 2 0),(5,.pv 3 0),(6,In x0)],frm 4 [(0,.pv 0 0),(1,Sl 4),(2,Sl 5),(3,Sl 6)]] [.var [Sl 6,In x1,In x2],.var [Sl 4,Sl 5],.var [Sl 7,Sl 8],.var [Sl 9,Sl 10],Ro x3,Ro x4,.row Bool.false (.int .u8) x5,Rw x6,Rww x7,Rw x8,Rww x9]
def aP.L1(k k1 j:Nat)(x0 x1 x2 x3 x4:Int)(x5 x6 x7 x8 x9:LI)(x10:LJ)(x11:LI)(x12:LJ):Option (((LI)×(LJ))×(PUnit×(Int×Int))):=LL k 134 (cC (cC (cB (cA c14)))) j (a9 2 (JK k 134 (cB c14) (a9 1 (JK k 134 (cB c13) (LK k 134 c11 k1 (K12 k)))))) [frm 64 [(0,.pv 0 0),(3,.pv 1 0),(4,.pv 2 0),(5,.pv 3 0),(6,In x0),(7,Sl 4),(8,In x1),(9,In x2)],frm 4 [(0,.pv 0 0),(1,Sl 5),(2,Sl 6),(3,Sl 7)]] [.var [Sl 7,In x3,In x4],.var [Sl 5,Sl 6],.var [Sl 8,Sl 9],.var [Sl 10,Sl 11],Rw x5,Ro x6,Ro x7,.row Bool.false (.int .u8) x8,Rw x9,Rww x10,Rw x11,Rww x12]
theorem aP.eq(k:Nat)(x0 x1 x2 x3 x4):aP (k+1) x0 x1 x2 x3 x4=T (D.leN (N (D.app ([]:LI) x3)) 1099511627776) (aP.L0 k k 0 x0 x1 x2 x3 x4 ([]:LI) ([]:LJ) (D.app ([]:LI) x3) ([]:LJ)) none:=by kernel_rfl
theorem aP.aT(k j:Nat)(x0 x1 x2 x3 x4 x5 x6 x7 x8 x9):aP.L0 k (j+1) x0 x1 x2 x3 x4 x5 x6 x7 x8 x9=T (D.lt x0 (O (N x3))) (B (cS k x4 x0) fun r0=>aP.L1 k j k x0 1 r0 x1 x2 ([]:LI) x3 x4 x5 x6 x7 x8 x9) (some ((x8,x9),((),(x1,x2)))):=(jn _ _).trans (by kernel_rfl)
theorem aP.dX(k k1 j:Nat)(x0 x1 x2 x3 x4 x5 x6 x7 x8 x9 x10 x11 x12):aP.L1 k k1 (j+1) x0 x1 x2 x3 x4 x5 x6 x7 x8 x9 x10 x11 x12=T (D.le 0 x0) (T (U (V x0) (N x6)) (T (U (V x0) (N x6)) (T (D.lt x2 (E x6 (V x0) 0)) (B (bS k (x11,x12) (Z .i64 (M x0 1)) x2) fun r1=>B (kT k x1 (Z .i64 (A r1 1))) fun r2=>B (bP k 3 x3 x4 x8) fun r3=>B (gl k r3.1) fun r4=>B (aD k 2 r3.2.2.1 r3.2.2.2 x8) fun r5=>B (gZ k (Z .i64 (A r2 (Z .i64 (D.mul r4 r5.1)))) 9) fun r6=>T (D.leN (N (D.app x5 (r6::([]:LI)))) 1099511627776) (aP.L1 k k1 j x0 r6 (Z .i64 (A x2 1)) r5.2.2.1 r5.2.2.2 (D.app x5 (r6::([]:LI))) x6 x7 x8 x9 x10 x11 x12) none) (T (D.leN (N (D.app x12 (x5::([]:LJ)))) 1099511627776) (aP.L0 k k1 (Z .i64 (A x0 1)) x3 x4 x6 x7 x8 x9 x10 x11 (D.app x12 (x5::([]:LJ)))) none)) none) none) none:=(jn _ _).trans (by kernel_rfl)
def im(k:Nat)(a0 a1 a2:Int):Option Bool:=call k 62 (a0,a1,a2)
theorem im.eq(k:Nat)(a0 a1 a2):im (k+1) a0 a1 a2=T (D.le a1 a0) (some (D.le a0 a2)) (some false):=by kernel_rfl
def c15:Code:=cB (cB (bW P 112))
def c16:Code:=cC (cC (cB (cA c15)))
def K17(k:Nat):cU (den (resTy P 112)):=a9 0 (JK k 112 (cB c15) (R0 112))
def c18:Code:=cB c16
def aQ(k:Nat)(a0:LI):Option Bool:=call k 112 a0
def aQ.L0(k j:Nat)(x0 x1:Int)(x2:LI):Option Bool:=LL k 112 c16 j (K17 k) [frm 41 [(0,Sl 0),(3,In x0),(4,In x1)]] [Ro x2]
def aQ.J1(k k1:Nat)(x0 x1:Int)(x2:LI):Option Bool:=JJ k 112 (cB (cC (cA c18))) (a9 1 (JK k 112 (cB c18) (LK k 112 c16 k1 (K17 k)))) [frm 41 [(0,Sl 0),(3,In x0),(4,In x1)]] [Ro x2]
theorem aQ.eq(k:Nat)(a0):aQ (k+1) a0=aQ.L0 k k 0 0 a0:=by kernel_rfl
theorem aQ.aT(k j:Nat)(x0 x1 x2):aQ.L0 k (j+1) x0 x1 x2=T (D.lt x1 (O (N x2))) (T (D.le 0 x1) (T (U (V x1) (N x2)) (T (U (V x1) (N x2)) (B (im k (E x2 (V x1) 0) 1 9) fun r0=>T (D.no r0) (some false) (T (D.lt 0 x1) (T (D.le 0 x1) (T (U (V x1) (N x2)) (T (U (V x1) (N x2)) (T (D.le 0 (Z .i64 (M x1 1))) (T (U (V (Z .i64 (M x1 1))) (N x2)) (T (U (V (Z .i64 (M x1 1))) (N x2)) (T (D.lt (E x2 (V (Z .i64 (M x1 1))) 0) (E x2 (V x1) 0)) (some false) (aQ.J1 k j x0 x1 x2)) none) none) none) none) none) none) (aQ.J1 k j x0 x1 x2))) none) none) none) (some true):=(jn _ _).trans (by kernel_rfl)
theorem aQ.eM(k k1:Nat)(x0 x1 x2):aQ.J1 k k1 x0 x1 x2=T (D.le 0 x1) (T (U (V x1) (N x2)) (T (U (V x1) (N x2)) (T (D.lt 9 (Z .i64 (A x0 (E x2 (V x1) 0)))) (some false) (aQ.L0 k k1 (Z .i64 (A x0 (E x2 (V x1) 0))) (Z .i64 (A x1 1)) x2)) none) none) none:=(jn _ _).trans (by kernel_rfl)
def c19:Code:=cB (cB (bW P 153))
def b9(k:Nat)(a0 a1:LI):Option Bool:=call k 153 (a0,a1)
def b9.J0(k:Nat)(x0 x1:LI):Option Bool:=JJ k 153 c19 (R0 153) [frm 36 [(0,Sl 0),(1,Sl 1)]] [Ro x0,Ro x1]
def b9.L1(k j:Nat)(x0:Int)(x1 x2:LI):Option Bool:=LL k 153 (cC (cC (cB (cA c19)))) j (a9 0 (JK k 153 (cB c19) (R0 153))) [frm 36 [(0,Sl 0),(1,Sl 1),(5,In x0)]] [Ro x1,Ro x2]
theorem b9.eq(k:Nat)(a0 a1):b9 (k+1) a0 a1=B (aQ k a0) fun r0=>T (D.no r0) (some false) (B (aQ k a1) fun r1=>T (D.no r1) (some false) (T (D.lt (O (N a1)) (O (N a0))) (some false) (b9.J0 k a0 a1))):=by kernel_rfl
theorem b9.iy(k:Nat)(x0 x1):b9.J0 k x0 x1=b9.L1 k k 0 x0 x1:=(jn _ _).trans (by kernel_rfl)
theorem b9.dX(k j:Nat)(x0 x1 x2):b9.L1 k (j+1) x0 x1 x2=T (D.lt x0 (O (N x1))) (T (D.le 0 x0) (T (U (V x0) (N x1)) (T (U (V x0) (N x1)) (T (D.le 0 x0) (T (U (V x0) (N x2)) (T (U (V x0) (N x2)) (T (D.lt (E x2 (V x0) 0) (E x1 (V x0) 0)) (some false) (b9.L1 k j (Z .i64 (A x0 1)) x1 x2)) none) none) none) none) none) none) (some true):=(jn _ _).trans (by kernel_rfl)
def hZ(k:Nat)(a0:(LI)×(LI)):Option Bool:=call k 114 a0
theorem hZ.eq(k:Nat)(a0):hZ (k+1) a0=B (b9 k a0.2 a0.1) fun r0=>some r0:=by kernel_rfl
def c20:Code:=cB (cB (cB (bW P 46)))
def bV(k:Nat)(a0:(LI)×(LJ)):Option (((LI)×(LI))×Bool):=call k 46 a0
def bV.J0(k:Nat)(x0:LI)(x1:LJ)(x2 x3 x4 x5:LI):Option (((LI)×(LI))×Bool):=JJ k 46 c20 (R0 46) [frm 59 [(1,.pv 0 0),(2,.pv 1 0),(4,.pv 2 0)]] [.var [Sl 3,Sl 4],.var [Sl 5,Sl 6],.var [Sl 7,Sl 8],Ro x0,Roo x1,Rw x2,Rw x3,Rw x4,Rw x5]
def bV.L1(k j:Nat)(x0:Int)(x1:LI)(x2:LJ)(x3 x4 x5 x6:LI):Option (((LI)×(LI))×Bool):=LL k 46 (cC (cC (cB (cA c20)))) j (a9 0 (JK k 46 (cB c20) (R0 46))) [frm 59 [(1,.pv 0 0),(2,.pv 1 0),(4,.pv 2 0),(5,In x0)]] [.var [Sl 3,Sl 4],.var [Sl 5,Sl 6],.var [Sl 7,Sl 8],Ro x1,Roo x2,Rw x3,Rw x4,Rw x5,Rw x6]
theorem bV.eq(k:Nat)(a0):bV (k+1) a0=T (D.leN (N (D.app ([]:LI) a0.1)) 1099511627776) (B (aQ k a0.1) fun r0=>T (D.no r0) (some ((([]:LI),([]:LI)),false)) (T (D.lt (O (N a0.2)) (O (N a0.1))) (some ((([]:LI),([]:LI)),false)) (T (D.lt 9 (O (N a0.2))) (some ((([]:LI),([]:LI)),false)) (bV.J0 k a0.1 a0.2 ([]:LI) ([]:LI) ([]:LI) (D.app ([]:LI) a0.1))))) none:=by kernel_rfl
theorem bV.iy(k:Nat)(x0 x1 x2 x3 x4 x5):bV.J0 k x0 x1 x2 x3 x4 x5=bV.L1 k k 0 x0 x1 x2 x3 x4 x5:=(jn _ _).trans (by kernel_rfl)
theorem bV.dX(k j:Nat)(x0 x1 x2 x3 x4 x5 x6):bV.L1 k (j+1) x0 x1 x2 x3 x4 x5 x6=T (D.lt x0 (O (N x2))) (B (cS k x1 x0) fun r1=>T (D.le 0 x0) (T (U (V x0) (N x2)) (T (U (V x0) (N x2)) (T (U (V x0) (N x2)) (T (D.leN (N (D.app x5 ((Z .i64 (A r1 (O (N (E x2 (V x0) [])))))::([]:LI)))) 1099511627776) (bV.L1 k j (Z .i64 (A x0 1)) x1 x2 x3 x4 (D.app x5 ((Z .i64 (A r1 (O (N (E x2 (V x0) [])))))::([]:LI))) x6) none) none) none) none) none) (B (hZ k (x5,x6)) fun r2=>T (D.no r2) (some ((([]:LI),([]:LI)),false)) (some ((x5,x6),true))):=(jn _ _).trans (by kernel_rfl)
def c21:Code:=cB (cB (cB (bW P 70)))
def c22:Code:=cC (cC (cB (cA c21)))
def K23(k:Nat):cU (den (resTy P 70)):=a9 0 (JK k 70 (cB c21) (R0 70))
def c24:Code:=cB c22
def c25:Code:=cC (cC (cB (cC (cA c24))))
def K26(k k1:Nat):cU (den (resTy P 70)):=a9 2 (a9 1 (JK k 70 (cB c24) (LK k 70 c22 k1 (K23 k))))
def c27:Code:=cB c25
def c28:Code:=cB c27
def K29(k k1 k2:Nat):cU (den (resTy P 70)):=LK k 70 c25 k2 (K26 k k1)
def aC(k:Nat)(a0:(LI)×(LJ)):Option Bool:=call k 70 a0
def aC.L0(k j:Nat)(x0:Int)(x1:LI)(x2:LJ)(x3 x4:LI):Option Bool:=LL k 70 c22 j (K23 k) [frm 64 [(1,.pv 0 0),(3,.pv 1 0),(5,In x0)]] [.var [Sl 2,Sl 3],.var [Sl 4,Sl 5],Ro x1,Roo x2,Rw x3,Rw x4]
def aC.L1(k k1 j:Nat)(x0 x1:Int)(x2:LI)(x3:LJ)(x4 x5:LI):Option Bool:=LL k 70 c25 j (K26 k k1) [frm 64 [(1,.pv 0 0),(3,.pv 1 0),(5,In x0),(6,In x1)]] [.var [Sl 2,Sl 3],.var [Sl 4,Sl 5],Ro x2,Roo x3,Rw x4,Rw x5]
def aC.J2(k k1 k2:Nat)(x0 x1 x2 x3:Int)(x4:LI)(x5:LJ)(x6 x7:LI):Option Bool:=JJ k 70 (cB (cB (cB (cC (cA c27))))) (a9 3 (JK k 70 c28 (K29 k k1 k2))) [frm 64 [(1,.pv 0 0),(3,.pv 1 0),(5,In x0),(6,In x1),(7,In x2),(8,In x3)]] [.var [Sl 2,Sl 3],.var [Sl 4,Sl 5],Ro x4,Roo x5,Rw x6,Rw x7]
def aC.J3(k k1 k2:Nat)(x0 x1:Int)(x2:LI)(x3:LJ)(x4 x5:LI):Option Bool:=JJ k 70 c28 (K29 k k1 k2) [frm 64 [(1,.pv 0 0),(3,.pv 1 0),(5,In x0),(6,In x1)]] [.var [Sl 2,Sl 3],.var [Sl 4,Sl 5],Ro x2,Roo x3,Rw x4,Rw x5]
theorem aC.eq(k:Nat)(a0):aC (k+1) a0=B (bV k (a0.1,a0.2)) fun r0=>T (D.no r0.2) (some false) (aC.L0 k k 0 a0.1 a0.2 r0.1.1 r0.1.2):=by kernel_rfl
theorem aC.aT(k j:Nat)(x0 x1 x2 x3 x4):aC.L0 k (j+1) x0 x1 x2 x3 x4=T (D.lt x0 (O (N x3))) (B (cS k x4 x0) fun r1=>aC.L1 k j k x0 r1 x1 x2 x3 x4) (some true):=(jn _ _).trans (by kernel_rfl)
theorem aC.dX(k k1 j:Nat)(x0 x1 x2 x3 x4 x5):aC.L1 k k1 (j+1) x0 x1 x2 x3 x4 x5=T (D.le 0 x0) (T (U (V x0) (N x4)) (T (U (V x0) (N x4)) (T (D.lt x1 (E x4 (V x0) 0)) (B (bS k (x2,x3) x0 x1) fun r2=>T (D.lt 0 x1) (B (bS k (x2,x3) x0 (Z .i64 (M x1 1))) fun r3=>aC.J2 k k1 j x0 x1 r2 r3 x2 x3 x4 x5) (aC.J2 k k1 j x0 x1 r2 0 x2 x3 x4 x5)) (aC.L0 k k1 (Z .i64 (A x0 1)) x2 x3 x4 x5)) none) none) none:=(jn _ _).trans (by kernel_rfl)
theorem aC.kC(k k1 k2:Nat)(x0 x1 x2 x3 x4 x5 x6 x7):aC.J2 k k1 k2 x0 x1 x2 x3 x4 x5 x6 x7=B (im k x2 1 9) fun r4=>T (D.no r4) (some false) (T (D.lt x2 x3) (some false) (B (bS k (x4,x5) (Z .i64 (M x0 1)) x1) fun r5=>T (D.le x2 r5) (some false) (aC.J3 k k1 k2 x0 x1 x4 x5 x6 x7))):=(jn _ _).trans (by kernel_rfl)
theorem aC.lA(k k1 k2:Nat)(x0 x1 x2 x3 x4 x5):aC.J3 k k1 k2 x0 x1 x2 x3 x4 x5=aC.L1 k k1 k2 x0 (Z .i64 (A x1 1)) x2 x3 x4 x5:=(jn _ _).trans (by kernel_rfl)
def fP(k:Nat)(x0 x1 x2:Int)(x3:LI):Option (((LI)×(LJ))×(PUnit×(Int×Int))):=IO_ k 136 1 0 1 [.var [Sl 1,In 0,In 0],.row Bool.false (.int .u8) []] [[.pv 0 0,In x0],[.pv 0 0,Sl 1]] [.var [Sl 1,In x1,In x2],.row Bool.false (.int .u8) x3]
theorem fP.eq(k:Nat)(x0 x1 x2 x3):fP (k+1) x0 x1 x2 x3=B (aN k x0 x1 x2 x3) fun r0=>B (aP k r0.2.2.1 r0.2.2.2 r0.1.1 r0.1.2 x3) fun r1=>B (aC k (r1.1.1,r1.1.2)) fun r2=>T (D.no r2) (some ((([]:LI),((1::(1::(2::([]:LI))))::((2::(3::([]:LI)))::([]:LJ)))),((),(r1.2.2.1,r1.2.2.2)))) (some ((r1.1.1,r1.1.2),((),(r1.2.2.1,r1.2.2.2)))):=by kernel_rfl
def cr(k:Nat)(x0 x1:Int)(x2 x3:LI):Option (Int×(PUnit×(Int×Int))):=IO_ k 105 1 0 1 [.var [Sl 2,In 0,In 0],Ro [],.row Bool.false (.int .u8) []] [[.pv 0 0,Sl 1],[.pv 0 0,Sl 1,Sl 2]] [.var [Sl 2,In x0,In x1],Ro x2,.row Bool.false (.int .u8) x3]
theorem cr.eq(k:Nat)(x0 x1 x2 x3):cr (k+1) x0 x1 x2 x3=B (aD k (O (N x2)) x0 x1 x3) fun r0=>T (D.le 0 r0.1) (T (U (V r0.1) (N x2)) (T (U (V r0.1) (N x2)) (some ((E x2 (V r0.1) 0),((),(r0.2.2.1,r0.2.2.2)))) none) none) none:=by kernel_rfl
def eN(k:Nat)(x0 x1 x2:Int)(x3:LI):Option (((LI)×(LJ))×(PUnit×(Int×Int))):=IO_ k 80 1 0 1 [.var [Sl 1,In 0,In 0],.row Bool.false (.int .u8) []] [[.pv 0 0,In x0],[.pv 0 0,Sl 1]] [.var [Sl 1,In x1,In x2],.row Bool.false (.int .u8) x3]
theorem eN.eq(k:Nat)(x0 x1 x2 x3):eN (k+1) x0 x1 x2 x3=B (fP k x0 x1 x2 x3) fun r0=>T (D.eq (O (N r0.1.2)) 0) (some ((r0.1.1,r0.1.2),((),(r0.2.2.1,r0.2.2.2)))) (B (aD k (O (N r0.1.2)) r0.2.2.1 r0.2.2.2 x3) fun r1=>B (aD k 16 r1.2.2.1 r1.2.2.2 x3) fun r2=>T (D.eq r2.1 0) (T (D.le 0 r1.1) (T (U (V r1.1) (N r0.1.2)) (T (U (V r1.1) (N r0.1.2)) (B (cr k r2.2.2.1 r2.2.2.2 (0::(9::(10::((-1)::([]:LI))))) x3) fun r3=>T (U (V r1.1) (N r0.1.2)) (T (D.leN (N (D.app (E r0.1.2 (V r1.1) []) (r3.1::([]:LI)))) 1099511627776) (T (D.le 0 r1.1) (T (U (V r1.1) (N r0.1.2)) (T (U (V r1.1) (N r0.1.2)) (T (D.eqP (((V r1.1),0)::([]:List (Nat×Nat))) (((V r1.1),0)::([]:List (Nat×Nat)))) (some ((r0.1.1,(D.set r0.1.2 (V r1.1) (D.app (E r0.1.2 (V r1.1) []) (r3.1::([]:LI))))),((),(r3.2.2.1,r3.2.2.2)))) none) none) none) none) none) none) none) none) none) (T (D.eq r2.1 1) (T (D.le 0 r1.1) (T (U (V r1.1) (N r0.1.2)) (T (U (V r1.1) (N r0.1.2)) (T (U (V r1.1) (N r0.1.2)) (T (D.lt 0 (O (N (E r0.1.2 (V r1.1) [])))) (T (D.le 0 r1.1) (T (U (V r1.1) (N r0.1.2)) (T (U (V r1.1) (N r0.1.2)) (T (D.le 0 r1.1) (T (U (V r1.1) (N r0.1.2)) (T (U (V r1.1) (N r0.1.2)) (T (U (V r1.1) (N r0.1.2)) (T (D.le 0 0) (T (U (V 0) (N (E r0.1.2 (V r1.1) []))) (T (U (V r1.1) (N r0.1.2)) (T (U (V 0) (N (E r0.1.2 (V r1.1) []))) (T (U (V r1.1) (N r0.1.2)) (T (D.le 0 0) (T (U (V 0) (N (E r0.1.2 (V r1.1) []))) (T (U (V r1.1) (N r0.1.2)) (T (U (V 0) (N (E r0.1.2 (V r1.1) []))) (some ((r0.1.1,(D.set r0.1.2 (V r1.1) (D.set (E r0.1.2 (V r1.1) []) (V 0) (Z .i64 (A (E (E r0.1.2 (V r1.1) []) (V 0) 0) 1))))),((),(r2.2.2.1,r2.2.2.2)))) none) none) none) none) none) none) none) none) none) none) none) none) none) none) none) none) (some ((r0.1.1,r0.1.2),((),(r2.2.2.1,r2.2.2.2))))) none) none) none) none) (T (D.eq r2.1 2) (B (cr k r2.2.2.1 r2.2.2.2 (1::(0::((-1)::(9::([]:LI))))) x3) fun r4=>T (D.leN (N (D.app r0.1.1 (r4.1::([]:LI)))) 1099511627776) (some (((D.app r0.1.1 (r4.1::([]:LI))),r0.1.2),((),(r4.2.2.1,r4.2.2.2)))) none) (some ((r0.1.1,r0.1.2),((),(r2.2.2.1,r2.2.2.2))))))):=by kernel_rfl
def fQ(k:Nat)(x0 x1:Int)(x2:LI):Option (((LI)×(LI))×(PUnit×(Int×Int))):=IO_ k 142 1 0 1 [.var [Sl 1,In 0,In 0],.row Bool.false (.int .u8) []] [[.pv 0 0],[.pv 0 0,Sl 1]] [.var [Sl 1,In x0,In x1],.row Bool.false (.int .u8) x2]
theorem fQ.eq(k:Nat)(x0 x1 x2):fQ (k+1) x0 x1 x2=B (bP k 3 x0 x1 x2) fun r0=>T r0.1 (B (aN k 6 r0.2.2.1 r0.2.2.2 x2) fun r1=>some ((r1.1.1,r1.1.2),((),(r1.2.2.1,r1.2.2.2)))) (B (ch k 6 r0.2.2.1 r0.2.2.2 x2) fun r2=>some ((r2.1,([]:LI)),((),(r2.2.2.1,r2.2.2.2)))):=by kernel_rfl
def c30:Code:=cB (cB (bW P 94))
def cX(k:Nat)(a0:LI):Option Int:=call k 94 a0
def cX.L0(k j:Nat)(x0 x1:Int)(x2:LI):Option Int:=LL k 94 (cC (cC (cB (cA c30)))) j (a9 0 (JK k 94 (cB c30) (R0 94))) [frm 18 [(0,Sl 0),(3,In x0),(4,In x1)]] [Ro x2]
theorem cX.eq(k:Nat)(a0):cX (k+1) a0=cX.L0 k k 0 0 a0:=by kernel_rfl
theorem cX.aT(k j:Nat)(x0 x1 x2):cX.L0 k (j+1) x0 x1 x2=T (D.lt x1 (O (N x2))) (T (D.le 0 x1) (T (U (V x1) (N x2)) (T (U (V x1) (N x2)) (cX.L0 k j (Z .i64 (A x0 (E x2 (V x1) 0))) (Z .i64 (A x1 1)) x2) none) none) none) (some x0):=(jn _ _).trans (by kernel_rfl)
def c31:Code:=cB (cB (bW P 165))
def cV(k:Nat)(a0:LI)(a1:Int):Option ((LI)×Bool):=call k 165 (a0,a1)
def cV.J0(k:Nat)(x0:Int)(x1:LI):Option ((LI)×Bool):=JJ k 165 c31 (R0 165) [frm 44 [(0,Sl 0),(1,In x0)]] [Ro x1]
def cV.J1(k:Nat)(x0:Int)(x1:LI):Option ((LI)×Bool):=JJ k 165 (cB (cB c31)) (R0 165) [frm 44 [(1,In x0),(6,Sl 0)]] [Rw x1]
theorem cV.eq(k:Nat)(a0 a1):cV (k+1) a0 a1=B (aQ k a0) fun r0=>T (D.no r0) (some (([]:LI),false)) (T (D.lt a1 0) (some (([]:LI),false)) (T (D.lt (O (N a0)) a1) (some (([]:LI),false)) (cV.J0 k a1 a0))):=by kernel_rfl
theorem cV.iy(k:Nat)(x0 x1):cV.J0 k x0 x1=T (D.leN (N (D.app ([]:LI) x1)) 1099511627776) (T (D.eq x0 (O (N x1))) (T (D.leN (N (D.app (D.app ([]:LI) x1) (0::([]:LI)))) 1099511627776) (cV.J1 k x0 (D.app (D.app ([]:LI) x1) (0::([]:LI)))) none) (cV.J1 k x0 (D.app ([]:LI) x1))) none:=(jn _ _).trans (by kernel_rfl)
theorem cV.eM(k:Nat)(x0 x1):cV.J1 k x0 x1=T (D.le 0 x0) (T (U (V x0) (N x1)) (T (U (V x0) (N x1)) (T (D.le 0 x0) (T (U (V x0) (N x1)) (T (U (V x0) (N x1)) (B (aQ k (D.set x1 (V x0) (Z .i64 (A (E x1 (V x0) 0) 1)))) fun r1=>T (D.no r1) (some (([]:LI),false)) (some ((D.set x1 (V x0) (Z .i64 (A (E x1 (V x0) 0) 1))),true))) none) none) none) none) none) none:=(jn _ _).trans (by kernel_rfl)
def c32:Code:=cB (cB (cB (cB (bW P 139))))
def c33:Code:=cC (cC (cB (cA c32)))
def K34(k:Nat):cU (den (resTy P 139)):=a9 0 (JK k 139 (cB c32) (lQ (tE P 139 (o9 P 139))))
def b8(k:Nat)(a0:LI)(a1:LJ):Option (List LJ):=JE k 139 (a0,a1)
def b8.L0(k j x0:Nat)(x1:Int)(x2:LI)(x3:LJ)(x4:List LJ):Option (List LJ):=LL k 139 c33 j (K34 k) [frm 53 [(0,Sl 0),(1,Sl 1),(5,.sl 1 [(x0,0)] Option.none),(6,Sl 2),(7,In x1)]] [Ro x2,Roo x3,.sh (.sl (.sl (.int .i64))) x4]
def b8.J1(k k1 x0:Nat)(x1:Int)(x2:LI)(x3:LJ)(x4:List LJ):Option (List LJ):=JJ k 139 (cB (cB c33)) (LK k 139 c33 k1 (K34 k)) [frm 53 [(0,Sl 0),(1,Sl 1),(5,.sl 1 [(x0,0)] Option.none),(6,Sl 2),(7,In x1)]] [Ro x2,Roo x3,.sh (.sl (.sl (.int .i64))) x4]
theorem b8.eq(k:Nat)(a0 a1):b8 (k+1) a0 a1=T (D.le 0 (Z .i64 (M (O (N a1)) 1))) (T (U (V (Z .i64 (M (O (N a1)) 1))) (N a1)) (T (U (V (Z .i64 (M (O (N a1)) 1))) (N a1)) (T (U (V (Z .i64 (M (O (N a1)) 1))) (N a1)) (B (cX k (E a1 (V (Z .i64 (M (O (N a1)) 1))) [])) fun r0=>B (cX k a0) fun r1=>T (D.eq r0 r1) (some (a1::([]:List LJ))) (b8.L0 k k (V (Z .i64 (M (O (N a1)) 1))) 0 a0 a1 ([]:List LJ))) none) none) none) none:=by kernel_rfl
theorem b8.aT(k j:Nat)(x0 x1 x2 x3 x4):b8.L0 k (j+1) x0 x1 x2 x3 x4=T (U x0 (N x3)) (T (D.le x1 (O (N (E x3 x0 [])))) (T (U x0 (N x3)) (B (cV k (E x3 x0 []) x1) fun r2=>T r2.2 (B (b9 k r2.1 x2) fun r3=>T r3 (T (D.leN (N (D.app ([]:LJ) x3)) 1099511627776) (T (D.leN (N (D.app (D.app ([]:LJ) x3) (r2.1::([]:LJ)))) 1099511627776) (B (b8 k x2 (D.app (D.app ([]:LJ) x3) (r2.1::([]:LJ)))) fun r4=>T (D.leN (N (D.app x4 r4)) 1099511627776) (b8.J1 k j x0 x1 x2 x3 (D.app x4 r4)) none) none) none) (b8.J1 k j x0 x1 x2 x3 x4)) (b8.J1 k j x0 x1 x2 x3 x4)) none) (some x4)) none:=(jn _ _).trans (by kernel_rfl)
theorem b8.eM(k k1:Nat)(x0 x1 x2 x3 x4):b8.J1 k k1 x0 x1 x2 x3 x4=b8.L0 k k1 x0 (Z .i64 (A x1 1)) x2 x3 x4:=(jn _ _).trans (by kernel_rfl)
def c35:Code:=cB (cB (cB (bW P 141)))
def c36:Code:=cC (cC (cB (cA c35)))
def K37(k:Nat):cU (den (resTy P 141)):=a9 0 (JK k 141 (cB c35) (R0 141))
def c38:Code:=cB c36
def c39:Code:=cB (cC (cA c38))
def c40:Code:=cC (cC (cB (cA c39)))
def K41(k k1:Nat):cU (den (resTy P 141)):=a9 2 (JK k 141 (cB c39) (a9 1 (JK k 141 (cB c38) (LK k 141 c36 k1 (K37 k)))))
def bc(k:Nat)(a0:LJ):Option ((LI)×(LJ)):=call k 141 a0
def bc.L0(k j x0:Nat)(x1:Int)(x2:LJ)(x3:LI)(x4:LJ)(x5:LI)(x6:LJ):Option ((LI)×(LJ)):=LL k 141 c36 j (K37 k) [frm 58 [(0,Sl 0),(2,.pv 1 0),(3,.pv 2 0),(4,.sl 0 [(x0,0)] Option.none),(5,In x1)]] [Roo x2,.var [Sl 3,Sl 4],.var [Sl 5,Sl 6],Rw x3,Rww x4,Rw x5,Rww x6]
def bc.L1(k k1 j x0:Nat)(x1 x2:Int)(x3:LJ)(x4 x5:LI)(x6:LJ)(x7:LI)(x8:LJ):Option ((LI)×(LJ)):=LL k 141 c40 j (K41 k k1) [frm 58 [(0,Sl 0),(2,.pv 1 0),(3,.pv 2 0),(4,.sl 0 [(x0,0)] Option.none),(5,In x1),(6,Sl 3),(7,In x2)]] [Roo x3,.var [Sl 4,Sl 5],.var [Sl 6,Sl 7],Rw x4,Rw x5,Rww x6,Rw x7,Rww x8]
def bc.J2(k k1 k2 x0:Nat)(x1 x2:Int)(x3:LJ)(x4 x5:LI)(x6:LJ)(x7:LI)(x8:LJ):Option ((LI)×(LJ)):=JJ k 141 (cB (cB c40)) (LK k 141 c40 k2 (K41 k k1)) [frm 58 [(0,Sl 0),(2,.pv 1 0),(3,.pv 2 0),(4,.sl 0 [(x0,0)] Option.none),(5,In x1),(6,Sl 3),(7,In x2)]] [Roo x3,.var [Sl 4,Sl 5],.var [Sl 6,Sl 7],Rw x4,Rw x5,Rww x6,Rw x7,Rww x8]
theorem bc.eq(k:Nat)(a0):bc (k+1) a0=T (D.le 0 0) (T (U (V 0) (N a0)) (T (U (V 0) (N a0)) (T (U (V 0) (N a0)) (T (D.leN (N (D.app ([]:LI) (E a0 (V 0) []))) 1099511627776) (T (D.le 0 (Z .i64 (M (O (N a0)) 1))) (T (U (V (Z .i64 (M (O (N a0)) 1))) (N a0)) (T (U (V (Z .i64 (M (O (N a0)) 1))) (N a0)) (bc.L0 k k (V (Z .i64 (M (O (N a0)) 1))) 0 a0 ([]:LI) ([]:LJ) (D.app ([]:LI) (E a0 (V 0) [])) ([]:LJ)) none) none) none) none) none) none) none) none:=by kernel_rfl
theorem bc.aT(k j:Nat)(x0 x1 x2 x3 x4 x5 x6):bc.L0 k (j+1) x0 x1 x2 x3 x4 x5 x6=T (U x0 (N x2)) (T (D.lt x1 (O (N (E x2 x0 [])))) (bc.L1 k j k x0 x1 1 x2 ([]:LI) x3 x4 x5 x6) (some (x5,x6))) none:=(jn _ _).trans (by kernel_rfl)
theorem bc.dX(k k1 j:Nat)(x0 x1 x2 x3 x4 x5 x6 x7 x8):bc.L1 k k1 (j+1) x0 x1 x2 x3 x4 x5 x6 x7 x8=T (D.lt x2 (O (N x3))) (T (D.le 0 x2) (T (U (V x2) (N x3)) (T (U (V x2) (N x3)) (T (U (V x2) (N x3)) (B (cS k (E x3 (V x2) []) x1) fun r0=>T (D.le 0 (Z .i64 (M x2 1))) (T (U (V (Z .i64 (M x2 1))) (N x3)) (T (U (V (Z .i64 (M x2 1))) (N x3)) (T (U (V (Z .i64 (M x2 1))) (N x3)) (B (cS k (E x3 (V (Z .i64 (M x2 1))) []) x1) fun r1=>T (D.lt r1 r0) (T (D.leN (N (D.app x4 (x2::([]:LI)))) 1099511627776) (bc.J2 k k1 j x0 x1 x2 x3 (D.app x4 (x2::([]:LI))) x5 x6 x7 x8) none) (bc.J2 k k1 j x0 x1 x2 x3 x4 x5 x6 x7 x8)) none) none) none) none) none) none) none) none) (T (D.leN (N (D.app x8 (x4::([]:LJ)))) 1099511627776) (bc.L0 k k1 x0 (Z .i64 (A x1 1)) x3 x5 x6 x7 (D.app x8 (x4::([]:LJ)))) none):=(jn _ _).trans (by kernel_rfl)
theorem bc.kC(k k1 k2:Nat)(x0 x1 x2 x3 x4 x5 x6 x7 x8):bc.J2 k k1 k2 x0 x1 x2 x3 x4 x5 x6 x7 x8=bc.L1 k k1 k2 x0 x1 (Z .i64 (A x2 1)) x3 x4 x5 x6 x7 x8:=(jn _ _).trans (by kernel_rfl)
def c42:Code:=cB (cB (bW P 172))
def c43:Code:=cC (cC (cB (cA c42)))
def K44(k:Nat):cU (den (resTy P 172)):=a9 0 (JK k 172 (cB c42) (R0 172))
def c45:Code:=cB c43
def dC(k:Nat)(a0:List ByteArray)(a1:ByteArray):Option ByteArray:=call k 172 (a0,a1)
def dC.L0(k j:Nat)(x0:ByteArray)(x1:Int)(x2:List ByteArray)(x3:LI):Option ByteArray:=LL k 172 c43 j (K44 k) [frm 27 [(0,Sl 0),(1,.str x0),(5,Sl 1),(6,In x1)]] [.row Bool.false .str x2,.row Bool.true (.int .u8) x3]
def dC.J1(k k1:Nat)(x0:ByteArray)(x1:Int)(x2:List ByteArray)(x3:LI):Option ByteArray:=JJ k 172 (cB (cC (cA c45))) (a9 1 (JK k 172 (cB c45) (LK k 172 c43 k1 (K44 k)))) [frm 27 [(0,Sl 0),(1,.str x0),(5,Sl 1),(6,In x1)]] [.row Bool.false .str x2,.row Bool.true (.int .u8) x3]
theorem dC.eq(k:Nat)(a0 a1):dC (k+1) a0 a1=dC.L0 k k a1 0 a0 ([]:LI):=by kernel_rfl
theorem dC.aT(k j:Nat)(x0 x1 x2 x3):dC.L0 k (j+1) x0 x1 x2 x3=T (D.lt x1 (O (N x2))) (T (D.lt 0 x1) (T (D.leN (N (D.app x3 (D.ints x0))) 1099511627776) (dC.J1 k j x0 x1 x2 (D.app x3 (D.ints x0))) none) (dC.J1 k j x0 x1 x2 x3)) (some (D.ofInts x3)):=(jn _ _).trans (by kernel_rfl)
theorem dC.eM(k k1:Nat)(x0 x1 x2 x3):dC.J1 k k1 x0 x1 x2 x3=T (D.le 0 x1) (T (U (V x1) (N x2)) (T (U (V x1) (N x2)) (T (D.leN (N (D.app x3 (D.ints (E x2 (V x1) (⟨#[]⟩:ByteArray))))) 1099511627776) (dC.L0 k k1 x0 (Z .i64 (A x1 1)) x2 (D.app x3 (D.ints (E x2 (V x1) (⟨#[]⟩:ByteArray))))) none) none) none) none:=(jn _ _).trans (by kernel_rfl)
def c46:Code:=cB (cB (cB (cB (bW P 171))))
def c47:Code:=cC (cC (cA c46))
def K48(k:Nat):cU (den (resTy P 171)):=a9 0 (JK k 171 (cB c46) (R0 171))
def bQ(k:Nat)(a0:Int):Option ByteArray:=call k 171 a0
def bQ.L0(k j:Nat)(x0:Int)(x1:Bool)(x2:ByteArray):Option ByteArray:=LL k 171 c47 j (K48 k) [frm 31 [(0,In x0),(3,.bool x1),(4,.str x2)]] []
def bQ.J1(k k1:Nat)(x0:Int)(x1:Bool)(x2:ByteArray)(x3:Int):Option ByteArray:=JJ k 171 (cB (cB (cC (cB c47)))) (a9 1 (LK k 171 c47 k1 (K48 k))) [frm 31 [(0,In x0),(3,.bool x1),(4,.str x2),(5,In x3)]] []
theorem bQ.eq(k:Nat)(a0):bQ (k+1) a0=T (D.eq a0 0) (some (⟨#[48]⟩:ByteArray)) (bQ.L0 k k a0 (D.lt a0 0) (⟨#[]⟩:ByteArray)):=by kernel_rfl
theorem bQ.aT(k j:Nat)(x0 x1 x2):bQ.L0 k (j+1) x0 x1 x2=T (D.no (D.eq x0 0)) (T (D.no (D.eq 10 0)) (T (D.lt (D.rem x0 10) 0) (bQ.J1 k j x0 x1 x2 (Z .i64 (M 0 (D.rem x0 10)))) (bQ.J1 k j x0 x1 x2 (D.rem x0 10))) none) (T x1 (T (D.leN (D.addN (D.lenS (⟨#[45]⟩:ByteArray)) (D.lenS x2)) 1099511627776) (some (D.catS (⟨#[45]⟩:ByteArray) x2)) none) (some x2)):=(jn _ _).trans (by kernel_rfl)
theorem bQ.eM(k k1:Nat)(x0 x1 x2 x3):bQ.J1 k k1 x0 x1 x2 x3=T (D.leN (D.addN (D.lenS (D.ofInts ((Z .u8 (Z .i64 (A 48 x3)))::([]:LI)))) (D.lenS x2)) 1099511627776) (T (D.no (D.eq 10 0)) (bQ.L0 k k1 (Z .i64 (D.quo x0 10)) x1 (D.catS (D.ofInts ((Z .u8 (Z .i64 (A 48 x3)))::([]:LI))) x2)) none) none:=(jn _ _).trans (by kernel_rfl)
def c49:Code:=cB (cB (cB (cB (bW P 166))))
def c50:Code:=cC (cC (cB (cA c49)))
def K51(k:Nat):cU (den (resTy P 166)):=a9 0 (JK k 166 (cB c49) (R0 166))
def c52:Code:=cB c50
def c53:Code:=cB (cC (cA c52))
def c54:Code:=cB c53
def K55(k k1:Nat):cU (den (resTy P 166)):=a9 1 (JK k 166 (cB c52) (LK k 166 c50 k1 (K51 k)))
def aH(k:Nat)(a0:(LI)×(LJ)):Option ByteArray:=call k 166 a0
def aH.L0(k j:Nat)(x0:Int)(x1:List ByteArray)(x2:LI)(x3:LJ):Option ByteArray:=LL k 166 c50 j (K51 k) [frm 60 [(1,.pv 0 0),(3,Sl 1),(4,In x0)]] [.var [Sl 2,Sl 3],.row Bool.true .str x1,Ro x2,Roo x3]
def aH.L1(k k1 j:Nat)(x0:Int)(x1:ByteArray)(x2:Int)(x3:List ByteArray)(x4:LI)(x5:LJ):Option ByteArray:=LL k 166 (cC (cC (cB (cA c53)))) j (a9 2 (JK k 166 c54 (K55 k k1))) [frm 60 [(1,.pv 0 0),(3,Sl 1),(4,In x0),(5,.str x1),(6,In x2)]] [.var [Sl 2,Sl 3],.row Bool.true .str x3,Ro x4,Roo x5]
def aH.L2(k k1 j:Nat)(x0:Int)(x1:ByteArray)(x2:Int)(x3:List ByteArray)(x4:LI)(x5:LJ):Option ByteArray:=LL k 166 (cC (cC (cB (cA c54)))) j (a9 4 (JK k 166 (cB c54) (K55 k k1))) [frm 60 [(1,.pv 0 0),(3,Sl 1),(4,In x0),(5,.str x1),(7,In x2)]] [.var [Sl 2,Sl 3],.row Bool.true .str x3,Ro x4,Roo x5]
theorem aH.eq(k:Nat)(a0):aH (k+1) a0=B (aC k (a0.1,a0.2)) fun r0=>T (D.no r0) (some (⟨#[]⟩:ByteArray)) (T (D.eq (O (N a0.2)) 0) (some (⟨#[45]⟩:ByteArray)) (aH.L0 k k 0 ([]:List ByteArray) a0.1 a0.2)):=by kernel_rfl
theorem aH.aT(k j:Nat)(x0 x1 x2 x3):aH.L0 k (j+1) x0 x1 x2 x3=T (D.lt x0 (O (N x3))) (aH.L1 k j k x0 (⟨#[]⟩:ByteArray) 0 x1 x2 x3) (B (dC k x1 (⟨#[47]⟩:ByteArray)) fun r1=>some r1):=(jn _ _).trans (by kernel_rfl)
theorem aH.dX(k k1 j:Nat)(x0 x1 x2 x3 x4 x5):aH.L1 k k1 (j+1) x0 x1 x2 x3 x4 x5=B (cS k x4 x0) fun r2=>T (D.lt x2 r2) (T (D.leN (D.addN (D.lenS x1) (D.lenS (⟨#[46]⟩:ByteArray))) 1099511627776) (aH.L1 k k1 j x0 (D.catS x1 (⟨#[46]⟩:ByteArray)) (Z .i64 (A x2 1)) x3 x4 x5) none) (aH.L2 k k1 k x0 x1 0 x3 x4 x5):=(jn _ _).trans (by kernel_rfl)
theorem aH.wU(k k1 j:Nat)(x0 x1 x2 x3 x4 x5):aH.L2 k k1 (j+1) x0 x1 x2 x3 x4 x5=T (D.le 0 x0) (T (U (V x0) (N x5)) (T (U (V x0) (N x5)) (T (U (V x0) (N x5)) (T (D.lt x2 (O (N (E x5 (V x0) [])))) (T (D.le 0 x0) (T (U (V x0) (N x5)) (T (U (V x0) (N x5)) (T (U (V x0) (N x5)) (T (D.le 0 x2) (T (U (V x2) (N (E x5 (V x0) []))) (T (U (V x0) (N x5)) (T (U (V x2) (N (E x5 (V x0) []))) (B (bQ k (E (E x5 (V x0) []) (V x2) 0)) fun r3=>T (D.leN (D.addN (D.lenS x1) (D.lenS r3)) 1099511627776) (aH.L2 k k1 j x0 (D.catS x1 r3) (Z .i64 (A x2 1)) x3 x4 x5) none) none) none) none) none) none) none) none) none) (T (D.leN (N (D.app x3 (x1::([]:List ByteArray)))) 1099511627776) (aH.L0 k k1 (Z .i64 (A x0 1)) (D.app x3 (x1::([]:List ByteArray))) x4 x5) none)) none) none) none) none:=(jn _ _).trans (by kernel_rfl)
def c56:Code:=cB (cB (cB (cB (bW P 88))))
def c57:Code:=cC (cC (cB (cA c56)))
def K58(k:Nat):cU (den (resTy P 88)):=a9 0 (JK (k+1) 88 (cB c56) (R0 88))
def c59:Code:=cB (cB (bW P 140))
def c60:Code:=cC (cC (cA c59))
def c61:Code:=cB c59
def c62:Code:=cB c57
def c63:Code:=cC (cA c62)
def K64(k k1:Nat):cU (den (resTy P 88)):=lQ (fI P (o9 P 140) (fun z9 z10=>St.force (St.put z10 (Go.Oper.dst (tw (Code.ops c63) 6)) (py z9)) ((fun z11 z12=>iH (Code.ops c63) 6 (tw (Code.ops c63) 6) z12 ((fun z13 z14=>fz P cfg (mJ P cfg ext (k+1)) Option.none (Code.ops c63) [7] (trN 7) z14 (fun z15 z16=>a9 1 (JK (k+1) 88 (cB c62) (LK (k+1) 88 c57 k1 (K58 k))) .normal z16)) z11)) (Touch.mk [] [] [] Bool.true))))
def K65(k k1:Nat):cU (den (resTy P 88)):=a9 0 (JK k 140 c61 (K64 k k1))
def aq(k:Nat)(a0:(LI)×(LI)):Option (List ((LI)×(LJ))):=call k 88 a0
def aq.L0(k j:Nat)(x0:Int)(x1:List ((LI)×(LJ)))(x2:List LJ):Option (List ((LI)×(LJ))):=LL (k+1) 88 c57 j (K58 k) [frm 33 [(3,Sl 0),(4,Sl 1),(5,In x0)]] [.row Bool.true (.pair (.sl (.int .i64)) (.sl (.sl (.int .i64)))) x1,.row Bool.false (.sl (.sl (.int .i64))) x2]
def aq.L1(k k1 j:Nat)(x0 x1 x2 x3:Int)(x4:Bool)(x5:Int)(x6 x7:Nat)(x8:List ((LI)×(LJ)))(x9:List LJ)(x10:LI)(x11:LJ):Option (List ((LI)×(LJ))):=LL k 140 c60 j (K65 k k1) [frm 37 [(0,Sl 0),(3,.pv 1 0),(5,In x0)],frm 33 [(3,Sl 0),(4,Sl 2),(5,In x1),(19,In x2),(20,Sl 2),(21,In x3),(22,.bool x4),(25,Sl 0),(26,Sl 2),(27,In x5),(28,.pe 2 [] x6 0),(29,.sl 2 [(x7,0)] Option.none),(30,.agg [Sl 3,Sl 4])]] [.row Bool.true (.pair (.sl (.int .i64)) (.sl (.sl (.int .i64)))) x8,.var [Sl 3,Sl 4],.row Bool.false (.sl (.sl (.int .i64))) x9,Rw x10,Rww x11]
def aq.J2(k k1 k2:Nat)(x0 x1 x2 x3:Int)(x4:Bool)(x5:Int)(x6 x7:Nat)(x8:List ((LI)×(LJ)))(x9:List LJ)(x10:LI)(x11:LJ):Option (List ((LI)×(LJ))):=JJ k 140 (cB c60) (LK k 140 c60 k2 (K65 k k1)) [frm 37 [(0,Sl 0),(3,.pv 1 0),(5,In x0)],frm 33 [(3,Sl 0),(4,Sl 2),(5,In x1),(19,In x2),(20,Sl 2),(21,In x3),(22,.bool x4),(25,Sl 0),(26,Sl 2),(27,In x5),(28,.pe 2 [] x6 0),(29,.sl 2 [(x7,0)] Option.none),(30,.agg [Sl 3,Sl 4])]] [.row Bool.true (.pair (.sl (.int .i64)) (.sl (.sl (.int .i64)))) x8,.var [Sl 3,Sl 4],.row Bool.false (.sl (.sl (.int .i64))) x9,Rw x10,Rww x11]
def aq.J3(k k1:Nat)(x0 x1 x2 x3:Int)(x4:Bool)(x5:Int)(x6 x7:Nat)(x8:List ((LI)×(LJ)))(x9:List LJ)(x10:LI)(x11:LJ):Option (List ((LI)×(LJ))):=JJ k 140 c61 (K64 k k1) [frm 37 [(0,Sl 0),(3,.pv 1 0),(5,In x0)],frm 33 [(3,Sl 0),(4,Sl 2),(5,In x1),(19,In x2),(20,Sl 2),(21,In x3),(22,.bool x4),(25,Sl 0),(26,Sl 2),(27,In x5),(28,.pe 2 [] x6 0),(29,.sl 2 [(x7,0)] Option.none),(30,.agg [Sl 3,Sl 4])]] [.row Bool.true (.pair (.sl (.int .i64)) (.sl (.sl (.int .i64)))) x8,.var [Sl 3,Sl 4],.row Bool.false (.sl (.sl (.int .i64))) x9,Rw x10,Rww x11]
theorem aq.eq(k:Nat)(a0):aq (k+2) a0=B (hZ (k+1) (a0.1,a0.2)) fun r0=>T (D.no r0) (some ([]:List ((LI)×(LJ)))) (T (D.leN (N (D.app ([]:LI) a0.2)) 1099511627776) (B (b8 (k+1) a0.1 ((D.app ([]:LI) a0.2)::([]:LJ))) fun r1=>aq.L0 k (k+1) 0 ([]:List ((LI)×(LJ))) r1) none):=by kernel_rfl
theorem aq.aT(k j:Nat)(x0 x1 x2):aq.L0 k (j+1) x0 x1 x2=T (D.lt x0 (O (N x2))) (T (D.le 0 x0) (T (U (V x0) (N x2)) (T (U (V x0) (N x2)) (T (U (V x0) (N x2)) (B (bc (k+1) (E x2 (V x0) [])) fun r2=>aq.L1 k j k (O (N x1)) x0 x0 (O (N x2)) (D.lt x0 (O (N x2))) x0 (V x0) (V x0) x1 x2 r2.1 r2.2) none) none) none) none) (some x1):=(jn _ _).trans (by kernel_rfl)
theorem aq.dX(k k1 j:Nat)(x0 x1 x2 x3 x4 x5 x6 x7 x8 x9 x10 x11):aq.L1 k k1 (j+1) x0 x1 x2 x3 x4 x5 x6 x7 x8 x9 x10 x11=T (D.lt 0 x0) (T (D.le 0 (Z .i64 (M x0 1))) (T (U (V (Z .i64 (M x0 1))) (N x8)) (T (U (V (Z .i64 (M x0 1))) (N x8)) (T (U (V (Z .i64 (M x0 1))) (N x8)) (T (U (V (Z .i64 (M x0 1))) (N x8)) (B (aH k ((E x8 (V (Z .i64 (M x0 1))) (([]:LI),([]:LJ))).1,(E x8 (V (Z .i64 (M x0 1))) (([]:LI),([]:LJ))).2)) fun r3=>B (aH k (x10,x11)) fun r4=>T (D.no (D.or2 (D.ltS r3 r4) (D.eqS r3 r4))) (aq.J2 k k1 j x0 x1 x2 x3 x4 x5 x6 x7 x8 x9 x10 x11) (aq.J3 k k1 x0 x1 x2 x3 x4 x5 x6 x7 x8 x9 x10 x11)) none) none) none) none) none) (aq.J3 k k1 x0 x1 x2 x3 x4 x5 x6 x7 x8 x9 x10 x11):=(jn _ _).trans (by kernel_rfl)
theorem aq.kC(k k1 k2:Nat)(x0 x1 x2 x3 x4 x5 x6 x7 x8 x9 x10 x11):aq.J2 k k1 k2 x0 x1 x2 x3 x4 x5 x6 x7 x8 x9 x10 x11=aq.L1 k k1 k2 (Z .i64 (M x0 1)) x1 x2 x3 x4 x5 x6 x7 x8 x9 x10 x11:=(jn _ _).trans (by kernel_rfl)
theorem aq.lA(k k1:Nat)(x0 x1 x2 x3 x4 x5 x6 x7 x8 x9 x10 x11):aq.J3 k k1 x0 x1 x2 x3 x4 x5 x6 x7 x8 x9 x10 x11=T (D.le 0 x0) (T (D.leN (V x0) (N x8)) (T (D.leN (N (D.app ([]:List ((LI)×(LJ))) (D.take (D.subN (N x8) (V x0)) (D.drop (V x0) x8)))) 1099511627776) (T (D.le 0 x0) (T (D.leN (V x0) (N (D.take (V x0) x8))) (T (D.leN (N (D.app (D.take (V x0) (D.take (V x0) x8)) ((x10,x11)::([]:List ((LI)×(LJ)))))) 1099511627776) (T (D.leN (N (D.app (D.app (D.take (V x0) (D.take (V x0) x8)) ((x10,x11)::([]:List ((LI)×(LJ))))) (D.app ([]:List ((LI)×(LJ))) (D.take (D.subN (N x8) (V x0)) (D.drop (V x0) x8))))) 1099511627776) (aq.L0 k k1 (Z .i64 (A x1 1)) (D.app (D.app (D.take (V x0) (D.take (V x0) x8)) ((x10,x11)::([]:List ((LI)×(LJ))))) (D.app ([]:List ((LI)×(LJ))) (D.take (D.subN (N x8) (V x0)) (D.drop (V x0) x8)))) x9) none) none) none) none) none) none) none:=(jn _ _).trans (by kernel_rfl)
def ez(k:Nat)(x0 x1:Int)(x2:LI):Option (((LI)×(LJ))×(PUnit×(Int×Int))):=IO_ k 89 1 0 1 [.var [Sl 1,In 0,In 0],.row Bool.false (.int .u8) []] [[.pv 0 0],[.pv 0 0,Sl 1]] [.var [Sl 1,In x0,In x1],.row Bool.false (.int .u8) x2]
theorem ez.eq(k:Nat)(x0 x1 x2):ez (k+1) x0 x1 x2=B (fQ k x0 x1 x2) fun r0=>B (aq k (r0.1.1,r0.1.2)) fun r1=>B (aD k (O (N r1)) r0.2.2.1 r0.2.2.2 x2) fun r2=>T (D.le 0 r2.1) (T (U (V r2.1) (N r1)) (T (U (V r2.1) (N r1)) (T (U (V r2.1) (N r1)) (T (U (V r2.1) (N r1)) (some (((E r1 (V r2.1) (([]:LI),([]:LJ))).1,(E r1 (V r2.1) (([]:LI),([]:LJ))).2),((),(r2.2.2.1,r2.2.2.2)))) none) none) none) none) none:=by kernel_rfl
def gz(k:Nat)(x0 x1:Int)(x2:LI):Option (((LI)×(LJ))×(PUnit×(Int×Int))):=IO_ k 148 1 0 1 [.var [Sl 1,In 0,In 0],.row Bool.false (.int .u8) []] [[.pv 0 0],[.pv 0 0,Sl 1]] [.var [Sl 1,In x0,In x1],.row Bool.false (.int .u8) x2]
theorem gz.eq(k:Nat)(x0 x1 x2):gz (k+1) x0 x1 x2=B (bP k 10 x0 x1 x2) fun r0=>T r0.1 (B (eN k 6 r0.2.2.1 r0.2.2.2 x2) fun r1=>some ((r1.1.1,r1.1.2),((),(r1.2.2.1,r1.2.2.2)))) (B (ez k r0.2.2.1 r0.2.2.2 x2) fun r2=>some ((r2.1.1,r2.1.2),((),(r2.2.2.1,r2.2.2.2)))):=by kernel_rfl
def fD(k:Nat)(x0 x1:Int)(x2:LI):Option (((LI)×(LJ))×(PUnit×(Int×Int))):=IO_ k 100 1 0 1 [.var [Sl 1,In 0,In 0],.row Bool.false (.int .u8) []] [[.pv 0 0],[.pv 0 0,Sl 1]] [.var [Sl 1,In x0,In x1],.row Bool.false (.int .u8) x2]
theorem fD.eq(k:Nat)(x0 x1 x2):fD (k+1) x0 x1 x2=B (bP k 10 x0 x1 x2) fun r0=>T r0.1 (B (gz k r0.2.2.1 r0.2.2.2 x2) fun r1=>some ((r1.1.1,r1.1.2),((),(r1.2.2.1,r1.2.2.2)))) (B (ch k 7 r0.2.2.1 r0.2.2.2 x2) fun r2=>B (aq k (r2.1,([]:LI))) fun r3=>B (aD k (O (N r3)) r2.2.2.1 r2.2.2.2 x2) fun r4=>T (D.le 0 r4.1) (T (U (V r4.1) (N r3)) (T (U (V r4.1) (N r3)) (T (U (V r4.1) (N r3)) (T (U (V r4.1) (N r3)) (some (((E r3 (V r4.1) (([]:LI),([]:LJ))).1,(E r3 (V r4.1) (([]:LI),([]:LJ))).2),((),(r4.2.2.1,r4.2.2.2)))) none) none) none) none) none):=by kernel_rfl
def c66:Code:=cB (cB (bW P 49))
def c67:Code:=cC (cC (cB (cA c66)))
def c68:Code:=cB c66
def c69:Code:=cB (bW P 35)
def c70:Code:=cA c69
def K71(k:Nat):cU (den (resTy P 35)):=lQ (fI P (o9 P 49) (fun z6 z7=>St.force (St.put z7 (Go.Oper.dst (tw (Code.ops c70) 1)) (py z6)) ((fun z8 z9=>iH (Code.ops c70) 1 (tw (Code.ops c70) 1) z9 ((fun z10 z11=>fz P cfg (mJ P cfg ext (k+1)) Option.none (Code.ops c70) [2,3] (trN 2) z11 (fun z12 z13=>JK (k+1) 35 (cB c69) (R0 35) .normal z13)) z8)) (Touch.mk [] [] [] Bool.true))))
def K72(k:Nat):cU (den (resTy P 35)):=a9 0 (JK k 49 c68 (K71 k))
def az(k:Nat)(a0:LI):Option ((LI)×(LJ)):=call k 35 a0
def az.L0(k j:Nat)(x0 x1:Int)(x2 x3:LI)(x4:LJ):Option ((LI)×(LJ)):=LL k 49 c67 j (K72 k) [frm 32 [(0,Sl 0),(3,In x0),(4,In x1)],frm 6 [(0,Sl 0),(1,.tup []),(2,.pv 1 0),(3,Sl 0),(4,.tup []),(5,.tup [])]] [.row Bool.false (.int .u8) x2,.var [Sl 2,Sl 3],Rw x3,Rww x4]
def az.J1(k k1:Nat)(x0 x1:Int)(x2 x3:LI)(x4:LJ):Option ((LI)×(LJ)):=JJ k 49 (cB c67) (LK k 49 c67 k1 (K72 k)) [frm 32 [(0,Sl 0),(3,In x0),(4,In x1)],frm 6 [(0,Sl 0),(1,.tup []),(2,.pv 1 0),(3,Sl 0),(4,.tup []),(5,.tup [])]] [.row Bool.false (.int .u8) x2,.var [Sl 2,Sl 3],Rw x3,Rww x4]
def az.J2(k:Nat)(x0:Int)(x1 x2:LI)(x3:LJ):Option ((LI)×(LJ)):=JJ k 49 c68 (K71 k) [frm 32 [(0,Sl 0),(3,In x0)],frm 6 [(0,Sl 0),(1,.tup []),(2,.pv 1 0),(3,Sl 0),(4,.tup []),(5,.tup [])]] [.row Bool.false (.int .u8) x1,.var [Sl 2,Sl 3],Rw x2,Rww x3]
theorem az.eq(k:Nat)(a0):az (k+2) a0=az.L0 k k (Z .i64 (A 26583 (O (N a0)))) 0 a0 ([]:LI) ([]:LJ):=by kernel_rfl
theorem az.aT(k j:Nat)(x0 x1 x2 x3 x4):az.L0 k (j+1) x0 x1 x2 x3 x4=T (D.lt x1 (O (N x2))) (T (D.lt x1 4000) (az.J1 k j x0 x1 x2 x3 x4) (az.J2 k x0 x2 x3 x4)) (az.J2 k x0 x2 x3 x4):=(jn _ _).trans (by kernel_rfl)
theorem az.eM(k k1:Nat)(x0 x1 x2 x3 x4):az.J1 k k1 x0 x1 x2 x3 x4=T (D.le 0 x1) (T (U (V x1) (N x2)) (T (U (V x1) (N x2)) (az.L0 k k1 (D.andI .i64 (Z .i64 (A (Z .i64 (A (Z .i64 (D.mul x0 131)) (Z .i64 (E x2 (V x1) 0)))) 7)) 1073741823) (Z .i64 (A x1 1)) x2 x3 x4) none) none) none:=(jn _ _).trans (by kernel_rfl)
theorem az.kC(k:Nat)(x0 x1 x2 x3):az.J2 k x0 x1 x2 x3=B (fD (k+1) 0 x0 x1) fun r0=>some (r0.1.1,r0.1.2):=(jn _ _).trans (by kernel_rfl)
def de(k:Nat)(a0 a1 a2:Int):Option Bool:=call k 58 (a0,a1,a2)
theorem de.eq(k:Nat)(a0 a1 a2):de (k+1) a0 a1 a2=T (D.le a1 a0) (some (D.le a0 a2)) (some false):=by kernel_rfl
def c73:Code:=cB (cB (bW P 128))
def c74:Code:=cC (cC (cB (cA c73)))
def K75(k:Nat):cU (den (resTy P 128)):=a9 0 (JK k 128 (cB c73) (R0 128))
def c76:Code:=cB (cB c74)
def a7(k:Nat)(a0:LI):Option Bool:=call k 128 a0
def a7.L0(k j:Nat)(x0 x1 x2:Int)(x3:LI):Option Bool:=LL k 128 c74 j (K75 k) [frm 35 [(0,Sl 0),(3,In x0),(6,Sl 0),(7,In x1),(8,In x2)]] [Ro x3]
def a7.J1(k k1:Nat)(x0 x1 x2 x3:Int)(x4:LI):Option Bool:=JJ k 128 (cB (cB (cC (cA c76)))) (a9 1 (JK k 128 (cB c76) (LK k 128 c74 k1 (K75 k)))) [frm 35 [(0,Sl 0),(3,In x0),(5,In x1),(6,Sl 0),(7,In x2),(8,In x3)]] [Ro x4]
theorem a7.eq(k:Nat)(a0):a7 (k+1) a0=a7.L0 k k 0 (O (N a0)) 0 a0:=by kernel_rfl
theorem a7.aT(k j:Nat)(x0 x1 x2 x3):a7.L0 k (j+1) x0 x1 x2 x3=T (D.lt x2 x1) (T (D.le 0 x2) (T (U (V x2) (N x3)) (T (U (V x2) (N x3)) (B (de k (E x3 (V x2) 0) 1 9) fun r0=>T (D.no r0) (some false) (T (D.lt 0 x2) (T (D.le 0 (Z .i64 (M x2 1))) (T (U (V (Z .i64 (M x2 1))) (N x3)) (T (U (V (Z .i64 (M x2 1))) (N x3)) (T (D.lt (E x3 (V (Z .i64 (M x2 1))) 0) (E x3 (V x2) 0)) (some false) (a7.J1 k j x0 (E x3 (V x2) 0) x1 x2 x3)) none) none) none) (a7.J1 k j x0 (E x3 (V x2) 0) x1 x2 x3))) none) none) none) (some true):=(jn _ _).trans (by kernel_rfl)
theorem a7.eM(k k1:Nat)(x0 x1 x2 x3 x4):a7.J1 k k1 x0 x1 x2 x3 x4=T (D.lt 9 (Z .i64 (A x0 x1))) (some false) (a7.L0 k k1 (Z .i64 (A x0 x1)) x2 (Z .i64 (A x3 1)) x4):=(jn _ _).trans (by kernel_rfl)
def bH(k:Nat)(a0:LI):Option LI:=call k 126 a0
theorem bH.eq(k:Nat)(a0):bH (k+1) a0=T (D.eqN (N a0) 0) (D.both (some ([]:LI)) (T (D.leN (N (D.app ([]:LI) a0)) 1099511627776) (some (D.app ([]:LI) a0)) none)) (T (D.leN (N (D.app ([]:LI) a0)) 1099511627776) (some (D.app ([]:LI) a0)) none):=by kernel_rfl
def fL(k:Nat)(a0:LI)(a1:Int):Option Int:=call k 76 (a0,a1)
theorem fL.eq(k:Nat)(a0 a1):fL (k+1) a0 a1=B (de k a1 0 (Z .i64 (M (O (N a0)) 1))) fun r0=>T (D.no r0) (some 0) (T (D.le 0 a1) (T (U (V a1) (N a0)) (T (U (V a1) (N a0)) (some (E a0 (V a1) 0)) none) none) none):=by kernel_rfl
def c77:Code:=cB (cB (bW P 159))
def ck(k:Nat)(a0 a1:LI):Option Bool:=call k 159 (a0,a1)
def ck.J0(k:Nat)(x0 x1:LI):Option Bool:=JJ k 159 c77 (R0 159) [frm 28 [(0,Sl 0),(1,Sl 1)]] [Ro x0,Ro x1]
def ck.L1(k j:Nat)(x0 x1:Int)(x2 x3:LI):Option Bool:=LL k 159 (cC (cC (cB (cA c77)))) j (a9 0 (JK k 159 (cB c77) (R0 159))) [frm 28 [(1,Sl 0),(15,Sl 1),(16,In x0),(17,In x1)]] [Ro x2,Ro x3]
theorem ck.eq(k:Nat)(a0 a1):ck (k+1) a0 a1=B (a7 k a0) fun r0=>T (D.no r0) (some false) (B (a7 k a1) fun r1=>T (D.no r1) (some false) (ck.J0 k a0 a1)):=by kernel_rfl
theorem ck.iy(k:Nat)(x0 x1):ck.J0 k x0 x1=ck.L1 k k (O (N x0)) 0 x1 x0:=(jn _ _).trans (by kernel_rfl)
theorem ck.dX(k j:Nat)(x0 x1 x2 x3):ck.L1 k (j+1) x0 x1 x2 x3=T (D.lt x1 x0) (T (D.le 0 x1) (T (U (V x1) (N x3)) (T (U (V x1) (N x3)) (B (fL k x2 x1) fun r2=>T (D.lt r2 (E x3 (V x1) 0)) (some false) (ck.L1 k j x0 (Z .i64 (A x1 1)) x2 x3)) none) none) none) (some true):=(jn _ _).trans (by kernel_rfl)
def jD(k:Nat)(a0:(LI)×(LI)):Option Bool:=call k 129 a0
theorem jD.eq(k:Nat)(a0):jD (k+1) a0=B (ck k a0.2 a0.1) fun r0=>some r0:=by kernel_rfl
def c78:Code:=cB (cB (bW P 74))
def c79:Code:=cB c78
def cD(k:Nat)(a0:(LI)×(LJ)):Option (((LI)×(LI))×Bool):=call k 74 a0
def cD.J0(k:Nat)(x0:LI)(x1:LJ)(x2 x3:LI):Option (((LI)×(LI))×Bool):=JJ k 74 c78 (R0 74) [frm 51 [(1,.pv 0 0),(2,.pv 1 0)]] [.var [Sl 2,Sl 3],.var [Sl 4,Sl 5],Ro x0,Roo x1,Rw x2,Rw x3]
def cD.L1(k j:Nat)(x0 x1:Int)(x2:LJ)(x3 x4 x5 x6 x7:LI):Option (((LI)×(LI))×Bool):=LL k 74 (cC (cC (cB (cA c79)))) j (a9 0 (JK k 74 (cB c79) (R0 74))) [frm 51 [(1,.pv 0 0),(2,.pv 1 0),(4,.pv 2 0),(26,Sl 3),(27,In x0),(28,In x1)]] [.var [Sl 4,Sl 3],.var [Sl 5,Sl 6],.var [Sl 7,Sl 8],Roo x2,Ro x3,Rw x4,Rw x5,Rw x6,Rw x7]
theorem cD.eq(k:Nat)(a0):cD (k+1) a0=B (a7 k a0.1) fun r0=>T (D.no r0) (some ((([]:LI),([]:LI)),false)) (T (D.lt (O (N a0.2)) (O (N a0.1))) (some ((([]:LI),([]:LI)),false)) (cD.J0 k a0.1 a0.2 ([]:LI) ([]:LI))):=by kernel_rfl
theorem cD.iy(k:Nat)(x0 x1 x2 x3):cD.J0 k x0 x1 x2 x3=B (bH k x0) fun r1=>cD.L1 k k (O (N x1)) 0 x1 x0 x2 x3 ([]:LI) r1:=(jn _ _).trans (by kernel_rfl)
theorem cD.dX(k j:Nat)(x0 x1 x2 x3 x4 x5 x6 x7):cD.L1 k (j+1) x0 x1 x2 x3 x4 x5 x6 x7=T (D.lt x1 x0) (T (D.le 0 x1) (T (U (V x1) (N x2)) (T (U (V x1) (N x2)) (B (fL k x3 x1) fun r2=>T (U (V x1) (N x2)) (T (D.leN (N (D.app x6 ((Z .i64 (A r2 (O (N (E x2 (V x1) [])))))::([]:LI)))) 1099511627776) (cD.L1 k j x0 (Z .i64 (A x1 1)) x2 x3 x4 x5 (D.app x6 ((Z .i64 (A r2 (O (N (E x2 (V x1) [])))))::([]:LI))) x7) none) none) none) none) none) (B (jD k (x6,x7)) fun r3=>T (D.no r3) (some ((([]:LI),([]:LI)),false)) (some ((x6,x7),true))):=(jn _ _).trans (by kernel_rfl)
def eX(k:Nat)(a0:(LI)×(LJ))(a1 a2:Int):Option Int:=call k 75 (a0,a1,a2)
theorem eX.eq(k:Nat)(a0 a1 a2):eX (k+1) a0 a1 a2=B (de k a1 0 (Z .i64 (M (O (N a0.2)) 1))) fun r0=>T (D.no r0) (some 0) (T (D.le 0 a1) (T (U (V a1) (N a0.2)) (T (U (V a1) (N a0.2)) (B (fL k a0.1 a1) fun r1=>T (U (V a1) (N a0.2)) (B (fL k (E a0.2 (V a1) []) (Z .i64 (M a2 r1))) fun r2=>some r2) none) none) none) none):=by kernel_rfl
def c80:Code:=cB (cB (bW P 20))
def c81:Code:=cC (cC (cB (cA c80)))
def K82(k:Nat):cU (den (resTy P 20)):=a9 0 (JK k 20 (cB c80) (R0 20))
def c83:Code:=cB (cB c81)
def c84:Code:=cC (cC (cB (cB (cC (cA c83)))))
def K85(k k1:Nat):cU (den (resTy P 20)):=a9 2 (a9 1 (JK k 20 (cB c83) (LK k 20 c81 k1 (K82 k))))
def aM(k:Nat)(a0:(LI)×(LJ)):Option Bool:=call k 20 a0
def aM.L0(k j:Nat)(x0 x1:Int)(x2:LJ)(x3:LI):Option Bool:=LL k 20 c81 j (K82 k) [frm 67 [(1,.pv 0 0),(17,Sl 1),(18,In x0),(19,In x1)]] [.var [Sl 2,Sl 1],Roo x2,Ro x3]
def aM.L1(k k1 j:Nat)(x0:Int)(x1:Nat)(x2 x3:Int)(x4:Nat)(x5 x6:Int)(x7:LJ)(x8:LI):Option Bool:=LL k 20 c84 j (K85 k k1) [frm 67 [(1,.pv 0 0),(5,In x0),(6,.sl 1 [(x1,0)] Option.none),(17,Sl 1),(18,In x2),(19,In x3),(24,.sl 1 [(x4,0)] Option.none),(25,In x5),(26,In x6)]] [.var [Sl 2,Sl 1],Roo x7,Ro x8]
def aM.J2(k k1 k2:Nat)(x0:Int)(x1:Nat)(x2 x3:Int)(x4:Nat)(x5 x6:Int)(x7:LJ)(x8:LI):Option Bool:=JJ k 20 (cB (cB (cB c84))) (LK k 20 c84 k2 (K85 k k1)) [frm 67 [(1,.pv 0 0),(5,In x0),(6,.sl 1 [(x1,0)] Option.none),(17,Sl 1),(18,In x2),(19,In x3),(24,.sl 1 [(x4,0)] Option.none),(25,In x5),(26,In x6)]] [.var [Sl 2,Sl 1],Roo x7,Ro x8]
theorem aM.eq(k:Nat)(a0):aM (k+1) a0=B (cD k (a0.1,a0.2)) fun r0=>T (D.no r0.2) (some false) (aM.L0 k k (O (N a0.2)) 0 a0.2 a0.1):=by kernel_rfl
theorem aM.aT(k j:Nat)(x0 x1 x2 x3):aM.L0 k (j+1) x0 x1 x2 x3=T (D.lt x1 x0) (T (D.le 0 x1) (T (U (V x1) (N x2)) (T (U (V x1) (N x2)) (T (U (V x1) (N x2)) (aM.L1 k j k x1 (V x1) x0 x1 (V x1) (O (N (E x2 (V x1) []))) 0 x2 x3) none) none) none) none) (some true):=(jn _ _).trans (by kernel_rfl)
theorem aM.dX(k k1 j:Nat)(x0 x1 x2 x3 x4 x5 x6 x7 x8):aM.L1 k k1 (j+1) x0 x1 x2 x3 x4 x5 x6 x7 x8=T (D.lt x6 x5) (T (U x4 (N x7)) (T (D.le 0 x6) (T (U (V x6) (N (E x7 x4 []))) (T (U x4 (N x7)) (T (U (V x6) (N (E x7 x4 []))) (B (de k (E (E x7 x4 []) (V x6) 0) 1 9) fun r1=>T (D.no r1) (some false) (T (D.lt 0 x6) (T (U x1 (N x7)) (T (D.le 0 (Z .i64 (M x6 1))) (T (U (V (Z .i64 (M x6 1))) (N (E x7 x1 []))) (T (U x1 (N x7)) (T (U (V (Z .i64 (M x6 1))) (N (E x7 x1 []))) (T (D.lt (E (E x7 x4 []) (V x6) 0) (E (E x7 x1 []) (V (Z .i64 (M x6 1))) 0)) (some false) (T (D.lt 0 x0) (B (fL k x8 x0) fun r2=>B (eX k (x8,x7) (Z .i64 (M x0 1)) (Z .i64 (A r2 x6))) fun r3=>T (D.le (E (E x7 x4 []) (V x6) 0) r3) (some false) (aM.J2 k k1 j x0 x1 x2 x3 x4 x5 x6 x7 x8)) (aM.J2 k k1 j x0 x1 x2 x3 x4 x5 x6 x7 x8))) none) none) none) none) none) (T (D.lt 0 x0) (B (fL k x8 x0) fun r4=>B (eX k (x8,x7) (Z .i64 (M x0 1)) (Z .i64 (A r4 x6))) fun r5=>T (D.le (E (E x7 x4 []) (V x6) 0) r5) (some false) (aM.J2 k k1 j x0 x1 x2 x3 x4 x5 x6 x7 x8)) (aM.J2 k k1 j x0 x1 x2 x3 x4 x5 x6 x7 x8)))) none) none) none) none) none) (aM.L0 k k1 x2 (Z .i64 (A x3 1)) x7 x8):=(jn _ _).trans (by kernel_rfl)
theorem aM.kC(k k1 k2:Nat)(x0 x1 x2 x3 x4 x5 x6 x7 x8):aM.J2 k k1 k2 x0 x1 x2 x3 x4 x5 x6 x7 x8=aM.L1 k k1 k2 x0 x1 x2 x3 x4 x5 (Z .i64 (A x6 1)) x7 x8:=(jn _ _).trans (by kernel_rfl)
def hO(k:Nat)(a0:(LI)×(LJ)):Option Bool:=call k 57 a0
theorem hO.eq(k:Nat)(a0):hO (k+1) a0=T (D.eq (O (N a0.1)) 0) (B (aM k (a0.1,a0.2)) fun r0=>some r0) (some false):=by kernel_rfl
def c86:Code:=cB (cB (bW P 65))
def c87:Code:=cC (cC (cB (cA c86)))
def c88:Code:=cB c86
def K89(k:Nat):cU (den (resTy P 65)):=a9 0 (JK (k+1) 65 c88 (R0 65))
def c90:Code:=cA c88
def c91:Code:=cB c88
def c92:Code:=cC (cC (cB (cA c91)))
def K93(k:Nat):cU (den (resTy P 65)):=a9 2 (JK (k+1) 65 (cB c91) (R0 65))
def ai(k:Nat)(a0:LJ):Option LI:=call k 65 a0
def ai.L0(k j:Nat)(x0 x1 x2:Int)(x3:LJ):Option LI:=LL (k+1) 65 c87 j (K89 k) [frm 36 [(0,Sl 0),(3,In x0),(9,Sl 0),(10,In x1),(11,In x2)]] [Roo x3]
def ai.J1(k k1:Nat)(x0 x1 x2:Int)(x3:LJ):Option LI:=JJ (k+1) 65 (cB (cB (cB c87))) (LK (k+1) 65 c87 k1 (K89 k)) [frm 36 [(0,Sl 0),(3,In x0),(9,Sl 0),(10,In x1),(11,In x2)]] [Roo x3]
def ai.J2(k:Nat)(x0 x1 x2 x3:Int)(x4:Bool)(x5:Int)(x6:LJ):Option LI:=JJ k 123 (cB (cB (bW P 123))) (lQ (fI P (o9 P 123) (fun z1 z2=>St.force (St.put z2 (Go.Oper.dst (tw (Code.ops c90) 1)) (py z1)) ((fun z3 z4=>iH (Code.ops c90) 1 (tw (Code.ops c90) 1) z4 ((fun z5 z6=>fz P cfg (mJ P cfg ext (k+1)) Option.none (Code.ops c90) [2] (trN 2) z6 (fun z7 z8=>JK (k+1) 65 c91 (R0 65) .normal z8)) z3)) (Touch.mk [] [] [] Bool.true))))) [frm 27 [(0,.nilS),(1,In x0)],frm 36 [(0,Sl 0),(3,In x1),(9,Sl 0),(10,In x2),(11,In x3),(12,.bool x4),(23,In x5)]] [Roo x6]
def ai.L3(k j x0 x1:Nat)(x2 x3:Int)(x4:LI)(x5:LJ):Option LI:=LL (k+1) 65 c92 j (K93 k) [frm 36 [(6,.sl 0 [] (Option.some (x0,x1))),(25,Sl 1),(26,In x2),(27,In x3)]] [Rw x4,Roo x5]
def ai.L4(k j:Nat)(x0 x1:Int)(x2:LI)(x3:LJ):Option LI:=LL (k+1) 65 c92 j (K93 k) [frm 36 [(6,Sl 0),(25,Sl 1),(26,In x0),(27,In x1)]] [Rw x2,Roo x3]
theorem ai.eq(k:Nat)(a0):ai (k+2) a0=ai.L0 k (k+1) 0 (O (N a0)) 0 a0:=by kernel_rfl
theorem ai.aT(k j:Nat)(x0 x1 x2 x3):ai.L0 k (j+1) x0 x1 x2 x3=T (D.lt x2 x1) (T (D.le 0 x2) (T (U (V x2) (N x3)) (T (U (V x2) (N x3)) (T (U (V x2) (N x3)) (T (D.lt (Z .i64 (A x0 (O (N (E x3 (V x2) []))))) 0) none (ai.J1 k j (Z .i64 (A x0 (O (N (E x3 (V x2) []))))) x1 x2 x3)) none) none) none) none) (T (D.lt x0 0) none (ai.J2 k x0 x0 x1 x2 (D.lt x2 x1) x0 x3)):=(jn _ _).trans (by kernel_rfl)
theorem ai.eM(k k1:Nat)(x0 x1 x2 x3):ai.J1 k k1 x0 x1 x2 x3=ai.L0 k k1 x0 x1 (Z .i64 (A x2 1)) x3:=(jn _ _).trans (by kernel_rfl)
theorem ai.kC(k:Nat)(x0 x1 x2 x3 x4 x5 x6):ai.J2 k x0 x1 x2 x3 x4 x5 x6=T (D.lt 0 (Z .i64 (M x0 (Z .i64 (M 0 0))))) (T (D.le 0 0) (T (D.leN (V 0) 0) (T (D.le 1 (Z .i64 (M x0 (Z .i64 (M 0 0))))) (T (D.leN (V (Z .i64 (M x0 (Z .i64 (M 0 0))))) 1099511627776) (T (D.le 0 0) (T (D.leN (V 0) (N (D.rep (V (Z .i64 (M x0 (Z .i64 (M 0 0))))) (0:Int)))) (ai.L3 k (k+1) 0 (D.subN (V 0) 0) (O (N x6)) 0 (D.rep (V (Z .i64 (M x0 (Z .i64 (M 0 0))))) (0:Int)) x6) none) none) none) none) none) none) (ai.L4 k (k+1) (O (N x6)) 0 ([]:LI) x6):=(jn _ _).trans (by kernel_rfl)
theorem ai.I5(k j:Nat)(x0 x1 x2 x3 x4 x5):ai.L3 k (j+1) x0 x1 x2 x3 x4 x5=T (D.lt x3 x2) (T (D.le 0 x3) (T (U (V x3) (N x5)) (T (U (V x3) (N x5)) (T (U (V x3) (N x5)) (T (D.leN (N (D.app (D.take x1 (D.drop x0 x4)) (E x5 (V x3) []))) 1099511627776) (ai.L4 k j x2 (Z .i64 (A x3 1)) (D.app (D.take x1 (D.drop x0 x4)) (E x5 (V x3) [])) x5) none) none) none) none) none) (some (D.take x1 (D.drop x0 x4))):=(jn _ _).trans (by kernel_rfl)
theorem ai.Bn(k j:Nat)(x0 x1 x2 x3):ai.L4 k (j+1) x0 x1 x2 x3=T (D.lt x1 x0) (T (D.le 0 x1) (T (U (V x1) (N x3)) (T (U (V x1) (N x3)) (T (U (V x1) (N x3)) (T (D.leN (N (D.app x2 (E x3 (V x1) []))) 1099511627776) (ai.L4 k j x0 (Z .i64 (A x1 1)) (D.app x2 (E x3 (V x1) [])) x3) none) none) none) none) none) (some x2):=(jn _ _).trans (by kernel_rfl)
def c94:Code:=cB (bW P 138)
def bU(k:Nat)(a0:LI)(a1:Int):Option Int:=call k 138 (a0,a1)
def bU.L0(k j:Nat)(x0 x1 x2:Int)(x3:LI):Option Int:=LL k 138 (cC (cC (cB (cA c94)))) j (a9 0 (JK k 138 (cB c94) (R0 138))) [frm 19 [(0,Sl 0),(1,In x0),(7,In x1),(8,In x2)]] [Ro x3]
theorem bU.eq(k:Nat)(a0 a1):bU (k+1) a0 a1=bU.L0 k k a1 (O (N a0)) 0 a0:=by kernel_rfl
theorem bU.aT(k j:Nat)(x0 x1 x2 x3):bU.L0 k (j+1) x0 x1 x2 x3=T (D.lt x2 x1) (T (D.le 0 x2) (T (U (V x2) (N x3)) (T (U (V x2) (N x3)) (T (D.eq x0 (E x3 (V x2) 0)) (some x2) (bU.L0 k j x0 x1 (Z .i64 (A x2 1)) x3)) none) none) none) (some (-1)):=(jn _ _).trans (by kernel_rfl)
def cl(k:Nat)(a0:LI)(a1:Int):Option Bool:=call k 82 (a0,a1)
theorem cl.eq(k:Nat)(a0 a1):cl (k+1) a0 a1=B (bU k a0 a1) fun r0=>some (D.le 0 r0):=by kernel_rfl
def c95:Code:=cB (bW P 97)
def ef(k:Nat)(a0:LI):Option Bool:=call k 97 a0
def ef.L0(k j:Nat)(x0:Int)(x1:LI):Option Bool:=LL k 97 (cC (cC (cB (cA c95)))) j (a9 0 (JK k 97 (cB c95) (R0 97))) [frm 14 [(0,Sl 0),(3,In x0)]] [Ro x1]
theorem ef.eq(k:Nat)(a0):ef (k+1) a0=ef.L0 k k 1 a0:=by kernel_rfl
theorem ef.aT(k j:Nat)(x0 x1):ef.L0 k (j+1) x0 x1=T (D.le x0 (O (N x1))) (B (cl k x1 x0) fun r0=>T (D.no r0) (some false) (ef.L0 k j (Z .i64 (A x0 1)) x1)) (some true):=(jn _ _).trans (by kernel_rfl)
def gT(k:Nat)(a0:(LI)×(LJ)):Option Bool:=call k 90 a0
theorem gT.eq(k:Nat)(a0):gT (k+1) a0=B (aM k (a0.1,a0.2)) fun r0=>T r0 (B (ai k a0.2) fun r1=>B (ef k r1) fun r2=>some r2) (some false):=by kernel_rfl
def fb(k:Nat)(a0:(LI)×(LJ)):Option Bool:=call k 101 a0
theorem fb.eq(k:Nat)(a0):fb (k+1) a0=B (hO k (a0.1,a0.2)) fun r0=>T r0 (B (gT k (a0.1,a0.2)) fun r1=>some r1) (some false):=by kernel_rfl
def c96:Code:=cB (cB (bW P 68))
def bT(k:Nat)(a0:(LI)×(LJ)):Option ((LI)×(LJ)):=call k 68 a0
def bT.L0(k j:Nat)(x0 x1:Int)(x2:LJ)(x3:LI)(x4:LJ)(x5:LI)(x6:LJ):Option ((LI)×(LJ)):=LL k 68 (cC (cC (cB (cA c96)))) j (a9 0 (JK k 68 (cB c96) (R0 68))) [frm 26 [(2,.pv 0 0),(3,.pv 1 0),(11,Sl 2),(12,In x0),(13,In x1)]] [.var [Sl 3,Sl 4],.var [Sl 5,Sl 6],Roo x2,Rw x3,Rww x4,Rw x5,Rww x6]
theorem bT.eq(k:Nat)(a0):bT (k+1) a0=B (bH k a0.1) fun r0=>bT.L0 k k (O (N a0.2)) 0 a0.2 ([]:LI) ([]:LJ) r0 ([]:LJ):=by kernel_rfl
theorem bT.aT(k j:Nat)(x0 x1 x2 x3 x4 x5 x6):bT.L0 k (j+1) x0 x1 x2 x3 x4 x5 x6=T (D.lt x1 x0) (T (D.le 0 x1) (T (U (V x1) (N x2)) (T (U (V x1) (N x2)) (T (U (V x1) (N x2)) (B (bH k (E x2 (V x1) [])) fun r1=>T (D.leN (N (D.app x6 (r1::([]:LJ)))) 1099511627776) (bT.L0 k j x0 (Z .i64 (A x1 1)) x2 x3 x4 x5 (D.app x6 (r1::([]:LJ)))) none) none) none) none) none) (some (x5,x6)):=(jn _ _).trans (by kernel_rfl)
def c97:Code:=cB (cB (cB (bW P 59)))
def c98:Code:=cC (cB (cA c97))
def K99(k:Nat):cU (den (resTy P 59)):=a9 0 (JK k 59 (cB c97) (R0 59))
def Jc:Code:=cC (cC (cB (bW P 155)))
def bY(k:Nat)(a0:(LI)×(LJ)):Option LI:=call k 59 a0
def bY.L0(k j:Nat)(x0:Int)(x1:LJ)(x2:LI):Option LI:=D.jn (fun z1=>lE (fun z2 z3=>iP P cfg (mJ P cfg ext k) (rM (fun z4 z5=>X k 59 (cA c98) z4 z5) (fun z6 z7=>X k 59 (cB c98) z6 z7) (List.toArray [13,14]) (K99 k)) (Go.Func.ntmps (o9 P 155)) k 155 Jc z2 z3) (Cfg.loops cfg 155 (key Jc)) j z1 (a9 0 (lQ (fun z11=>K99 k .normal (St.mk (List.tail (St.fr z11)) (St.rs z11)))))) (St.mk [frm 19 [(1,.pv 0 0),(3,In x0)],frm 19 [(3,.pv 1 0),(12,.fn 155 [] [.pv 0 0])]] [.var [Sl 2],.var [Sl 3],Roo x1,Rw x2])
theorem bY.eq(k:Nat)(a0):bY (k+1) a0=B (aM k (a0.1,a0.2)) fun r0=>T (D.no r0) (some ([]:LI)) (bY.L0 k k (Z .i64 (M (O (N a0.2)) 1)) a0.2 ([]:LI)):=by kernel_rfl
theorem bY.aT(k j:Nat)(x0 x1 x2):bY.L0 k (j+1) x0 x1 x2=T (D.le 0 x0) (T (D.le 0 x0) (T (U (V x0) (N x1)) (T (U (V x0) (N x1)) (T (U (V x0) (N x1)) (T (D.leN (N (D.app x2 (E x1 (V x0) []))) 1099511627776) (bY.L0 k j (Z .i64 (M x0 1)) x1 (D.app x2 (E x1 (V x0) []))) none) none) none) none) none) (some x2):=(jn _ _).trans (by kernel_rfl)
def Ju:Code:=cB (cB (cB (bW P 83)))
def IA:Code:=cC (cC (cB (cA Ju)))
def KG(k:Nat):cU (den (resTy P 83)):=a9 0 (JK k 83 (cB Ju) (R0 83))
def cb(k:Nat)(a0:LI):Option LI:=call k 83 a0
def cb.L0(k j:Nat)(x0 x1:Int)(x2 x3:LI):Option LI:=LL k 83 IA j (KG k) [frm 29 [(0,Sl 0),(3,Sl 1),(10,Sl 0),(11,In x0),(12,In x1)]] [Ro x2,Rw x3]
def cb.J1(k k1:Nat)(x0 x1:Int)(x2 x3:LI):Option LI:=JJ k 83 (cB (cB (cB IA))) (LK k 83 IA k1 (KG k)) [frm 29 [(0,Sl 0),(3,Sl 1),(10,Sl 0),(11,In x0),(12,In x1)]] [Ro x2,Rw x3]
theorem cb.eq(k:Nat)(a0):cb (k+1) a0=B (a7 k a0) fun r0=>T (D.no r0) (some ([]:LI)) (cb.L0 k k (O (N a0)) 0 a0 ([]:LI)):=by kernel_rfl
theorem cb.aT(k j:Nat)(x0 x1 x2 x3):cb.L0 k (j+1) x0 x1 x2 x3=T (D.lt x1 x0) (T (D.le 0 x1) (T (U (V x1) (N x2)) (T (U (V x1) (N x2)) (B (fL k x2 (Z .i64 (A x1 1))) fun r1=>T (D.lt r1 (E x2 (V x1) 0)) (T (D.leN (N (D.app x3 (x1::([]:LI)))) 1099511627776) (cb.J1 k j x0 x1 x2 (D.app x3 (x1::([]:LI)))) none) (cb.J1 k j x0 x1 x2 x3)) none) none) none) (some x3):=(jn _ _).trans (by kernel_rfl)
theorem cb.eM(k k1:Nat)(x0 x1 x2 x3):cb.J1 k k1 x0 x1 x2 x3=cb.L0 k k1 x0 (Z .i64 (A x1 1)) x2 x3:=(jn _ _).trans (by kernel_rfl)
def Ja:Code:=cB (bW P 160)
def HX:Code:=cC (cC (cA Ja))
def Kj:Code:=cB (bW P 130)
def Ho:Code:=cA (cB (cB (cB Kj)))
def I2(k:Nat):cU (den (resTy P 130)):=a9 0 (JK (k+1) 160 (cB Ja) (lQ (fI P (o9 P 160) (fun z9 z10=>St.force (St.put z10 (Go.Oper.dst (tw (Code.ops Ho) 1)) (py z9)) ((fun z11 z12=>iH (Code.ops Ho) 1 (tw (Code.ops Ho) 1) z12 ((fun z13 z14=>fz P cfg (mJ P cfg ext (k+2)) Option.none (Code.ops Ho) [2,3] (trN 2) z14 (fun z15 z16=>JK (k+2) 130 (cB (cT (cB (cA Kj)))) (R0 130) .normal z16)) z11)) (Touch.mk [] [] [] Bool.true))))))
def I8:Code:=cB HX
def KJ(k k1:Nat):cU (den (resTy P 130)):=LK (k+1) 160 HX k1 (I2 k)
def a8(k:Nat)(a0:LI)(a1:Int):Option ((LI)×Bool):=call k 130 (a0,a1)
def a8.L0(k j:Nat)(x0:Int)(x1:Bool)(x2:Int)(x3 x4:Bool)(x5:Int)(x6:Nat)(x7 x8:Int)(x9:Nat)(x10 x11 x12 x13:LI):Option ((LI)×Bool):=LL (k+1) 160 HX j (I2 k) [frm 22 [(0,Sl 0)],frm 22 [(0,Sl 1),(1,In x0),(2,.tup []),(3,.tup []),(4,Sl 2),(5,.bool x1),(6,Sl 0),(7,Sl 1),(8,Sl 3),(9,In x2),(10,.bool x3),(11,.bool x4),(12,Sl 1),(13,Sl 0),(14,Sl 0),(15,In x5),(16,.pe 0 [] x6 0),(17,In x7),(18,In x8),(19,.pe 0 [] x9 0),(20,Sl 0),(21,.tup [])]] [Rw x10,Ro x11,Rw x12,Rw x13]
def a8.J1(k k1:Nat)(x0:Int)(x1:Bool)(x2:Int)(x3 x4:Bool)(x5:Int)(x6:Nat)(x7 x8:Int)(x9:Nat)(x10 x11 x12 x13:LI):Option ((LI)×Bool):=JJ (k+1) 160 I8 (KJ k k1) [frm 22 [(0,Sl 0)],frm 22 [(0,Sl 1),(1,In x0),(2,.tup []),(3,.tup []),(4,Sl 2),(5,.bool x1),(6,Sl 0),(7,Sl 1),(8,Sl 3),(9,In x2),(10,.bool x3),(11,.bool x4),(12,Sl 1),(13,Sl 0),(14,Sl 0),(15,In x5),(16,.pe 0 [] x6 0),(17,In x7),(18,In x8),(19,.pe 0 [] x9 0),(20,Sl 0),(21,.tup [])]] [Rw x10,Ro x11,Rw x12,Rw x13]
def a8.L2(k j x0 x1:Nat)(x2:Int)(x3:Bool)(x4:Int)(x5 x6:Bool)(x7:Int)(x8:Nat)(x9 x10:Int)(x11:Nat)(x12 x13 x14 x15:LI):Option ((LI)×Bool):=LL (k+1) 160 HX j (I2 k) [frm 22 [(0,.sl 0 [] (Option.some (x0,x1)))],frm 22 [(0,Sl 1),(1,In x2),(2,.tup []),(3,.tup []),(4,Sl 2),(5,.bool x3),(6,Sl 0),(7,Sl 1),(8,Sl 3),(9,In x4),(10,.bool x5),(11,.bool x6),(12,Sl 1),(13,Sl 0),(14,Sl 0),(15,In x7),(16,.pe 0 [] x8 0),(17,In x9),(18,In x10),(19,.pe 0 [] x11 0),(20,Sl 0),(21,.tup [])]] [Rw x12,Ro x13,Rw x14,Rw x15]
def a8.J3(k k1 x0 x1:Nat)(x2:Int)(x3:Bool)(x4:Int)(x5 x6:Bool)(x7:Int)(x8:Nat)(x9 x10:Int)(x11:Nat)(x12 x13 x14 x15:LI):Option ((LI)×Bool):=JJ (k+1) 160 I8 (KJ k k1) [frm 22 [(0,.sl 0 [] (Option.some (x0,x1)))],frm 22 [(0,Sl 1),(1,In x2),(2,.tup []),(3,.tup []),(4,Sl 2),(5,.bool x3),(6,Sl 0),(7,Sl 1),(8,Sl 3),(9,In x4),(10,.bool x5),(11,.bool x6),(12,Sl 1),(13,Sl 0),(14,Sl 0),(15,In x7),(16,.pe 0 [] x8 0),(17,In x9),(18,In x10),(19,.pe 0 [] x11 0),(20,Sl 0),(21,.tup [])]] [Rw x12,Ro x13,Rw x14,Rw x15]
theorem a8.eq(k:Nat)(a0 a1):a8 (k+3) a0 a1=B (cb (k+2) a0) fun r0=>B (cl (k+2) r0 a1) fun r1=>T (D.no r1) (some (([]:LI),false)) (B (bH (k+2) a0) fun r2=>T (D.le 0 a1) (T (U (V a1) (N r2)) (T (U (V a1) (N r2)) (T (D.le 0 a1) (T (U (V a1) (N r2)) (T (U (V a1) (N r2)) (a8.L0 k (k+1) a1 false a1 r1 (D.no r1) a1 (V a1) (E r2 (V a1) 0) (Z .i64 (M (E r2 (V a1) 0) 1)) (V a1) (D.set r2 (V a1) (Z .i64 (M (E r2 (V a1) 0) 1))) a0 ([]:LI) r0) none) none) none) none) none) none):=by kernel_rfl
theorem a8.aT(k j:Nat)(x0 x1 x2 x3 x4 x5 x6 x7 x8 x9 x10 x11 x12 x13):a8.L0 k (j+1) x0 x1 x2 x3 x4 x5 x6 x7 x8 x9 x10 x11 x12 x13=T (D.lt 0 (O (N x10))) (T (D.le 0 (Z .i64 (M (O (N x10)) 1))) (T (U (V (Z .i64 (M (O (N x10)) 1))) (N x10)) (T (U (V (Z .i64 (M (O (N x10)) 1))) (N x10)) (T (D.eq (E x10 (V (Z .i64 (M (O (N x10)) 1))) 0) 0) (a8.J1 k j x0 x1 x2 x3 x4 x5 x6 x7 x8 x9 x10 x11 x12 x13) (T (D.le 0 (O (N x10))) (T (D.le (O (N x10)) (O (N x10))) (T (D.leN (V (O (N x10))) (N x10)) (some ((D.take (V (O (N x10))) x10),true)) none) none) none)) none) none) none) (T (D.le 0 (O (N x10))) (T (D.le (O (N x10)) (O (N x10))) (T (D.leN (V (O (N x10))) (N x10)) (some ((D.take (V (O (N x10))) x10),true)) none) none) none):=(jn _ _).trans (by kernel_rfl)
theorem a8.eM(k k1:Nat)(x0 x1 x2 x3 x4 x5 x6 x7 x8 x9 x10 x11 x12 x13):a8.J1 k k1 x0 x1 x2 x3 x4 x5 x6 x7 x8 x9 x10 x11 x12 x13=T (D.le 0 (Z .i64 (M (O (N x10)) 1))) (T (D.leN (V (Z .i64 (M (O (N x10)) 1))) (N x10)) (a8.L2 k k1 0 (D.subN (V (Z .i64 (M (O (N x10)) 1))) 0) x0 x1 x2 x3 x4 x5 x6 x7 x8 x9 x10 x11 x12 x13) none) none:=(jn _ _).trans (by kernel_rfl)
theorem a8.wU(k j:Nat)(x0 x1 x2 x3 x4 x5 x6 x7 x8 x9 x10 x11 x12 x13 x14 x15):a8.L2 k (j+1) x0 x1 x2 x3 x4 x5 x6 x7 x8 x9 x10 x11 x12 x13 x14 x15=T (D.lt 0 (O x1)) (T (D.le 0 (Z .i64 (M (O x1) 1))) (T (U (V (Z .i64 (M (O x1) 1))) x1) (T (U (D.addN x0 (V (Z .i64 (M (O x1) 1)))) (N x12)) (T (D.eq (E x12 (D.addN x0 (V (Z .i64 (M (O x1) 1)))) 0) 0) (a8.J3 k j x0 x1 x2 x3 x4 x5 x6 x7 x8 x9 x10 x11 x12 x13 x14 x15) (T (D.le 0 (O x1)) (T (D.le (O x1) (O x1)) (T (D.leN (V (O x1)) x1) (some ((D.take (V (O x1)) (D.take x1 (D.drop x0 x12))),true)) none) none) none)) none) none) none) (T (D.le 0 (O x1)) (T (D.le (O x1) (O x1)) (T (D.leN (V (O x1)) x1) (some ((D.take (V (O x1)) (D.take x1 (D.drop x0 x12))),true)) none) none) none):=(jn _ _).trans (by kernel_rfl)
def J8:Code:=cB (cB (bW P 131))
def ca(k:Nat)(a0:(LI)×(LJ)):Option LJ:=call k 131 a0
def ca.L0(k j:Nat)(x0 x1:Int)(x2 x3:LJ)(x4:LI):Option LJ:=LL k 131 (cC (cC (cB (cA J8)))) j (a9 0 (JK k 131 (cB J8) (R0 131))) [frm 28 [(1,.pv 0 0),(3,Sl 1),(8,Sl 2),(9,In x0),(10,In x1)]] [.var [Sl 3,Sl 2],Rww x2,Roo x3,Ro x4]
theorem ca.eq(k:Nat)(a0):ca (k+1) a0=ca.L0 k k (O (N a0.2)) 0 ([]:LJ) a0.2 a0.1:=by kernel_rfl
theorem ca.aT(k j:Nat)(x0 x1 x2 x3 x4):ca.L0 k (j+1) x0 x1 x2 x3 x4=T (D.lt x1 x0) (T (D.le 0 x1) (T (U (V x1) (N x3)) (T (U (V x1) (N x3)) (B (fL k x4 x1) fun r0=>T (D.le 0 r0) (T (D.le r0 r0) (T (D.leN (V r0) 1099511627776) (T (U (V x1) (N x3)) (B (ai k ((D.rep (V r0) (0:Int))::((E x3 (V x1) [])::([]:LJ)))) fun r1=>T (D.leN (N (D.app x2 (r1::([]:LJ)))) 1099511627776) (ca.L0 k j x0 (Z .i64 (A x1 1)) (D.app x2 (r1::([]:LJ))) x3 x4) none) none) none) none) none) none) none) none) (some x2):=(jn _ _).trans (by kernel_rfl)
def jl(k:Nat)(a0:LJ)(a1 a2:Int):Option Int:=call k 132 (a0,a1,a2)
theorem jl.eq(k:Nat)(a0 a1 a2):jl (k+1) a0 a1 a2=B (de k a1 0 (Z .i64 (M (O (N a0)) 1))) fun r0=>T (D.no r0) (some 0) (T (D.le 0 a1) (T (U (V a1) (N a0)) (T (U (V a1) (N a0)) (T (U (V a1) (N a0)) (B (fL k (E a0 (V a1) []) a2) fun r1=>some r1) none) none) none) none):=by kernel_rfl
def JC:Code:=cB (bW P 77)
def KH:Code:=cB JC
def KL:Code:=cB (cB (cB KH))
def IG:Code:=cC (cC (cA KL))
def IW:Code:=cB KL
def Jk(k:Nat):cU (den (resTy P 77)):=a9 0 (JK (k+1) 77 IW (R0 77))
def KV:Code:=cB (cB (bW P 133))
def I1:Code:=cC (cC (cB (cA KV)))
def G8:Code:=cA (cB IW)
def Kk(k:Nat):cU (den (resTy P 77)):=a9 0 (JK k 133 (cB KV) (lQ (fI P (o9 P 133) (fun z13 z14=>St.force (St.put z14 (Go.Oper.dst (tw (Code.ops G8) 2)) (py z13)) ((fun z15 z16=>iH (Code.ops G8) 2 (tw (Code.ops G8) 2) z16 ((fun z17 z18=>fz P cfg (mJ P cfg ext (k+1)) Option.none (Code.ops G8) [3,4,5,6] (trN 3) z18 (fun z19 z20=>JK (k+1) 77 (cB (cT (cB (cA JC)))) (R0 77) .normal z20)) z15)) (Touch.mk [] [] [] Bool.true))))))
def ay(k:Nat)(a0:(LI)×(LJ))(a1:Int):Option (((LI)×(LJ))×(Int×Bool)):=call k 77 (a0,a1)
def ay.J0(k:Nat)(x0:Int)(x1:LI)(x2:LJ)(x3:LI)(x4:LJ):Option (((LI)×(LJ))×(Int×Bool)):=JJ (k+1) 77 KH (R0 77) [frm 100 [(1,In x0),(2,.pv 0 0),(4,.pv 1 0)]] [.var [Sl 2,Sl 3],.var [Sl 4,Sl 5],Ro x1,Roo x2,Rw x3,Rww x4]
def ay.L1(k j:Nat)(x0 x1:Int)(x2:LI)(x3:LJ)(x4:LI)(x5:LJ):Option (((LI)×(LJ))×(Int×Bool)):=LL (k+1) 77 IG j (Jk k) [frm 100 [(4,.pv 0 0),(7,Sl 1),(9,Sl 2),(10,In x0),(11,In x1)]] [.var [Sl 3,Sl 4],Rw x2,Rww x3,Rw x4,Rww x5]
def ay.J2(k:Nat)(x0 x1:Int)(x2:LI)(x3:LJ)(x4:LI)(x5:LJ):Option (((LI)×(LJ))×(Int×Bool)):=JJ (k+1) 77 IW (R0 77) [frm 100 [(4,.pv 0 0),(7,Sl 1),(9,Sl 2),(10,In x0),(11,In x1)]] [.var [Sl 3,Sl 4],Rw x2,Rww x3,Rw x4,Rww x5]
def ay.J3(k k1:Nat)(x0 x1 x2 x3:Int)(x4:LI)(x5:LJ)(x6:LI)(x7:LJ):Option (((LI)×(LJ))×(Int×Bool)):=JJ (k+1) 77 (cB (cB (cC IG))) (a9 1 (LK (k+1) 77 IG k1 (Jk k))) [frm 100 [(4,.pv 0 0),(7,Sl 1),(9,Sl 2),(10,In x0),(11,In x1),(12,In x2),(13,In x3)]] [.var [Sl 3,Sl 4],Rw x4,Rww x5,Rw x6,Rww x7]
def ay.L4(k j:Nat)(x0 x1 x2 x3 x4 x5:Int)(x6:Nat)(x7:Int)(x8:Nat)(x9:LI)(x10:LJ)(x11:LI)(x12 x13:LJ)(x14:LI)(x15:LJ):Option (((LI)×(LJ))×(Int×Bool)):=LL k 133 I1 j (Kk k) [frm 33 [(0,Sl 0),(4,.pv 1 0),(5,.pv 2 0),(10,Sl 3),(11,In x0),(12,In x1)],frm 100 [(4,.pv 4 0),(7,Sl 0),(9,Sl 3),(10,In x2),(11,In x3),(87,Sl 3),(88,In x4),(89,Sl 3),(90,In x5),(91,.pe 3 [] x6 0),(93,In x7),(95,.pe 3 [] x8 0),(96,Sl 0),(97,Sl 3)]] [Rw x9,.var [Sl 5,Sl 6],.var [Sl 0,Sl 7],Rww x10,.var [Sl 8,Sl 9],Rw x11,Rww x12,Rww x13,Rw x14,Rww x15]
def ay.J5(k k1:Nat)(x0 x1 x2 x3 x4 x5:Int)(x6:Nat)(x7:Int)(x8:Nat)(x9:LI)(x10:LJ)(x11:LI)(x12 x13:LJ)(x14:LI)(x15:LJ):Option (((LI)×(LJ))×(Int×Bool)):=JJ k 133 (cB (cB (cB I1))) (LK k 133 I1 k1 (Kk k)) [frm 33 [(0,Sl 0),(4,.pv 1 0),(5,.pv 2 0),(10,Sl 3),(11,In x0),(12,In x1)],frm 100 [(4,.pv 4 0),(7,Sl 0),(9,Sl 3),(10,In x2),(11,In x3),(87,Sl 3),(88,In x4),(89,Sl 3),(90,In x5),(91,.pe 3 [] x6 0),(93,In x7),(95,.pe 3 [] x8 0),(96,Sl 0),(97,Sl 3)]] [Rw x9,.var [Sl 5,Sl 6],.var [Sl 0,Sl 7],Rww x10,.var [Sl 8,Sl 9],Rw x11,Rww x12,Rww x13,Rw x14,Rww x15]
theorem ay.eq(k:Nat)(a0 a1):ay (k+2) a0 a1=B (aM (k+1) (a0.1,a0.2)) fun r0=>T (D.no r0) (some ((([]:LI),([]:LJ)),((0:Int),false))) (B (cb (k+1) a0.1) fun r1=>B (cl (k+1) r1 a1) fun r2=>T (D.no r2) (some ((([]:LI),([]:LJ)),((0:Int),false))) (ay.J0 k a1 a0.1 a0.2 ([]:LI) ([]:LJ))):=by kernel_rfl
theorem ay.iy(k:Nat)(x0 x1 x2 x3 x4):ay.J0 k x0 x1 x2 x3 x4=B (a8 (k+1) x1 x0) fun r3=>B (ca (k+1) (x1,x2)) fun r4=>T (D.le 0 x0) (T (U (V x0) (N x1)) (T (U (V x0) (N x1)) (ay.L1 k (k+1) x0 (Z .i64 (M (E x1 (V x0) 0) 1)) r3.1 r4 x3 x4) none) none) none:=(jn _ _).trans (by kernel_rfl)
theorem ay.dX(k j:Nat)(x0 x1 x2 x3 x4 x5):ay.L1 k (j+1) x0 x1 x2 x3 x4 x5=B (jl (k+1) x3 x0 (Z .i64 (A x1 1))) fun r5=>B (jl (k+1) x3 (Z .i64 (A x0 1)) x1) fun r6=>T (D.eq r5 0) (T (D.eq r6 0) (ay.J2 k x0 x1 x2 x3 x4 x5) (ay.J3 k j x0 x1 r5 r6 x2 x3 x4 x5)) (ay.J3 k j x0 x1 r5 r6 x2 x3 x4 x5):=(jn _ _).trans (by kernel_rfl)
theorem ay.kC(k:Nat)(x0 x1 x2 x3 x4 x5):ay.J2 k x0 x1 x2 x3 x4 x5=T (D.le 0 x0) (T (U (V x0) (N x3)) (T (U (V x0) (N x3)) (T (U (V x0) (N x3)) (T (D.le 0 x1) (T (D.leN (V x1) (N (E x3 (V x0) []))) (T (D.le 0 x0) (T (U (V x0) (N x3)) (T (U (V x0) (N x3)) (T (U (V x0) (N x3)) (T (D.eqP (((V x0),0)::([]:List (Nat×Nat))) (((V x0),0)::([]:List (Nat×Nat)))) (ay.L4 k k (O (N (D.set x3 (V x0) (D.take (D.subN (V x1) 0) (D.drop 0 (E x3 (V x0) [])))))) 0 x0 x1 x0 x0 (V x0) x1 (V x0) x2 (D.set x3 (V x0) (D.take (D.subN (V x1) 0) (D.drop 0 (E x3 (V x0) [])))) ([]:LI) ([]:LJ) ([]:LJ) x4 x5) none) none) none) none) none) none) none) none) none) none) none:=(jn _ _).trans (by kernel_rfl)
theorem ay.lA(k k1:Nat)(x0 x1 x2 x3 x4 x5 x6 x7):ay.J3 k k1 x0 x1 x2 x3 x4 x5 x6 x7=T (D.eq x2 0) (T (D.le 0 x0) (T (U (V x0) (N x5)) (T (U (V x0) (N x5)) (T (U (V x0) (N x5)) (T (D.le 0 x1) (T (U (V x1) (N (E x5 (V x0) []))) (T (U (V x0) (N x5)) (T (U (V x1) (N (E x5 (V x0) []))) (ay.L1 k k1 (Z .i64 (A x0 1)) x1 x4 (D.set x5 (V x0) (D.set (E x5 (V x0) []) (V x1) x3)) x6 x7) none) none) none) none) none) none) none) none) (T (D.lt 0 x3) (T (D.le x3 x2) (T (D.le 0 x0) (T (U (V x0) (N x5)) (T (U (V x0) (N x5)) (T (U (V x0) (N x5)) (T (D.le 0 x1) (T (U (V x1) (N (E x5 (V x0) []))) (T (U (V x0) (N x5)) (T (U (V x1) (N (E x5 (V x0) []))) (ay.L1 k k1 (Z .i64 (A x0 1)) x1 x4 (D.set x5 (V x0) (D.set (E x5 (V x0) []) (V x1) x3)) x6 x7) none) none) none) none) none) none) none) none) (T (D.le 0 x0) (T (U (V x0) (N x5)) (T (U (V x0) (N x5)) (T (U (V x0) (N x5)) (T (D.le 0 x1) (T (U (V x1) (N (E x5 (V x0) []))) (T (U (V x0) (N x5)) (T (U (V x1) (N (E x5 (V x0) []))) (ay.L1 k k1 x0 (Z .i64 (A x1 1)) x4 (D.set x5 (V x0) (D.set (E x5 (V x0) []) (V x1) x2)) x6 x7) none) none) none) none) none) none) none) none)) (T (D.le 0 x0) (T (U (V x0) (N x5)) (T (U (V x0) (N x5)) (T (U (V x0) (N x5)) (T (D.le 0 x1) (T (U (V x1) (N (E x5 (V x0) []))) (T (U (V x0) (N x5)) (T (U (V x1) (N (E x5 (V x0) []))) (ay.L1 k k1 x0 (Z .i64 (A x1 1)) x4 (D.set x5 (V x0) (D.set (E x5 (V x0) []) (V x1) x2)) x6 x7) none) none) none) none) none) none) none) none)):=(jn _ _).trans (by kernel_rfl)
theorem ay.Bn(k j:Nat)(x0 x1 x2 x3 x4 x5 x6 x7 x8 x9 x10 x11 x12 x13 x14 x15):ay.L4 k (j+1) x0 x1 x2 x3 x4 x5 x6 x7 x8 x9 x10 x11 x12 x13 x14 x15=T (D.lt x1 x0) (T (D.le 0 x1) (T (U (V x1) (N x10)) (T (U (V x1) (N x10)) (T (U (V x1) (N x10)) (T (D.lt 0 (O (N (E x10 (V x1) [])))) (B (fL k x9 x1) fun r7=>T (U (V x1) (N x10)) (T (D.le 0 r7) (T (D.leN (V r7) (N (E x10 (V x1) []))) (T (U (V x1) (N x10)) (B (bH k (D.take (D.subN (N (E x10 (V x1) [])) (V r7)) (D.drop (V r7) (E x10 (V x1) [])))) fun r8=>T (D.leN (N (D.app x13 (r8::([]:LJ)))) 1099511627776) (ay.J5 k j x0 x1 x2 x3 x4 x5 x6 x7 x8 x9 x10 x11 x12 (D.app x13 (r8::([]:LJ))) x14 x15) none) none) none) none) none) (ay.J5 k j x0 x1 x2 x3 x4 x5 x6 x7 x8 x9 x10 x11 x12 x13 x14 x15)) none) none) none) none) (some ((x9,x13),(x2,true))):=(jn _ _).trans (by kernel_rfl)
theorem ay.HZ(k k1:Nat)(x0 x1 x2 x3 x4 x5 x6 x7 x8 x9 x10 x11 x12 x13 x14 x15):ay.J5 k k1 x0 x1 x2 x3 x4 x5 x6 x7 x8 x9 x10 x11 x12 x13 x14 x15=ay.L4 k k1 x0 (Z .i64 (A x1 1)) x2 x3 x4 x5 x6 x7 x8 x9 x10 x11 x12 x13 x14 x15:=(jn _ _).trans (by kernel_rfl)
def fR(k:Nat)(a0:(LI)×(LJ)):Option (((LI)×(LJ))×Int):=call k 102 a0
theorem fR.eq(k:Nat)(a0):fR (k+1) a0=B (bT k (a0.1,a0.2)) fun r0=>T (D.le 0 0) (T (U (V 0) (N r0.2)) (T (U (V 0) (N r0.2)) (T (U (V 0) (N r0.2)) (T (D.le 0 1) (T (D.leN (V 1) (N (E r0.2 (V 0) []))) (T (D.le 0 0) (T (U (V 0) (N r0.2)) (T (U (V 0) (N r0.2)) (T (U (V 0) (N r0.2)) (T (D.eqP (((V 0),0)::([]:List (Nat×Nat))) (((V 0),0)::([]:List (Nat×Nat)))) (B (ay k ((1::([]:LI)),(D.set r0.2 (V 0) (D.take (D.subN (N (E r0.2 (V 0) [])) (V 1)) (D.drop (V 1) (E r0.2 (V 0) []))))) 0) fun r1=>some ((r1.1.1,r1.1.2),r1.2.1)) none) none) none) none) none) none) none) none) none) none) none:=by kernel_rfl
def KA:Code:=cB (cB (cB (bW P 36)))
def IV:Code:=cC (cC (cB (cA KA)))
def Ke(k:Nat):cU (den (resTy P 36)):=a9 0 (JK k 36 (cB KA) (R0 36))
def Km:Code:=cB IV
def aL(k:Nat)(a0:(LI)×(LJ)):Option (((LI)×(LJ))×Bool):=call k 36 a0
def aL.L0(k j:Nat)(x0:Int)(x1:LI)(x2:LJ)(x3:LI)(x4:LJ)(x5:LI)(x6:LJ):Option (((LI)×(LJ))×Bool):=LL k 36 IV j (Ke k) [frm 49 [(2,.pv 0 0),(4,.pv 1 0),(5,.pv 2 0),(6,In x0)]] [.var [Sl 3,Sl 4],.var [Sl 5,Sl 6],.var [Sl 7,Sl 8],Rw x1,Rww x2,Rw x3,Rww x4,Rw x5,Rww x6]
def aL.J1(k k1:Nat)(x0 x1 x2:Int)(x3:LI)(x4:LJ)(x5:LI)(x6:LJ)(x7:LI)(x8:LJ):Option (((LI)×(LJ))×Bool):=JJ k 36 (cB (cB (cB (cB (cC (cA Km)))))) (a9 1 (JK k 36 (cB Km) (LK k 36 IV k1 (Ke k)))) [frm 49 [(2,.pv 0 0),(4,.pv 1 0),(5,.pv 2 0),(6,In x0),(7,In x1),(8,In x2)]] [.var [Sl 3,Sl 4],.var [Sl 5,Sl 6],.var [Sl 7,Sl 8],Rw x3,Rww x4,Rw x5,Rww x6,Rw x7,Rww x8]
theorem aL.eq(k:Nat)(a0):aL (k+1) a0=B (fb k (a0.1,a0.2)) fun r0=>T (D.no r0) (some ((([]:LI),([]:LJ)),false)) (B (bT k (a0.1,a0.2)) fun r1=>B (bT k (a0.1,a0.2)) fun r2=>B (bY k (a0.1,a0.2)) fun r3=>aL.L0 k k (O (N r3)) ([]:LI) ([]:LJ) r1.1 r1.2 r2.1 r2.2):=by kernel_rfl
theorem aL.aT(k j:Nat)(x0 x1 x2 x3 x4 x5 x6):aL.L0 k (j+1) x0 x1 x2 x3 x4 x5 x6=T (D.lt 0 x0) (B (fR k (x5,x6)) fun r4=>T (D.lt r4.2 (O (N r4.1.2))) (T (D.le 0 r4.2) (T (U (V r4.2) (N r4.1.2)) (T (U (V r4.2) (N r4.1.2)) (T (U (V r4.2) (N r4.1.2)) (aL.J1 k j x0 r4.2 (O (N (E r4.1.2 (V r4.2) []))) x1 x2 x3 x4 r4.1.1 r4.1.2) none) none) none) none) (aL.J1 k j x0 r4.2 0 x1 x2 x3 x4 r4.1.1 r4.1.2)) (some ((x3,x4),true)):=(jn _ _).trans (by kernel_rfl)
theorem aL.eM(k k1:Nat)(x0 x1 x2 x3 x4 x5 x6 x7 x8):aL.J1 k k1 x0 x1 x2 x3 x4 x5 x6 x7 x8=T (D.le 0 x1) (T (U (V x1) (N x6)) (T (U (V x1) (N x6)) (T (U (V x1) (N x6)) (T (D.le 0 x2) (T (U (V x2) (N (E x6 (V x1) []))) (T (U (V x1) (N x6)) (T (U (V x2) (N (E x6 (V x1) []))) (aL.L0 k k1 (Z .i64 (M x0 1)) x3 x4 x5 (D.set x6 (V x1) (D.set (E x6 (V x1) []) (V x2) x0)) x7 x8) none) none) none) none) none) none) none) none:=(jn _ _).trans (by kernel_rfl)
def ib(k:Nat)(a0:(LI)×(LJ)):Option Bool:=call k 61 a0
theorem ib.eq(k:Nat)(a0):ib (k+1) a0=B (aC k (a0.1,a0.2)) fun r0=>T r0 (some (D.eq (O (N a0.1)) 0)) (some false):=by kernel_rfl
def I9:Code:=cB (cB (bW P 63))
def cu(k:Nat)(a0:(LI)×(LJ)):Option LI:=call k 63 a0
def cu.L0(k j:Nat)(x0:Int)(x1 x2:LI)(x3:LJ):Option LI:=LL k 63 (cC (cC (cB (cA I9)))) j (a9 0 (JK k 63 (cB I9) (R0 63))) [frm 21 [(1,.pv 0 0),(3,Sl 1),(4,In x0)]] [.var [Sl 2,Sl 3],Rw x1,Ro x2,Roo x3]
theorem cu.eq(k:Nat)(a0):cu (k+1) a0=cu.L0 k k 0 ([]:LI) a0.1 a0.2:=by kernel_rfl
theorem cu.aT(k j:Nat)(x0 x1 x2 x3):cu.L0 k (j+1) x0 x1 x2 x3=T (D.lt x0 (O (N x3))) (T (D.le 0 x0) (T (U (V x0) (N x3)) (T (U (V x0) (N x3)) (T (U (V x0) (N x3)) (T (D.leN (N (D.app x1 (E x3 (V x0) []))) 1099511627776) (cu.L0 k j (Z .i64 (A x0 1)) (D.app x1 (E x3 (V x0) [])) x2 x3) none) none) none) none) none) (some x1):=(jn _ _).trans (by kernel_rfl)
def Ko:Code:=cB (cB (cB (cB (bW P 93))))
def IU:Code:=cC (cC (cB (cA Ko)))
def J9(k:Nat):cU (den (resTy P 93)):=a9 0 (JK k 93 (cB Ko) (R0 93))
def JQ:Code:=cB IU
def bN(k:Nat)(a0:(LI)×(LJ)):Option Bool:=call k 93 a0
def bN.L0(k j:Nat)(x0:Int)(x1:LI)(x2:List Bool):Option Bool:=LL k 93 IU j (J9 k) [frm 40 [(3,Sl 0),(4,Sl 1),(5,In x0)]] [Rw x1,.row Bool.true .bool x2]
def bN.J1(k k1:Nat)(x0:Int)(x1:LI)(x2:List Bool):Option Bool:=JJ k 93 (cB (cC (cA JQ))) (a9 1 (JK k 93 (cB JQ) (LK k 93 IU k1 (J9 k)))) [frm 40 [(3,Sl 0),(4,Sl 1),(5,In x0)]] [Rw x1,.row Bool.true .bool x2]
theorem bN.eq(k:Nat)(a0):bN (k+1) a0=B (aC k (a0.1,a0.2)) fun r0=>T (D.no r0) (some false) (B (cu k (a0.1,a0.2)) fun r1=>T (D.le 0 10) (T (D.le 10 10) (T (D.leN (V 10) 1099511627776) (bN.L0 k k 0 r1 (D.rep (V 10) false)) none) none) none):=by kernel_rfl
theorem bN.aT(k j:Nat)(x0 x1 x2):bN.L0 k (j+1) x0 x1 x2=T (D.lt x0 (O (N x1))) (T (D.le 0 x0) (T (U (V x0) (N x1)) (T (U (V x0) (N x1)) (T (D.lt (O (N x1)) (E x1 (V x0) 0)) (some false) (T (D.le 0 x0) (T (U (V x0) (N x1)) (T (U (V x0) (N x1)) (T (D.le 0 (E x1 (V x0) 0)) (T (U (V (E x1 (V x0) 0)) (N x2)) (T (U (V (E x1 (V x0) 0)) (N x2)) (T (E x2 (V (E x1 (V x0) 0)) false) (some false) (bN.J1 k j x0 x1 x2)) none) none) none) none) none) none)) none) none) none) (some true):=(jn _ _).trans (by kernel_rfl)
theorem bN.eM(k k1:Nat)(x0 x1 x2):bN.J1 k k1 x0 x1 x2=T (D.le 0 x0) (T (U (V x0) (N x1)) (T (U (V x0) (N x1)) (T (D.le 0 (E x1 (V x0) 0)) (T (U (V (E x1 (V x0) 0)) (N x2)) (T (U (V (E x1 (V x0) 0)) (N x2)) (bN.L0 k k1 (Z .i64 (A x0 1)) x1 (D.set x2 (V (E x1 (V x0) 0)) true)) none) none) none) none) none) none:=(jn _ _).trans (by kernel_rfl)
def Jb:Code:=cB (cB (bW P 103))
def cR(k:Nat)(a0:(LI)×(LJ)):Option ((LI)×(LJ)):=call k 103 a0
def cR.L0(k j:Nat)(x0:Int)(x1:LI)(x2:LJ)(x3:LI)(x4:LJ)(x5:LI)(x6:LJ):Option ((LI)×(LJ)):=LL k 103 (cC (cC (cB (cA Jb)))) j (a9 0 (JK k 103 (cB Jb) (R0 103))) [frm 30 [(1,.pv 0 0),(2,.pv 1 0),(3,.pv 2 0),(4,In x0)]] [.var [Sl 3,Sl 4],.var [Sl 5,Sl 6],.var [Sl 7,Sl 8],Ro x1,Roo x2,Rw x3,Rww x4,Rw x5,Rww x6]
theorem cR.eq(k:Nat)(a0):cR (k+1) a0=T (D.leN (N (D.app ([]:LI) a0.1)) 1099511627776) (cR.L0 k k 0 a0.1 a0.2 ([]:LI) ([]:LJ) (D.app ([]:LI) a0.1) ([]:LJ)) none:=by kernel_rfl
theorem cR.aT(k j:Nat)(x0 x1 x2 x3 x4 x5 x6):cR.L0 k (j+1) x0 x1 x2 x3 x4 x5 x6=T (D.lt x0 (O (N x2))) (T (D.le 0 x0) (T (U (V x0) (N x2)) (T (U (V x0) (N x2)) (T (U (V x0) (N x2)) (T (D.leN (N (D.app ([]:LI) (E x2 (V x0) []))) 1099511627776) (T (D.leN (N (D.app x6 ((D.app ([]:LI) (E x2 (V x0) []))::([]:LJ)))) 1099511627776) (cR.L0 k j (Z .i64 (A x0 1)) x1 x2 x3 x4 x5 (D.app x6 ((D.app ([]:LI) (E x2 (V x0) []))::([]:LJ)))) none) none) none) none) none) none) (some (x5,x6)):=(jn _ _).trans (by kernel_rfl)
def dk(k:Nat)(a0:LI)(a1:Int):Option ((LI)×Bool):=call k 167 (a0,a1)
def dk.J0(k:Nat)(x0:Int)(x1:LI):Option ((LI)×Bool):=JJ k 167 (cB (cB (bW P 167))) (R0 167) [frm 52 [(0,Sl 0),(1,In x0)]] [Ro x1]
theorem dk.eq(k:Nat)(a0 a1):dk (k+1) a0 a1=B (aQ k a0) fun r0=>T (D.no r0) (some (([]:LI),false)) (T (D.lt a1 0) (some (([]:LI),false)) (T (D.le (O (N a0)) a1) (some (([]:LI),false)) (T (D.le 0 a1) (T (U (V a1) (N a0)) (T (U (V a1) (N a0)) (B (cS k a0 (Z .i64 (A a1 1))) fun r1=>T (D.eq (E a0 (V a1) 0) r1) (some (([]:LI),false)) (dk.J0 k a1 a0)) none) none) none))):=by kernel_rfl
theorem dk.iy(k:Nat)(x0 x1):dk.J0 k x0 x1=T (D.leN (N (D.app ([]:LI) x1)) 1099511627776) (T (D.le 0 x0) (T (U (V x0) (N (D.app ([]:LI) x1))) (T (U (V x0) (N (D.app ([]:LI) x1))) (T (D.le 0 x0) (T (U (V x0) (N (D.app ([]:LI) x1))) (T (U (V x0) (N (D.app ([]:LI) x1))) (T (D.le 0 x0) (T (U (V x0) (N (D.set (D.app ([]:LI) x1) (V x0) (Z .i64 (M (E (D.app ([]:LI) x1) (V x0) 0) 1))))) (T (U (V x0) (N (D.set (D.app ([]:LI) x1) (V x0) (Z .i64 (M (E (D.app ([]:LI) x1) (V x0) 0) 1))))) (T (D.eq (E (D.set (D.app ([]:LI) x1) (V x0) (Z .i64 (M (E (D.app ([]:LI) x1) (V x0) 0) 1))) (V x0) 0) 0) (T (D.le 0 x0) (T (D.leN (V x0) (N (D.set (D.app ([]:LI) x1) (V x0) (Z .i64 (M (E (D.app ([]:LI) x1) (V x0) 0) 1))))) (some ((D.take (D.subN (V x0) 0) (D.drop 0 (D.set (D.app ([]:LI) x1) (V x0) (Z .i64 (M (E (D.app ([]:LI) x1) (V x0) 0) 1))))),true)) none) none) (some ((D.set (D.app ([]:LI) x1) (V x0) (Z .i64 (M (E (D.app ([]:LI) x1) (V x0) 0) 1))),true))) none) none) none) none) none) none) none) none) none) none:=(jn _ _).trans (by kernel_rfl)
def Jy:Code:=cB (cB (bW P 168))
def IS:Code:=cC (cC (cB (cA Jy)))
def Jl(k:Nat):cU (den (resTy P 168)):=a9 0 (JK k 168 (cB Jy) (R0 168))
def Ka:Code:=cB IS
def JZ:Code:=cB (cC (cA Ka))
def bR(k:Nat)(a0:(LI)×(LJ)):Option LJ:=call k 168 a0
def bR.L0(k j:Nat)(x0:Int)(x1:LJ)(x2:LI)(x3:LJ):Option LJ:=LL k 168 IS j (Jl k) [frm 29 [(1,.pv 0 0),(3,Sl 1),(4,In x0)]] [.var [Sl 2,Sl 3],Rww x1,Ro x2,Roo x3]
def bR.L1(k k1 j:Nat)(x0 x1:Int)(x2:LJ)(x3 x4:LI)(x5:LJ):Option LJ:=LL k 168 (cC (cC (cB (cA JZ)))) j (a9 2 (JK k 168 (cB JZ) (a9 1 (JK k 168 (cB Ka) (LK k 168 IS k1 (Jl k)))))) [frm 29 [(1,.pv 0 0),(3,Sl 1),(4,In x0),(5,Sl 2),(6,In x1)]] [.var [Sl 3,Sl 4],Rww x2,Rw x3,Ro x4,Roo x5]
theorem bR.eq(k:Nat)(a0):bR (k+1) a0=bR.L0 k k 0 ([]:LJ) a0.1 a0.2:=by kernel_rfl
theorem bR.aT(k j:Nat)(x0 x1 x2 x3):bR.L0 k (j+1) x0 x1 x2 x3=T (D.le x0 10) (T (D.le 0 11) (T (D.le 11 11) (T (D.leN (V 11) 1099511627776) (bR.L1 k j k x0 0 x1 (D.rep (V 11) (0:Int)) x2 x3) none) none) none) (some x1):=(jn _ _).trans (by kernel_rfl)
theorem bR.dX(k k1 j:Nat)(x0 x1 x2 x3 x4 x5):bR.L1 k k1 (j+1) x0 x1 x2 x3 x4 x5=T (D.le x1 10) (B (bS k (x4,x5) x0 x1) fun r0=>T (D.le 0 x1) (T (U (V x1) (N x3)) (T (U (V x1) (N x3)) (bR.L1 k k1 j x0 (Z .i64 (A x1 1)) x2 (D.set x3 (V x1) r0) x4 x5) none) none) none) (T (D.leN (N (D.app x2 (x3::([]:LJ)))) 1099511627776) (bR.L0 k k1 (Z .i64 (A x0 1)) (D.app x2 (x3::([]:LJ))) x4 x5) none):=(jn _ _).trans (by kernel_rfl)
def KI:Code:=cB (cB (bW P 169))
def IF:Code:=cC (cC (cB (cA KI)))
def Jd(k:Nat):cU (den (resTy P 169)):=a9 0 (JK k 169 (cB KI) (R0 169))
def JO:Code:=cB IF
def JW:Code:=cB (cC (cA JO))
def bp(k:Nat)(a0:LJ)(a1 a2:LI):Option ((LI)×(LJ)):=call k 169 (a0,a1,a2)
def bp.L0(k j:Nat)(x0:Int)(x1:LJ)(x2 x3 x4:LI)(x5:LJ)(x6:LI)(x7:LJ):Option ((LI)×(LJ)):=LL k 169 IF j (Jd k) [frm 50 [(0,Sl 0),(1,Sl 1),(2,Sl 2),(6,.pv 3 0),(7,.pv 4 0),(8,In x0)]] [Roo x1,Ro x2,Ro x3,.var [Sl 5,Sl 6],.var [Sl 7,Sl 8],Rw x4,Rww x5,Rw x6,Rww x7]
def bp.L1(k k1 j:Nat)(x0 x1:Int)(x2:LJ)(x3 x4 x5 x6:LI)(x7:LJ)(x8:LI)(x9:LJ):Option ((LI)×(LJ)):=LL k 169 (cC (cC (cB (cA JW)))) j (a9 2 (JK k 169 (cB JW) (a9 1 (JK k 169 (cB JO) (LK k 169 IF k1 (Jd k)))))) [frm 50 [(0,Sl 0),(1,Sl 1),(2,Sl 2),(6,.pv 3 0),(7,.pv 4 0),(8,In x0),(9,Sl 5),(10,In x1)]] [Roo x2,Ro x3,Ro x4,.var [Sl 6,Sl 7],.var [Sl 8,Sl 9],Rw x5,Rw x6,Rww x7,Rw x8,Rww x9]
theorem bp.eq(k:Nat)(a0 a1 a2):bp (k+1) a0 a1 a2=T (D.leN (N (D.app ([]:LI) a1)) 1099511627776) (bp.L0 k k 0 a0 a1 a2 ([]:LI) ([]:LJ) (D.app ([]:LI) a1) ([]:LJ)) none:=by kernel_rfl
theorem bp.aT(k j:Nat)(x0 x1 x2 x3 x4 x5 x6 x7):bp.L0 k (j+1) x0 x1 x2 x3 x4 x5 x6 x7=T (D.lt x0 (O (N x3))) (B (cS k x2 x0) fun r0=>bp.L1 k j k x0 r0 x1 x2 x3 ([]:LI) x4 x5 x6 x7) (some (x6,x7)):=(jn _ _).trans (by kernel_rfl)
theorem bp.dX(k k1 j:Nat)(x0 x1 x2 x3 x4 x5 x6 x7 x8 x9):bp.L1 k k1 (j+1) x0 x1 x2 x3 x4 x5 x6 x7 x8 x9=T (D.le 0 x0) (T (U (V x0) (N x4)) (T (U (V x0) (N x4)) (T (D.lt x1 (E x4 (V x0) 0)) (T (D.le 0 x0) (T (U (V x0) (N x2)) (T (U (V x0) (N x2)) (T (U (V x0) (N x2)) (T (D.le 0 x1) (T (U (V x1) (N (E x2 (V x0) []))) (T (U (V x0) (N x2)) (T (U (V x1) (N (E x2 (V x0) []))) (T (D.leN (N (D.app x5 ((E (E x2 (V x0) []) (V x1) 0)::([]:LI)))) 1099511627776) (bp.L1 k k1 j x0 (Z .i64 (A x1 1)) x2 x3 x4 (D.app x5 ((E (E x2 (V x0) []) (V x1) 0)::([]:LI))) x6 x7 x8 x9) none) none) none) none) none) none) none) none) none) (T (D.leN (N (D.app x9 (x5::([]:LJ)))) 1099511627776) (bp.L0 k k1 (Z .i64 (A x0 1)) x2 x3 x4 x6 x7 x8 (D.app x9 (x5::([]:LJ)))) none)) none) none) none:=(jn _ _).trans (by kernel_rfl)
def KP:Code:=cB (cB (cB (cB (cB (cB (bW P 149))))))
def IC:Code:=cC (cC (cA KP))
def JR:Code:=cB KP
def Ki(k:Nat):cU (den (resTy P 149)):=a9 0 (JK k 149 JR (R0 149))
def JS:Code:=cB IC
def Jf(k k1:Nat):cU (den (resTy P 149)):=LK k 149 IC k1 (Ki k)
def aX(k:Nat)(a0:(LI)×(LJ))(a1:Int):Option (((LI)×(LJ))×Int):=call k 149 (a0,a1)
def aX.L0(k j:Nat)(x0 x1:Int)(x2:LI)(x3:LJ)(x4:LI)(x5:LJ)(x6 x7:LI):Option (((LI)×(LJ))×Int):=LL k 149 IC j (Ki k) [frm 121 [(4,.pv 0 0),(6,.pv 1 0),(8,Sl 2),(10,Sl 3),(11,In x0),(12,In x1)]] [.var [Sl 4,Sl 5],.var [Sl 6,Sl 7],Rw x2,Rww x3,Rw x4,Rww x5,Rw x6,Rw x7]
def aX.J1(k k1:Nat)(x0 x1:Int)(x2:LI)(x3:LJ)(x4:LI)(x5:LJ)(x6 x7:LI):Option (((LI)×(LJ))×Int):=JJ k 149 JS (Jf k k1) [frm 121 [(4,.pv 0 0),(6,.pv 1 0),(8,Sl 2),(10,Sl 3),(11,In x0),(12,In x1)]] [.var [Sl 4,Sl 5],.var [Sl 6,Sl 7],Rw x2,Rww x3,Rw x4,Rww x5,Rw x6,Rw x7]
def aX.J2(k:Nat)(x0:Int)(x1:LI)(x2:LJ)(x3:LI)(x4:LJ)(x5 x6:LI):Option (((LI)×(LJ))×Int):=JJ k 149 JR (R0 149) [frm 121 [(4,.pv 0 0),(6,.pv 1 0),(8,Sl 2),(10,Sl 3),(11,In x0)]] [.var [Sl 4,Sl 5],.var [Sl 6,Sl 7],Rw x1,Rww x2,Rw x3,Rww x4,Rw x5,Rw x6]
def aX.J3(k k1:Nat)(x0 x1:Int)(x2:LI)(x3:LJ)(x4:LI)(x5:LJ)(x6 x7:LI):Option (((LI)×(LJ))×Int):=JJ k 149 (cB (cB (cB (cC JS)))) (a9 1 (Jf k k1)) [frm 121 [(4,.pv 0 0),(6,.pv 1 0),(8,Sl 2),(10,Sl 3),(11,In x0),(12,In x1)]] [.var [Sl 4,Sl 5],.var [Sl 6,Sl 7],Rw x2,Rww x3,Rw x4,Rww x5,Rw x6,Rw x7]
theorem aX.eq(k:Nat)(a0 a1):aX (k+1) a0 a1=B (bV k (a0.1,a0.2)) fun r0=>B (dk k a0.1 a1) fun r1=>B (bR k (a0.1,a0.2)) fun r2=>T (D.le 0 a1) (T (U (V a1) (N a0.1)) (T (U (V a1) (N a0.1)) (aX.L0 k k a1 (Z .i64 (M (E a0.1 (V a1) 0) 1)) r1.1 r2 ([]:LI) ([]:LJ) r0.1.1 r0.1.2) none) none) none:=by kernel_rfl
theorem aX.aT(k j:Nat)(x0 x1 x2 x3 x4 x5 x6 x7):aX.L0 k (j+1) x0 x1 x2 x3 x4 x5 x6 x7=T (D.le 0 x0) (T (U (V x0) (N x3)) (T (U (V x0) (N x3)) (T (U (V x0) (N x3)) (T (D.le 0 (Z .i64 (A x1 1))) (T (U (V (Z .i64 (A x1 1))) (N (E x3 (V x0) []))) (T (U (V x0) (N x3)) (T (U (V (Z .i64 (A x1 1))) (N (E x3 (V x0) []))) (T (D.lt 0 (E (E x3 (V x0) []) (V (Z .i64 (A x1 1))) 0)) (aX.J1 k j x0 x1 x2 x3 x4 x5 x6 x7) (T (D.le 0 (Z .i64 (A x0 1))) (T (U (V (Z .i64 (A x0 1))) (N x3)) (T (U (V (Z .i64 (A x0 1))) (N x3)) (T (U (V (Z .i64 (A x0 1))) (N x3)) (T (D.le 0 x1) (T (U (V x1) (N (E x3 (V (Z .i64 (A x0 1))) []))) (T (U (V (Z .i64 (A x0 1))) (N x3)) (T (U (V x1) (N (E x3 (V (Z .i64 (A x0 1))) []))) (T (D.lt 0 (E (E x3 (V (Z .i64 (A x0 1))) []) (V x1) 0)) (aX.J1 k j x0 x1 x2 x3 x4 x5 x6 x7) (aX.J2 k x0 x2 x3 x4 x5 x6 x7)) none) none) none) none) none) none) none) none)) none) none) none) none) none) none) none) none:=(jn _ _).trans (by kernel_rfl)
theorem aX.eM(k k1:Nat)(x0 x1 x2 x3 x4 x5 x6 x7):aX.J1 k k1 x0 x1 x2 x3 x4 x5 x6 x7=T (D.le 0 x0) (T (U (V x0) (N x3)) (T (U (V x0) (N x3)) (T (U (V x0) (N x3)) (T (D.le 0 (Z .i64 (A x1 1))) (T (U (V (Z .i64 (A x1 1))) (N (E x3 (V x0) []))) (T (U (V x0) (N x3)) (T (U (V (Z .i64 (A x1 1))) (N (E x3 (V x0) []))) (T (D.le 0 (Z .i64 (A x0 1))) (T (U (V (Z .i64 (A x0 1))) (N x3)) (T (U (V (Z .i64 (A x0 1))) (N x3)) (T (U (V (Z .i64 (A x0 1))) (N x3)) (T (D.le 0 x1) (T (U (V x1) (N (E x3 (V (Z .i64 (A x0 1))) []))) (T (U (V (Z .i64 (A x0 1))) (N x3)) (T (U (V x1) (N (E x3 (V (Z .i64 (A x0 1))) []))) (T (D.lt 0 (E (E x3 (V (Z .i64 (A x0 1))) []) (V x1) 0)) (T (D.eq (E (E x3 (V x0) []) (V (Z .i64 (A x1 1))) 0) 0) (T (D.le 0 x0) (T (U (V x0) (N x3)) (T (U (V x0) (N x3)) (T (U (V x0) (N x3)) (T (D.le 0 x1) (T (U (V x1) (N (E x3 (V x0) []))) (T (U (V x0) (N x3)) (T (U (V x1) (N (E x3 (V x0) []))) (aX.J3 k k1 (Z .i64 (A x0 1)) x1 x2 (D.set x3 (V x0) (D.set (E x3 (V x0) []) (V x1) (E (E x3 (V (Z .i64 (A x0 1))) []) (V x1) 0))) x4 x5 x6 x7) none) none) none) none) none) none) none) none) (T (D.le (E (E x3 (V (Z .i64 (A x0 1))) []) (V x1) 0) (E (E x3 (V x0) []) (V (Z .i64 (A x1 1))) 0)) (T (D.le 0 x0) (T (U (V x0) (N x3)) (T (U (V x0) (N x3)) (T (U (V x0) (N x3)) (T (D.le 0 x1) (T (U (V x1) (N (E x3 (V x0) []))) (T (U (V x0) (N x3)) (T (U (V x1) (N (E x3 (V x0) []))) (aX.J3 k k1 (Z .i64 (A x0 1)) x1 x2 (D.set x3 (V x0) (D.set (E x3 (V x0) []) (V x1) (E (E x3 (V (Z .i64 (A x0 1))) []) (V x1) 0))) x4 x5 x6 x7) none) none) none) none) none) none) none) none) (T (D.le 0 x0) (T (U (V x0) (N x3)) (T (U (V x0) (N x3)) (T (U (V x0) (N x3)) (T (D.le 0 x1) (T (U (V x1) (N (E x3 (V x0) []))) (T (U (V x0) (N x3)) (T (U (V x1) (N (E x3 (V x0) []))) (aX.J3 k k1 x0 (Z .i64 (A x1 1)) x2 (D.set x3 (V x0) (D.set (E x3 (V x0) []) (V x1) (E (E x3 (V x0) []) (V (Z .i64 (A x1 1))) 0))) x4 x5 x6 x7) none) none) none) none) none) none) none) none))) (T (D.le 0 x0) (T (U (V x0) (N x3)) (T (U (V x0) (N x3)) (T (U (V x0) (N x3)) (T (D.le 0 x1) (T (U (V x1) (N (E x3 (V x0) []))) (T (U (V x0) (N x3)) (T (U (V x1) (N (E x3 (V x0) []))) (aX.J3 k k1 x0 (Z .i64 (A x1 1)) x2 (D.set x3 (V x0) (D.set (E x3 (V x0) []) (V x1) (E (E x3 (V x0) []) (V (Z .i64 (A x1 1))) 0))) x4 x5 x6 x7) none) none) none) none) none) none) none) none)) none) none) none) none) none) none) none) none) none) none) none) none) none) none) none) none:=(jn _ _).trans (by kernel_rfl)
theorem aX.kC(k:Nat)(x0 x1 x2 x3 x4 x5 x6):aX.J2 k x0 x1 x2 x3 x4 x5 x6=B (dk k x5 x0) fun r3=>B (bp k x2 x1 r3.1) fun r4=>some ((r4.1,r4.2),x0):=(jn _ _).trans (by kernel_rfl)
theorem aX.lA(k k1:Nat)(x0 x1 x2 x3 x4 x5 x6 x7):aX.J3 k k1 x0 x1 x2 x3 x4 x5 x6 x7=T (D.le 0 x0) (T (U (V x0) (N x3)) (T (U (V x0) (N x3)) (T (U (V x0) (N x3)) (T (D.le 0 x1) (T (U (V x1) (N (E x3 (V x0) []))) (T (U (V x0) (N x3)) (T (U (V x1) (N (E x3 (V x0) []))) (aX.L0 k k1 x0 x1 x2 (D.set x3 (V x0) (D.set (E x3 (V x0) []) (V x1) 0)) x4 x5 x6 x7) none) none) none) none) none) none) none) none:=(jn _ _).trans (by kernel_rfl)
def jy(k:Nat)(a0:(LI)×(LJ)):Option (((LI)×(LJ))×Int):=call k 104 a0
theorem jy.eq(k:Nat)(a0):jy (k+1) a0=B (cR k (a0.1,a0.2)) fun r0=>T (D.le 0 0) (T (U (V 0) (N r0.2)) (T (U (V 0) (N r0.2)) (T (U (V 0) (N r0.2)) (T (D.le 0 1) (T (D.leN (V 1) (N (E r0.2 (V 0) []))) (T (D.le 0 0) (T (U (V 0) (N r0.2)) (T (U (V 0) (N r0.2)) (T (U (V 0) (N r0.2)) (T (D.eqP (((V 0),0)::([]:List (Nat×Nat))) (((V 0),0)::([]:List (Nat×Nat)))) (B (aX k ((1::([]:LI)),(D.set r0.2 (V 0) (D.take (D.subN (N (E r0.2 (V 0) [])) (V 1)) (D.drop (V 1) (E r0.2 (V 0) []))))) 0) fun r1=>some ((r1.1.1,r1.1.2),r1.2)) none) none) none) none) none) none) none) none) none) none) none:=by kernel_rfl
def JB:Code:=cB (cB (bW P 37))
def Je:Code:=cB (cB (cB JB))
def aZ(k:Nat)(a0:(LI)×(LJ)):Option (((LI)×(LJ))×Bool):=call k 37 a0
def aZ.J0(k:Nat)(x0:LI)(x1:LJ)(x2:LI)(x3:LJ):Option (((LI)×(LJ))×Bool):=JJ k 37 JB (R0 37) [frm 52 [(1,.pv 0 0),(2,.pv 1 0)]] [.var [Sl 2,Sl 3],.var [Sl 4,Sl 5],Ro x0,Roo x1,Rw x2,Rww x3]
def aZ.L1(k j:Nat)(x0:Int)(x1:LI)(x2:LJ)(x3:LI)(x4:LJ)(x5:LI)(x6:LJ):Option (((LI)×(LJ))×Bool):=LL k 37 (cC (cC (cB (cA Je)))) j (a9 0 (JK k 37 (cB Je) (R0 37))) [frm 52 [(2,.pv 0 0),(4,.pv 1 0),(5,.pv 2 0),(7,In x0)]] [.var [Sl 3,Sl 4],.var [Sl 5,Sl 6],.var [Sl 7,Sl 8],Rw x1,Rww x2,Rw x3,Rww x4,Rw x5,Rww x6]
theorem aZ.eq(k:Nat)(a0):aZ (k+1) a0=B (ib k (a0.1,a0.2)) fun r0=>T (D.no r0) (some ((([]:LI),([]:LJ)),false)) (B (bN k (a0.1,a0.2)) fun r1=>T (D.no r1) (some ((([]:LI),([]:LJ)),false)) (aZ.J0 k a0.1 a0.2 ([]:LI) ([]:LJ))):=by kernel_rfl
theorem aZ.iy(k:Nat)(x0 x1 x2 x3):aZ.J0 k x0 x1 x2 x3=B (cR k (x0,x1)) fun r2=>B (cR k (x0,x1)) fun r3=>B (cu k (x0,x1)) fun r4=>aZ.L1 k k (O (N r4)) x2 x3 r2.1 r2.2 r3.1 r3.2:=(jn _ _).trans (by kernel_rfl)
theorem aZ.dX(k j:Nat)(x0 x1 x2 x3 x4 x5 x6):aZ.L1 k (j+1) x0 x1 x2 x3 x4 x5 x6=T (D.le 1 x0) (B (jy k (x5,x6)) fun r5=>T (D.le 0 r5.2) (T (U (V r5.2) (N x4)) (T (U (V r5.2) (N x4)) (T (D.le 0 r5.2) (T (U (V r5.2) (N x6)) (T (U (V r5.2) (N x6)) (T (U (V r5.2) (N x6)) (T (U (V r5.2) (N x4)) (T (D.le 0 (Z .i64 (M (O (N (E x6 (V r5.2) []))) 1))) (T (U (V (Z .i64 (M (O (N (E x6 (V r5.2) []))) 1))) (N (E x4 (V r5.2) []))) (T (U (V r5.2) (N x4)) (T (U (V (Z .i64 (M (O (N (E x6 (V r5.2) []))) 1))) (N (E x4 (V r5.2) []))) (aZ.L1 k j (Z .i64 (M x0 1)) x1 x2 x3 (D.set x4 (V r5.2) (D.set (E x4 (V r5.2) []) (V (Z .i64 (M (O (N (E x6 (V r5.2) []))) 1))) x0)) r5.1.1 r5.1.2) none) none) none) none) none) none) none) none) none) none) none) none) (some ((x3,x4),true)):=(jn _ _).trans (by kernel_rfl)
def fB(k:Nat)(x0 x1 x2:Int)(x3:LI):Option (((LI)×(LJ))×(PUnit×(Int×Int))):=IO_ k 78 1 0 1 [.var [Sl 1,In 0,In 0],.row Bool.false (.int .u8) []] [[.pv 0 0,In x0],[.pv 0 0,Sl 1]] [.var [Sl 1,In x1,In x2],.row Bool.false (.int .u8) x3]
theorem fB.eq(k:Nat)(x0 x1 x2 x3):fB (k+1) x0 x1 x2 x3=B (ch k x0 x1 x2 x3) fun r0=>B (aP k r0.2.2.1 r0.2.2.2 r0.1 ([]:LI) x3) fun r1=>B (aC k (r1.1.1,r1.1.2)) fun r2=>T (D.no r2) (some ((([]:LI),((1::(2::(2::([]:LI))))::((3::([]:LI))::([]:LJ)))),((),(r1.2.2.1,r1.2.2.2)))) (some ((r1.1.1,r1.1.2),((),(r1.2.2.1,r1.2.2.2)))):=by kernel_rfl
def KR:Code:=cB (cB (bW P 49))
def Ir:Code:=cC (cC (cB (cA KR)))
def KU:Code:=cB KR
def Jj:Code:=cB (bW P 38)
def Ha:Code:=cA Jj
def KO:Code:=cB Jj
def Jn(k:Nat):cU (den (resTy P 38)):=lQ (fI P (o9 P 49) (fun z6 z7=>St.force (St.put z7 (Go.Oper.dst (tw (Code.ops Ha) 1)) (py z6)) ((fun z8 z9=>iH (Code.ops Ha) 1 (tw (Code.ops Ha) 1) z9 ((fun z10 z11=>fz P cfg (mJ P cfg ext (k+1)) Option.none (Code.ops Ha) [2] (trN 2) z11 (fun z12 z13=>JK (k+1) 38 KO (R0 38) .normal z13)) z8)) (Touch.mk [] [] [] Bool.true))))
def KQ(k:Nat):cU (den (resTy P 38)):=a9 0 (JK k 49 KU (Jn k))
def ar(k:Nat)(a0:LI):Option (((LI)×(LJ))×Int):=call k 38 a0
def ar.L0(k j:Nat)(x0 x1 x2:Int)(x3 x4:LI)(x5:LJ):Option (((LI)×(LJ))×Int):=LL k 49 Ir j (KQ k) [frm 32 [(0,Sl 0),(3,In x0),(4,In x1)],frm 18 [(0,Sl 0),(1,.tup []),(2,.pv 1 0),(3,In x2),(4,.tup []),(5,.tup []),(6,Sl 0),(7,.tup []),(8,.tup []),(9,.tup []),(10,.tup []),(11,.tup []),(12,.tup []),(13,.tup []),(14,.tup []),(15,.tup []),(16,.tup []),(17,.tup [])]] [.row Bool.false (.int .u8) x3,.var [Sl 2,Sl 3],Rw x4,Rww x5]
def ar.J1(k k1:Nat)(x0 x1 x2:Int)(x3 x4:LI)(x5:LJ):Option (((LI)×(LJ))×Int):=JJ k 49 (cB Ir) (LK k 49 Ir k1 (KQ k)) [frm 32 [(0,Sl 0),(3,In x0),(4,In x1)],frm 18 [(0,Sl 0),(1,.tup []),(2,.pv 1 0),(3,In x2),(4,.tup []),(5,.tup []),(6,Sl 0),(7,.tup []),(8,.tup []),(9,.tup []),(10,.tup []),(11,.tup []),(12,.tup []),(13,.tup []),(14,.tup []),(15,.tup []),(16,.tup []),(17,.tup [])]] [.row Bool.false (.int .u8) x3,.var [Sl 2,Sl 3],Rw x4,Rww x5]
def ar.J2(k:Nat)(x0 x1:Int)(x2 x3:LI)(x4:LJ):Option (((LI)×(LJ))×Int):=JJ k 49 KU (Jn k) [frm 32 [(0,Sl 0),(3,In x0)],frm 18 [(0,Sl 0),(1,.tup []),(2,.pv 1 0),(3,In x1),(4,.tup []),(5,.tup []),(6,Sl 0),(7,.tup []),(8,.tup []),(9,.tup []),(10,.tup []),(11,.tup []),(12,.tup []),(13,.tup []),(14,.tup []),(15,.tup []),(16,.tup []),(17,.tup [])]] [.row Bool.false (.int .u8) x2,.var [Sl 2,Sl 3],Rw x3,Rww x4]
def ar.J3(k:Nat)(x0 x1:Int)(x2:LI)(x3:LJ)(x4 x5:LI)(x6:LJ):Option (((LI)×(LJ))×Int):=JJ (k+1) 38 (cB (cB KO)) (R0 38) [frm 18 [(2,.pv 0 0),(4,.pv 1 0),(5,.pv 2 0)]] [.var [Sl 3,Sl 4],.var [Sl 5,In x0,In x1],.var [Sl 6,Sl 7],Rw x2,Rww x3,.row Bool.false (.int .u8) x4,Rw x5,Rww x6]
theorem ar.eq(k:Nat)(a0):ar (k+2) a0=ar.L0 k k (Z .i64 (A 26583 (O (N a0)))) 0 0 a0 ([]:LI) ([]:LJ):=by kernel_rfl
theorem ar.aT(k j:Nat)(x0 x1 x2 x3 x4 x5):ar.L0 k (j+1) x0 x1 x2 x3 x4 x5=T (D.lt x1 (O (N x3))) (T (D.lt x1 4000) (ar.J1 k j x0 x1 x2 x3 x4 x5) (ar.J2 k x0 x2 x3 x4 x5)) (ar.J2 k x0 x2 x3 x4 x5):=(jn _ _).trans (by kernel_rfl)
theorem ar.eM(k k1:Nat)(x0 x1 x2 x3 x4 x5):ar.J1 k k1 x0 x1 x2 x3 x4 x5=T (D.le 0 x1) (T (U (V x1) (N x3)) (T (U (V x1) (N x3)) (ar.L0 k k1 (D.andI .i64 (Z .i64 (A (Z .i64 (A (Z .i64 (D.mul x0 131)) (Z .i64 (E x3 (V x1) 0)))) 7)) 1073741823) (Z .i64 (A x1 1)) x2 x3 x4 x5) none) none) none:=(jn _ _).trans (by kernel_rfl)
theorem ar.kC(k:Nat)(x0 x1 x2 x3 x4):ar.J2 k x0 x1 x2 x3 x4=B (fB (k+1) 8 0 x0 x2) fun r0=>B (bP (k+1) 8 r0.2.2.1 r0.2.2.2 x2) fun r1=>T r1.1 (B (eN (k+1) 8 r1.2.2.1 r1.2.2.2 x2) fun r2=>ar.J3 k r2.2.2.1 r2.2.2.2 x3 x4 x2 r2.1.1 r2.1.2) (ar.J3 k r1.2.2.1 r1.2.2.2 x3 x4 x2 r0.1.1 r0.1.2):=(jn _ _).trans (by kernel_rfl)
theorem ar.lA(k:Nat)(x0 x1 x2 x3 x4 x5 x6):ar.J3 k x0 x1 x2 x3 x4 x5 x6=B (cr (k+1) x0 x1 (5::(6::(9::(3::(0::(10::(9::([]:LI)))))))) x4) fun r3=>some ((x5,x6),r3.1):=(jn _ _).trans (by kernel_rfl)
def gV(k:Nat)(x0:Int):Option (Bool×PUnit):=IO_ k 117 0 0 0 [] [[In x0],[]] []
theorem gV.eq(k:Nat)(x0):gV (k+1) x0=B (de k x0 1 9) fun r0=>some ((D.no r0),()):=by kernel_rfl
def Kd:Code:=cB (bW P 119)
def aG(k:Nat)(x0:LI):Option (Int×PUnit):=IO_ k 119 0 0 0 [Ro []] [[Sl 0,.fn 117 [] []],[Sl 0]] [Ro x0]
def aG.L0(k j:Nat)(x0 x1:Int)(x2:LI):Option (Int×PUnit):=LL k 119 (cC (cC (cB (cA Kd)))) j (a9 0 (JK k 119 (cB Kd) (lQ (fI P (o9 P 119) (fun z6 z7=>nE P 119 0 0 0 [Ro []] z6 z7))))) [frm 19 [(0,Sl 0),(1,.fn 117 [] []),(7,In x0),(8,In x1)],[Sl 0]] [Ro x2]
theorem aG.eq(k:Nat)(x0):aG (k+1) x0=aG.L0 k k (O (N x0)) 0 x0:=by kernel_rfl
theorem aG.aT(k j:Nat)(x0 x1 x2):aG.L0 k (j+1) x0 x1 x2=T (D.lt x1 x0) (T (D.le 0 x1) (T (U (V x1) (N x2)) (T (U (V x1) (N x2)) (B (gV k (E x2 (V x1) 0)) fun r0=>T r0.1 (some (x1,())) (aG.L0 k j x0 (Z .i64 (A x1 1)) x2)) none) none) none) (some ((-1:Int),())):=(jn _ _).trans (by kernel_rfl)
def bJ(k:Nat)(x0:LI):Option (Bool×PUnit):=IO_ k 116 0 0 0 [Ro []] [[Sl 0,.fn 117 [] []],[Sl 0]] [Ro x0]
theorem bJ.eq(k:Nat)(x0):bJ (k+1) x0=B (aG k x0) fun r0=>some ((D.le 0 r0.1),()):=by kernel_rfl
def gD(k:Nat)(a0:LI):Option Bool:=call k 50 a0
theorem gD.eq(k:Nat)(a0):gD (k+1) a0=T (D.le (O (N a0)) 9) (B (bJ k a0) fun r0=>some (D.no r0.1)) (some false):=by kernel_rfl
def cW(k:Nat)(x0 x1:Int):Option (Bool×Int):=IO_ k 150 1 0 1 [.var [In 0]] [[In x0,.pv 0 0],[.pv 0 0]] [.var [In x1]]
theorem cW.eq(k:Nat)(x0 x1):cW (k+1) x0 x1=some ((D.lt x1 x0),x1):=by kernel_rfl
def Kg:Code:=cB (bW P 119)
def au(k:Nat)(x0:Int)(x1:LI):Option (Int×Int):=IO_ k 119 1 0 1 [.var [In 0],Ro []] [[Sl 1,.fn 150 [] [.pv 0 0]],[.pv 0 0,Sl 1]] [.var [In x0],Ro x1]
def au.L0(k j:Nat)(x0 x1:Int)(x2:LI)(x3:Int):Option (Int×Int):=LL k 119 (cC (cC (cB (cA Kg)))) j (a9 0 (JK k 119 (cB Kg) (lQ (fI P (o9 P 119) (fun z6 z7=>nE P 119 1 0 1 [.var [In 0],Ro []] z6 z7))))) [frm 19 [(0,Sl 0),(1,.fn 150 [] [.pv 1 0]),(7,In x0),(8,In x1)],[.pv 1 0,Sl 0]] [Ro x2,.var [In x3]]
theorem au.eq(k:Nat)(x0 x1):au (k+1) x0 x1=au.L0 k k (O (N x1)) 0 x1 x0:=by kernel_rfl
theorem au.aT(k j:Nat)(x0 x1 x2 x3):au.L0 k (j+1) x0 x1 x2 x3=T (D.lt x1 x0) (T (D.le 0 x1) (T (U (V x1) (N x2)) (T (U (V x1) (N x2)) (B (cW k (E x2 (V x1) 0) x3) fun r0=>T r0.1 (some (x1,r0.2)) (au.L0 k j x0 (Z .i64 (A x1 1)) x2 r0.2)) none) none) none) (some ((-1:Int),x3)):=(jn _ _).trans (by kernel_rfl)
def bh(k:Nat)(x0:Int)(x1:LI):Option (Bool×Int):=IO_ k 116 1 0 1 [.var [In 0],Ro []] [[Sl 1,.fn 150 [] [.pv 0 0]],[.pv 0 0,Sl 1]] [.var [In x0],Ro x1]
theorem bh.eq(k:Nat)(x0 x1):bh (k+1) x0 x1=B (au k x0 x1) fun r0=>some ((D.le 0 r0.1),r0.2):=by kernel_rfl
def JP:Code:=cB (cB (bW P 107))
def Kv:Code:=cB JP
def bo(k:Nat)(a0:LI)(a1:Int):Option ((LI)×Bool):=call k 107 (a0,a1)
def bo.J0(k:Nat)(x0:LI)(x1:Int):Option ((LI)×Bool):=JJ k 107 JP (R0 107) [frm 38 [(0,Sl 0),(3,.pv 1 0)]] [Ro x0,.var [In x1]]
def bo.L1(k j:Nat)(x0 x1 x2:Int)(x3 x4:LI):Option ((LI)×Bool):=LL k 107 (cC (cC (cB (cA Kv)))) j (a9 0 (JK k 107 (cB Kv) (R0 107))) [frm 38 [(3,.pv 0 0),(6,Sl 1),(23,Sl 2),(24,In x0),(25,In x1)]] [.var [In x2],Rw x3,Ro x4]
theorem bo.eq(k:Nat)(a0 a1):bo (k+1) a0 a1=B (gD k a0) fun r0=>T (D.no r0) (some (([]:LI),false)) (B (de k a1 1 9) fun r1=>T (D.no r1) (some (([]:LI),false)) (B (bh k a1 a0) fun r2=>T r2.1 (some (([]:LI),false)) (bo.J0 k a0 r2.2))):=by kernel_rfl
theorem bo.iy(k:Nat)(x0 x1):bo.J0 k x0 x1=bo.L1 k k (O (N x0)) 0 x1 ([]:LI) x0:=(jn _ _).trans (by kernel_rfl)
theorem bo.dX(k j:Nat)(x0 x1 x2 x3 x4):bo.L1 k (j+1) x0 x1 x2 x3 x4=T (D.lt x1 x0) (T (D.le 0 x1) (T (U (V x1) (N x4)) (T (U (V x1) (N x4)) (T (D.leN (N (D.app x3 ((Z .i64 (M (Z .i64 (A x2 1)) (E x4 (V x1) 0)))::([]:LI)))) 1099511627776) (bo.L1 k j x0 (Z .i64 (A x1 1)) x2 (D.app x3 ((Z .i64 (M (Z .i64 (A x2 1)) (E x4 (V x1) 0)))::([]:LI))) x4) none) none) none) none) (some (x3,true)):=(jn _ _).trans (by kernel_rfl)
def bk(k:Nat)(x0:LI):Option (PUnit×(LI)):=IO_ k 151 0 1 1 [Rw []] [[Sl 0],[Sl 0]] [Rw x0]
def bk.L0(k j:Nat)(x0 x1:Int)(x2:LI):Option (PUnit×(LI)):=LL k 151 (cC (cC (cB (bW P 151)))) j (a9 0 (lQ (fI P (o9 P 151) (fun z3 z4=>nE P 151 0 1 1 [Rw []] z3 z4)))) [frm 28 [(0,Sl 0),(2,In x0),(3,In x1)],[Sl 0]] [Rw x2]
theorem bk.eq(k:Nat)(x0):bk (k+1) x0=bk.L0 k k 0 (Z .i64 (M (O (N x0)) 1)) x0:=by kernel_rfl
theorem bk.aT(k j:Nat)(x0 x1 x2):bk.L0 k (j+1) x0 x1 x2=T (D.lt x0 x1) (T (D.le 0 x1) (T (U (V x1) (N x2)) (T (U (V x1) (N x2)) (T (D.le 0 x0) (T (U (V x0) (N x2)) (T (U (V x0) (N x2)) (T (D.le 0 x0) (T (U (V x0) (N x2)) (T (U (V x0) (N x2)) (T (D.le 0 x1) (T (U (V x1) (N (D.set x2 (V x0) (E x2 (V x1) 0)))) (T (U (V x1) (N (D.set x2 (V x0) (E x2 (V x1) 0)))) (bk.L0 k j (Z .i64 (A x0 1)) (Z .i64 (M x1 1)) (D.set (D.set x2 (V x0) (E x2 (V x1) 0)) (V x1) (E x2 (V x0) 0))) none) none) none) none) none) none) none) none) none) none) none) none) (some ((),x2)):=(jn _ _).trans (by kernel_rfl)
def gu(k:Nat)(a0:LI):Option LI:=call k 108 a0
theorem gu.eq(k:Nat)(a0):gu (k+1) a0=B (gD k a0) fun r0=>T (D.no r0) (some ([]:LI)) (B (bH k a0) fun r1=>B (bk k r1) fun r2=>some r2.2):=by kernel_rfl
def dW(k:Nat)(a0:LI)(a1:Int):Option ((LI)×Bool):=call k 42 (a0,a1)
theorem dW.eq(k:Nat)(a0 a1):dW (k+1) a0 a1=B (bo k a0 a1) fun r0=>T (D.no r0.2) (some (([]:LI),false)) (B (gu k r0.1) fun r1=>some (r1,true)):=by kernel_rfl
def JT:Code:=cB (cB (bW P 73))
def fu(k:Nat)(a0:Int):Option LI:=call k 73 a0
def fu.L0(k j:Nat)(x0 x1:Int)(x2:LI):Option LI:=LL k 73 (cC (cC (cB (cA JT)))) j (a9 0 (JK k 73 (cB JT) (R0 73))) [frm 17 [(3,Sl 0),(6,In x0),(7,In x1)]] [Rw x2]
theorem fu.eq(k:Nat)(a0):fu (k+1) a0=fu.L0 k k a0 0 ([]:LI):=by kernel_rfl
theorem fu.aT(k j:Nat)(x0 x1 x2):fu.L0 k (j+1) x0 x1 x2=T (D.lt x1 x0) (T (D.leN (N (D.app x2 ((Z .i64 (A x1 1))::([]:LI)))) 1099511627776) (fu.L0 k j x0 (Z .i64 (A x1 1)) (D.app x2 ((Z .i64 (A x1 1))::([]:LI)))) none) (some x2):=(jn _ _).trans (by kernel_rfl)
def dy(k:Nat)(x0 x1:Int):Option (Bool×Int):=IO_ k 147 1 0 1 [.var [In 0]] [[In x0,.pv 0 0],[.pv 0 0]] [.var [In x1]]
theorem dy.eq(k:Nat)(x0 x1):dy (k+1) x0 x1=some ((D.lt x1 x0),x1):=by kernel_rfl
def Kr:Code:=cB (bW P 119)
def ak(k:Nat)(x0:Int)(x1:LI):Option (Int×Int):=IO_ k 119 1 0 1 [.var [In 0],Ro []] [[Sl 1,.fn 147 [] [.pv 0 0]],[.pv 0 0,Sl 1]] [.var [In x0],Ro x1]
def ak.L0(k j:Nat)(x0 x1:Int)(x2:LI)(x3:Int):Option (Int×Int):=LL k 119 (cC (cC (cB (cA Kr)))) j (a9 0 (JK k 119 (cB Kr) (lQ (fI P (o9 P 119) (fun z6 z7=>nE P 119 1 0 1 [.var [In 0],Ro []] z6 z7))))) [frm 19 [(0,Sl 0),(1,.fn 147 [] [.pv 1 0]),(7,In x0),(8,In x1)],[.pv 1 0,Sl 0]] [Ro x2,.var [In x3]]
theorem ak.eq(k:Nat)(x0 x1):ak (k+1) x0 x1=ak.L0 k k (O (N x1)) 0 x1 x0:=by kernel_rfl
theorem ak.aT(k j:Nat)(x0 x1 x2 x3):ak.L0 k (j+1) x0 x1 x2 x3=T (D.lt x1 x0) (T (D.le 0 x1) (T (U (V x1) (N x2)) (T (U (V x1) (N x2)) (B (dy k (E x2 (V x1) 0) x3) fun r0=>T r0.1 (some (x1,r0.2)) (ak.L0 k j x0 (Z .i64 (A x1 1)) x2 r0.2)) none) none) none) (some ((-1:Int),x3)):=(jn _ _).trans (by kernel_rfl)
def Ks:Code:=cB (bW P 99)
def bg(k:Nat)(x0:Int)(x1:LI)(x2:LJ):Option (Int×((LI)×(LJ))):=IO_ k 99 1 0 3 [.var [Sl 1,Sl 2],Rw [],Rww []] [[.pv 0 0,In x0],[.pv 0 0,.undef,.undef]] [.var [Sl 1,Sl 2],Rw x1,Rww x2]
def bg.L0(k j:Nat)(x0 x1 x2:Int)(x3:LJ)(x4:LI):Option (Int×((LI)×(LJ))):=LL k 99 (cC (cC (cB (cA Ks)))) j (a9 0 (JK k 99 (cB Ks) (lQ (fI P (o9 P 99) (fun z6 z7=>nE P 99 1 0 3 [.var [Sl 1,Sl 2],Rw [],Rww []] z6 z7))))) [frm 60 [(0,.pv 0 0),(3,.pv 1 0),(11,Sl 2),(12,In x0),(13,In x1)],[.pv 0 0,.undef,.undef]] [.var [Sl 3,Sl 2],.var [In x2],Rww x3,Rw x4]
theorem bg.eq(k:Nat)(x0 x1 x2):bg (k+1) x0 x1 x2=bg.L0 k k (O (N x2)) 0 x0 x2 x1:=by kernel_rfl
theorem bg.aT(k j:Nat)(x0 x1 x2 x3 x4):bg.L0 k (j+1) x0 x1 x2 x3 x4=T (D.lt x1 x0) (T (D.le 0 x1) (T (U (V x1) (N x3)) (T (U (V x1) (N x3)) (T (U (V x1) (N x3)) (B (ak k x2 (E x3 (V x1) [])) fun r0=>T (D.lt r0.1 0) (T (U (V x1) (N x3)) (T (D.leN (N (D.app (E x3 (V x1) []) (r0.2::([]:LI)))) 1099511627776) (T (D.le 0 x1) (T (U (V x1) (N x3)) (T (U (V x1) (N x3)) (T (D.eqP (((V x1),0)::([]:List (Nat×Nat))) (((V x1),0)::([]:List (Nat×Nat)))) (some (x1,(x4,(D.set x3 (V x1) (D.app (E x3 (V x1) []) (r0.2::([]:LI))))))) none) none) none) none) none) none) (T (U (V x1) (N x3)) (T (D.le 0 r0.1) (T (U (V r0.1) (N (E x3 (V x1) []))) (T (U (V x1) (N x3)) (T (U (V r0.1) (N (E x3 (V x1) []))) (T (U (V x1) (N x3)) (T (D.le 0 r0.1) (T (U (V r0.1) (N (E x3 (V x1) []))) (T (U (V x1) (N x3)) (T (U (V r0.1) (N (E x3 (V x1) []))) (bg.L0 k j x0 (Z .i64 (A x1 1)) (E (E x3 (V x1) []) (V r0.1) 0) (D.set x3 (V x1) (D.set (E x3 (V x1) []) (V r0.1) r0.2)) x4) none) none) none) none) none) none) none) none) none) none)) none) none) none) none) (T (D.leN (N (D.app x3 ((x2::([]:LI))::([]:LJ)))) 1099511627776) (some ((Z .i64 (M (O (N (D.app x3 ((x2::([]:LI))::([]:LJ))))) 1)),(x4,(D.app x3 ((x2::([]:LI))::([]:LJ)))))) none):=(jn _ _).trans (by kernel_rfl)
def Kw:Code:=cB (cB (bW P 72))
def IZ:Code:=cC (cC (cB (cA Kw)))
def Jr(k:Nat):cU (den (resTy P 72)):=a9 0 (JK k 72 (cB Kw) (R0 72))
def Ky:Code:=cB (cB IZ)
def aR(k:Nat)(a0 a1:LI):Option (((LI)×(LJ))×((LI)×(LJ))):=call k 72 (a0,a1)
def aR.L0(k j:Nat)(x0 x1:Int)(x2 x3 x4:LI)(x5:LJ)(x6:LI)(x7:LJ)(x8:LI)(x9:LJ)(x10:LI)(x11:LJ):Option (((LI)×(LJ))×((LI)×(LJ))):=LL k 72 IZ j (Jr k) [frm 50 [(1,Sl 0),(4,.pv 1 0),(5,.pv 2 0),(6,.pv 3 0),(7,.pv 4 0),(13,Sl 5),(14,In x0),(15,In x1)]] [Ro x2,.var [Sl 6,Sl 7],.var [Sl 8,Sl 9],.var [Sl 10,Sl 11],.var [Sl 12,Sl 13],Ro x3,Rw x4,Rww x5,Rw x6,Rww x7,Rw x8,Rww x9,Rw x10,Rww x11]
def aR.J1(k k1:Nat)(x0 x1 x2 x3:Int)(x4 x5 x6:LI)(x7:LJ)(x8:LI)(x9:LJ)(x10:LI)(x11:LJ)(x12:LI)(x13:LJ):Option (((LI)×(LJ))×((LI)×(LJ))):=JJ k 72 (cB (cB (cB (cC (cA Ky))))) (a9 1 (JK k 72 (cB Ky) (LK k 72 IZ k1 (Jr k)))) [frm 50 [(1,Sl 0),(4,.pv 1 0),(5,.pv 2 0),(6,.pv 3 0),(7,.pv 4 0),(8,In x0),(10,In x1),(13,Sl 5),(14,In x2),(15,In x3)]] [Ro x4,.var [Sl 6,Sl 7],.var [Sl 8,Sl 9],.var [Sl 10,Sl 11],.var [Sl 12,Sl 13],Ro x5,Rw x6,Rww x7,Rw x8,Rww x9,Rw x10,Rww x11,Rw x12,Rww x13]
theorem aR.eq(k:Nat)(a0 a1):aR (k+1) a0 a1=aR.L0 k k (O (N a0)) 0 a1 a0 ([]:LI) ([]:LJ) ([]:LI) ([]:LJ) ([]:LI) ([]:LJ) ([]:LI) ([]:LJ):=by kernel_rfl
theorem aR.aT(k j:Nat)(x0 x1 x2 x3 x4 x5 x6 x7 x8 x9 x10 x11):aR.L0 k (j+1) x0 x1 x2 x3 x4 x5 x6 x7 x8 x9 x10 x11=T (D.lt x1 x0) (T (D.le 0 x1) (T (U (V x1) (N x3)) (T (U (V x1) (N x3)) (B (bg k (E x3 (V x1) 0) x8 x9) fun r0=>T (D.eq r0.1 (O (N x11))) (T (D.leN (N (D.app x11 (([]:LI)::([]:LJ)))) 1099511627776) (aR.J1 k j x1 r0.1 x0 x1 x2 x3 x4 x5 x6 x7 r0.2.1 r0.2.2 x10 (D.app x11 (([]:LI)::([]:LJ)))) none) (aR.J1 k j x1 r0.1 x0 x1 x2 x3 x4 x5 x6 x7 r0.2.1 r0.2.2 x10 x11)) none) none) none) (some ((x8,x9),(x10,x11))):=(jn _ _).trans (by kernel_rfl)
theorem aR.eM(k k1:Nat)(x0 x1 x2 x3 x4 x5 x6 x7 x8 x9 x10 x11 x12 x13):aR.J1 k k1 x0 x1 x2 x3 x4 x5 x6 x7 x8 x9 x10 x11 x12 x13=T (D.le 0 x1) (T (U (V x1) (N x13)) (T (U (V x1) (N x13)) (T (D.le 0 x0) (T (U (V x0) (N x4)) (T (U (V x0) (N x4)) (T (U (V x1) (N x13)) (T (D.leN (N (D.app (E x13 (V x1) []) ((E x4 (V x0) 0)::([]:LI)))) 1099511627776) (T (D.le 0 x1) (T (U (V x1) (N x13)) (T (U (V x1) (N x13)) (T (D.eqP (((V x1),0)::([]:List (Nat×Nat))) (((V x1),0)::([]:List (Nat×Nat)))) (aR.L0 k k1 x2 (Z .i64 (A x3 1)) x4 x5 x6 x7 x8 x9 x10 x11 x12 (D.set x13 (V x1) (D.app (E x13 (V x1) []) ((E x4 (V x0) 0)::([]:LI))))) none) none) none) none) none) none) none) none) none) none) none) none:=(jn _ _).trans (by kernel_rfl)
def g5(k:Nat)(a0:LI):Option (((LI)×(LJ))×Bool):=call k 19 a0
theorem g5.eq(k:Nat)(a0):g5 (k+1) a0=B (gD k a0) fun r0=>T (D.no r0) (some ((([]:LI),([]:LJ)),false)) (B (fu k (O (N a0))) fun r1=>B (aR k a0 r1) fun r2=>some ((r2.1.1,r2.1.2),true)):=by kernel_rfl
def b7(k:Nat)(a0:(LI)×(LJ))(a1:Int):Option (((LI)×(LJ))×Bool):=call k 39 (a0,a1)
def b7.J0(k:Nat)(x0 x1:LI)(x2:LJ):Option (((LI)×(LJ))×Bool):=JJ k 39 (cB (cB (cB (bW P 39)))) (R0 39) [frm 27 [(4,.pv 0 0),(6,Sl 1)]] [.var [Sl 2,Sl 3],Rw x0,Rw x1,Rww x2]
theorem b7.eq(k:Nat)(a0 a1):b7 (k+1) a0 a1=B (bY k (a0.1,a0.2)) fun r0=>B (dW k r0 a1) fun r1=>B (hO k (a0.1,a0.2)) fun r2=>T (D.no r2) (some ((([]:LI),([]:LJ)),false)) (T (D.no r1.2) (some ((([]:LI),([]:LJ)),false)) (b7.J0 k r1.1 ([]:LI) ([]:LJ))):=by kernel_rfl
theorem b7.iy(k:Nat)(x0 x1 x2):b7.J0 k x0 x1 x2=B (g5 k x0) fun r3=>some ((r3.1.1,r3.1.2),r3.2):=(jn _ _).trans (by kernel_rfl)
def J6:Code:=cB (cB (bW P 45))
def Iq:Code:=cC (cC (cB (cA J6)))
def KE(k:Nat):cU (den (resTy P 45)):=a9 0 (JK k 45 (cB J6) (R0 45))
def br(k:Nat)(a0:(LI)×(LJ)):Option LI:=call k 45 a0
def br.L0(k j:Nat)(x0:Int)(x1 x2:LI)(x3:LJ):Option LI:=LL k 45 Iq j (KE k) [frm 26 [(1,.pv 0 0),(3,Sl 1),(4,In x0)]] [.var [Sl 2,Sl 3],Rw x1,Ro x2,Roo x3]
def br.J1(k k1:Nat)(x0:Int)(x1 x2:LI)(x3:LJ):Option LI:=JJ k 45 (cB Iq) (LK k 45 Iq k1 (KE k)) [frm 26 [(1,.pv 0 0),(3,Sl 1),(4,In x0)]] [.var [Sl 2,Sl 3],Rw x1,Ro x2,Roo x3]
theorem br.eq(k:Nat)(a0):br (k+1) a0=br.L0 k k (Z .i64 (M (O (N a0.2)) 1)) ([]:LI) a0.1 a0.2:=by kernel_rfl
theorem br.aT(k j:Nat)(x0 x1 x2 x3):br.L0 k (j+1) x0 x1 x2 x3=T (D.le 0 x0) (B (aC k (x2,x3)) fun r0=>T r0 (br.J1 k j x0 x1 x2 x3) (some x1)) (some x1):=(jn _ _).trans (by kernel_rfl)
theorem br.eM(k k1:Nat)(x0 x1 x2 x3):br.J1 k k1 x0 x1 x2 x3=T (D.le 0 x0) (T (U (V x0) (N x3)) (T (U (V x0) (N x3)) (T (U (V x0) (N x3)) (T (D.leN (N (D.app x1 (E x3 (V x0) []))) 1099511627776) (br.L0 k k1 (Z .i64 (M x0 1)) (D.app x1 (E x3 (V x0) [])) x2 x3) none) none) none) none) none:=(jn _ _).trans (by kernel_rfl)
def Ji:Code:=cB (bW P 54)
def cz(k:Nat)(a0:LI):Option Bool:=call k 54 a0
def cz.L0(k j:Nat)(x0:Int)(x1:LI):Option Bool:=LL k 54 (cC (cC (cB (cA Ji)))) j (a9 0 (JK k 54 (cB Ji) (R0 54))) [frm 19 [(0,Sl 0),(3,In x0)]] [Ro x1]
theorem cz.eq(k:Nat)(a0):cz (k+1) a0=cz.L0 k k 0 a0:=by kernel_rfl
theorem cz.aT(k j:Nat)(x0 x1):cz.L0 k (j+1) x0 x1=T (D.lt x0 (O (N x1))) (T (D.le 0 x0) (T (U (V x0) (N x1)) (T (U (V x0) (N x1)) (B (im k (E x1 (V x0) 0) 1 9) fun r0=>T (D.no r0) (some false) (cz.L0 k j (Z .i64 (A x0 1)) x1)) none) none) none) (some (D.le (O (N x1)) 9)):=(jn _ _).trans (by kernel_rfl)
def IL:Code:=cB (cB (cB (bW P 109)))
def bn(k:Nat)(a0:LI)(a1:Int):Option ((LI)×Bool):=call k 109 (a0,a1)
def bn.J0(k:Nat)(x0:Int)(x1 x2:LI):Option ((LI)×Bool):=JJ k 109 IL (R0 109) [frm 42 [(0,Sl 0),(1,In x0),(6,Sl 1)]] [Ro x1,Rw x2]
def bn.L1(k j:Nat)(x0 x1:Int)(x2 x3:LI):Option ((LI)×Bool):=LL k 109 (cC (cC (cB (cA IL)))) j (a9 0 (JK k 109 (cB IL) (R0 109))) [frm 42 [(0,Sl 0),(1,In x0),(6,Sl 1),(7,In x1)]] [Ro x2,Rw x3]
theorem bn.eq(k:Nat)(a0 a1):bn (k+1) a0 a1=B (cz k a0) fun r0=>T (D.no r0) (some (([]:LI),false)) (B (im k a1 1 9) fun r1=>T (D.no r1) (some (([]:LI),false)) (bn.J0 k a1 a0 ([]:LI))):=by kernel_rfl
theorem bn.iy(k:Nat)(x0 x1 x2):bn.J0 k x0 x1 x2=bn.L1 k k x0 0 x1 x2:=(jn _ _).trans (by kernel_rfl)
theorem bn.dX(k j:Nat)(x0 x1 x2 x3):bn.L1 k (j+1) x0 x1 x2 x3=T (D.lt x1 (O (N x2))) (T (D.le 0 x1) (T (U (V x1) (N x2)) (T (U (V x1) (N x2)) (T (D.lt x0 (E x2 (V x1) 0)) (some (([]:LI),false)) (T (D.le 0 x1) (T (U (V x1) (N x2)) (T (U (V x1) (N x2)) (T (D.leN (N (D.app x3 ((Z .i64 (M (Z .i64 (A x0 1)) (E x2 (V x1) 0)))::([]:LI)))) 1099511627776) (bn.L1 k j x0 (Z .i64 (A x1 1)) x2 (D.app x3 ((Z .i64 (M (Z .i64 (A x0 1)) (E x2 (V x1) 0)))::([]:LI)))) none) none) none) none)) none) none) none) (some (x3,true)):=(jn _ _).trans (by kernel_rfl)
def I6:Code:=cB (cB (bW P 110))
def IQ:Code:=cC (cC (cB (cA I6)))
def Jp(k:Nat):cU (den (resTy P 110)):=a9 0 (JK k 110 (cB I6) (R0 110))
def bF(k:Nat)(a0:LI):Option LI:=call k 110 a0
def bF.L0(k j:Nat)(x0:Int)(x1 x2:LI):Option LI:=LL k 110 IQ j (Jp k) [frm 25 [(0,Sl 0),(3,Sl 1),(4,In x0)]] [Ro x1,Rw x2]
def bF.J1(k k1:Nat)(x0:Int)(x1 x2:LI):Option LI:=JJ k 110 (cB IQ) (LK k 110 IQ k1 (Jp k)) [frm 25 [(0,Sl 0),(3,Sl 1),(4,In x0)]] [Ro x1,Rw x2]
theorem bF.eq(k:Nat)(a0):bF (k+1) a0=bF.L0 k k (Z .i64 (M (O (N a0)) 1)) a0 ([]:LI):=by kernel_rfl
theorem bF.aT(k j:Nat)(x0 x1 x2):bF.L0 k (j+1) x0 x1 x2=T (D.le 0 x0) (B (cz k x1) fun r0=>T r0 (bF.J1 k j x0 x1 x2) (some x2)) (some x2):=(jn _ _).trans (by kernel_rfl)
theorem bF.eM(k k1:Nat)(x0 x1 x2):bF.J1 k k1 x0 x1 x2=T (D.le 0 x0) (T (U (V x0) (N x1)) (T (U (V x0) (N x1)) (T (D.leN (N (D.app x2 ((E x1 (V x0) 0)::([]:LI)))) 1099511627776) (bF.L0 k k1 (Z .i64 (M x0 1)) x1 (D.app x2 ((E x1 (V x0) 0)::([]:LI)))) none) none) none) none:=(jn _ _).trans (by kernel_rfl)
def eO(k:Nat)(a0:LI)(a1:Int):Option ((LI)×Bool):=call k 43 (a0,a1)
theorem eO.eq(k:Nat)(a0 a1):eO (k+1) a0 a1=B (bn k a0 a1) fun r0=>T (D.no r0.2) (some (([]:LI),false)) (B (bF k r0.1) fun r1=>some (r1,true)):=by kernel_rfl
def Js:Code:=cB (cB (bW P 156))
def Ip:Code:=cC (cC (cB (cA Js)))
def JY(k:Nat):cU (den (resTy P 156)):=a9 0 (JK k 156 (cB Js) (R0 156))
def JV:Code:=cB Ip
def KT:Code:=cB (cC (cA JV))
def Iy:Code:=cC (cC (cA KT))
def Jm:Code:=cB KT
def Jw(k k1:Nat):cU (den (resTy P 156)):=a9 1 (JK k 156 (cB JV) (LK k 156 Ip k1 (JY k)))
def Kt(k k1:Nat):cU (den (resTy P 156)):=a9 2 (JK k 156 Jm (Jw k k1))
def aW(k:Nat)(a0:(LI)×(LJ))(a1:Int):Option (((LI)×(LJ))×Int):=call k 156 (a0,a1)
def aW.L0(k j:Nat)(x0 x1:Int)(x2:LI)(x3:LJ)(x4:LI)(x5:LJ):Option (((LI)×(LJ))×Int):=LL k 156 Ip j (JY k) [frm 92 [(1,In x0),(4,.pv 0 0),(6,.pv 1 0),(7,In x1)]] [.var [Sl 2,Sl 3],.var [Sl 4,Sl 5],Rw x2,Rww x3,Rw x4,Rww x5]
def aW.L1(k k1 j:Nat)(x0 x1 x2:Int)(x3:LI)(x4:LJ)(x5:LI)(x6:LJ):Option (((LI)×(LJ))×Int):=LL k 156 Iy j (Kt k k1) [frm 92 [(1,In x0),(4,.pv 0 0),(6,.pv 1 0),(7,In x1),(8,In x2)]] [.var [Sl 2,Sl 3],.var [Sl 4,Sl 5],Rw x3,Rww x4,Rw x5,Rww x6]
def aW.J2(k k1 k2:Nat)(x0 x1 x2:Int)(x3:LI)(x4:LJ)(x5:LI)(x6:LJ):Option (((LI)×(LJ))×Int):=JJ k 156 (cB Iy) (LK k 156 Iy k2 (Kt k k1)) [frm 92 [(1,In x0),(4,.pv 0 0),(6,.pv 1 0),(7,In x1),(8,In x2)]] [.var [Sl 2,Sl 3],.var [Sl 4,Sl 5],Rw x3,Rww x4,Rw x5,Rww x6]
def aW.J3(k k1:Nat)(x0 x1 x2:Int)(x3:LI)(x4:LJ)(x5:LI)(x6:LJ):Option (((LI)×(LJ))×Int):=JJ k 156 Jm (Jw k k1) [frm 92 [(1,In x0),(4,.pv 0 0),(6,.pv 1 0),(7,In x1),(8,In x2)]] [.var [Sl 2,Sl 3],.var [Sl 4,Sl 5],Rw x3,Rww x4,Rw x5,Rww x6]
theorem aW.eq(k:Nat)(a0 a1):aW (k+1) a0 a1=B (cR k (a0.1,a0.2)) fun r0=>aW.L0 k k a1 0 ([]:LI) ([]:LJ) r0.1 r0.2:=by kernel_rfl
theorem aW.aT(k j:Nat)(x0 x1 x2 x3 x4 x5):aW.L0 k (j+1) x0 x1 x2 x3 x4 x5=T (D.lt x1 (O (N x5))) (aW.L1 k j k x0 x1 0 x2 x3 x4 x5) (T (D.leN (N (D.app x5 ((x0::([]:LI))::([]:LJ)))) 1099511627776) (some ((x4,(D.app x5 ((x0::([]:LI))::([]:LJ)))),(Z .i64 (M (O (N (D.app x5 ((x0::([]:LI))::([]:LJ))))) 1)))) none):=(jn _ _).trans (by kernel_rfl)
theorem aW.dX(k k1 j:Nat)(x0 x1 x2 x3 x4 x5 x6):aW.L1 k k1 (j+1) x0 x1 x2 x3 x4 x5 x6=T (D.le 0 x1) (T (U (V x1) (N x6)) (T (U (V x1) (N x6)) (T (U (V x1) (N x6)) (T (D.lt x2 (O (N (E x6 (V x1) [])))) (T (D.le 0 x1) (T (U (V x1) (N x6)) (T (U (V x1) (N x6)) (T (U (V x1) (N x6)) (T (D.le 0 x2) (T (U (V x2) (N (E x6 (V x1) []))) (T (U (V x1) (N x6)) (T (U (V x2) (N (E x6 (V x1) []))) (T (D.le (E (E x6 (V x1) []) (V x2) 0) x0) (aW.J2 k k1 j x0 x1 x2 x3 x4 x5 x6) (aW.J3 k k1 x0 x1 x2 x3 x4 x5 x6)) none) none) none) none) none) none) none) none) (aW.J3 k k1 x0 x1 x2 x3 x4 x5 x6)) none) none) none) none:=(jn _ _).trans (by kernel_rfl)
theorem aW.kC(k k1 k2:Nat)(x0 x1 x2 x3 x4 x5 x6):aW.J2 k k1 k2 x0 x1 x2 x3 x4 x5 x6=aW.L1 k k1 k2 x0 x1 (Z .i64 (A x2 1)) x3 x4 x5 x6:=(jn _ _).trans (by kernel_rfl)
theorem aW.lA(k k1:Nat)(x0 x1 x2 x3 x4 x5 x6):aW.J3 k k1 x0 x1 x2 x3 x4 x5 x6=T (D.le 0 x1) (T (U (V x1) (N x6)) (T (U (V x1) (N x6)) (T (U (V x1) (N x6)) (T (D.eq x2 (O (N (E x6 (V x1) [])))) (T (D.le 0 x1) (T (U (V x1) (N x6)) (T (U (V x1) (N x6)) (T (U (V x1) (N x6)) (T (D.leN (N (D.app (E x6 (V x1) []) (x0::([]:LI)))) 1099511627776) (T (D.le 0 x1) (T (U (V x1) (N x6)) (T (U (V x1) (N x6)) (T (D.eqP (((V x1),0)::([]:List (Nat×Nat))) (((V x1),0)::([]:List (Nat×Nat)))) (some ((x5,(D.set x6 (V x1) (D.app (E x6 (V x1) []) (x0::([]:LI))))),x1)) none) none) none) none) none) none) none) none) none) (T (D.le 0 x1) (T (U (V x1) (N x6)) (T (U (V x1) (N x6)) (T (U (V x1) (N x6)) (T (D.le 0 x2) (T (U (V x2) (N (E x6 (V x1) []))) (T (U (V x1) (N x6)) (T (U (V x2) (N (E x6 (V x1) []))) (T (D.le 0 x1) (T (U (V x1) (N x6)) (T (U (V x1) (N x6)) (T (U (V x1) (N x6)) (T (D.le 0 x2) (T (U (V x2) (N (E x6 (V x1) []))) (T (U (V x1) (N x6)) (T (U (V x2) (N (E x6 (V x1) []))) (aW.L0 k k1 (E (E x6 (V x1) []) (V x2) 0) (Z .i64 (A x1 1)) x3 x4 x5 (D.set x6 (V x1) (D.set (E x6 (V x1) []) (V x2) x0))) none) none) none) none) none) none) none) none) none) none) none) none) none) none) none) none)) none) none) none) none:=(jn _ _).trans (by kernel_rfl)
def Jz:Code:=cB (cB (cB (bW P 124)))
def IJ:Code:=cC (cC (cB (cA Jz)))
def Kq(k:Nat):cU (den (resTy P 124)):=a9 0 (JK k 124 (cB Jz) (R0 124))
def JN:Code:=cB IJ
def cg(k:Nat)(a0:LI):Option (((LI)×(LJ))×((LI)×(LJ))):=call k 124 a0
def cg.L0(k j:Nat)(x0:Int)(x1 x2:LI)(x3:LJ)(x4:LI)(x5:LJ)(x6:LI)(x7:LJ)(x8:LI)(x9:LJ):Option (((LI)×(LJ))×((LI)×(LJ))):=LL k 124 IJ j (Kq k) [frm 53 [(0,Sl 0),(2,.pv 1 0),(3,.pv 2 0),(4,.pv 3 0),(5,.pv 4 0),(6,In x0)]] [Ro x1,.var [Sl 5,Sl 6],.var [Sl 7,Sl 8],.var [Sl 9,Sl 10],.var [Sl 11,Sl 12],Rw x2,Rww x3,Rw x4,Rww x5,Rw x6,Rww x7,Rw x8,Rww x9]
def cg.J1(k k1:Nat)(x0 x1:Int)(x2 x3:LI)(x4:LJ)(x5:LI)(x6:LJ)(x7:LI)(x8:LJ)(x9:LI)(x10:LJ):Option (((LI)×(LJ))×((LI)×(LJ))):=JJ k 124 (cB (cB (cB (cC (cA JN))))) (a9 1 (JK k 124 (cB JN) (LK k 124 IJ k1 (Kq k)))) [frm 53 [(0,Sl 0),(2,.pv 1 0),(3,.pv 2 0),(4,.pv 3 0),(5,.pv 4 0),(6,In x0),(8,In x1)]] [Ro x2,.var [Sl 5,Sl 6],.var [Sl 7,Sl 8],.var [Sl 9,Sl 10],.var [Sl 11,Sl 12],Rw x3,Rww x4,Rw x5,Rww x6,Rw x7,Rww x8,Rw x9,Rww x10]
theorem cg.eq(k:Nat)(a0):cg (k+1) a0=cg.L0 k k 0 a0 ([]:LI) ([]:LJ) ([]:LI) ([]:LJ) ([]:LI) ([]:LJ) ([]:LI) ([]:LJ):=by kernel_rfl
theorem cg.aT(k j:Nat)(x0 x1 x2 x3 x4 x5 x6 x7 x8 x9):cg.L0 k (j+1) x0 x1 x2 x3 x4 x5 x6 x7 x8 x9=T (D.lt x0 (O (N x1))) (T (D.le 0 x0) (T (U (V x0) (N x1)) (T (U (V x0) (N x1)) (B (aW k (x6,x7) (E x1 (V x0) 0)) fun r0=>T (D.eq r0.2 (O (N x9))) (T (D.leN (N (D.app x9 (([]:LI)::([]:LJ)))) 1099511627776) (cg.J1 k j x0 r0.2 x1 x2 x3 x4 x5 r0.1.1 r0.1.2 x8 (D.app x9 (([]:LI)::([]:LJ)))) none) (cg.J1 k j x0 r0.2 x1 x2 x3 x4 x5 r0.1.1 r0.1.2 x8 x9)) none) none) none) (some ((x6,x7),(x8,x9))):=(jn _ _).trans (by kernel_rfl)
theorem cg.eM(k k1:Nat)(x0 x1 x2 x3 x4 x5 x6 x7 x8 x9 x10):cg.J1 k k1 x0 x1 x2 x3 x4 x5 x6 x7 x8 x9 x10=T (D.le 0 x1) (T (U (V x1) (N x10)) (T (U (V x1) (N x10)) (T (U (V x1) (N x10)) (T (D.leN (N (D.app (E x10 (V x1) []) ((Z .i64 (A x0 1))::([]:LI)))) 1099511627776) (T (D.le 0 x1) (T (U (V x1) (N x10)) (T (U (V x1) (N x10)) (T (D.eqP (((V x1),0)::([]:List (Nat×Nat))) (((V x1),0)::([]:List (Nat×Nat)))) (cg.L0 k k1 (Z .i64 (A x0 1)) x2 x3 x4 x5 x6 x7 x8 x9 (D.set x10 (V x1) (D.app (E x10 (V x1) []) ((Z .i64 (A x0 1))::([]:LI))))) none) none) none) none) none) none) none) none) none:=(jn _ _).trans (by kernel_rfl)
def gX(k:Nat)(a0:LI):Option (((LI)×(LJ))×Bool):=call k 66 a0
theorem gX.eq(k:Nat)(a0):gX (k+1) a0=B (cz k a0) fun r0=>T (D.no r0) (some ((([]:LI),([]:LJ)),false)) (B (cg k a0) fun r1=>some ((r1.1.1,r1.1.2),true)):=by kernel_rfl
def eY(k:Nat)(a0:(LI)×(LJ))(a1:Int):Option (((LI)×(LJ))×Bool):=call k 40 (a0,a1)
theorem eY.eq(k:Nat)(a0 a1):eY (k+1) a0 a1=B (ib k (a0.1,a0.2)) fun r0=>T (D.no r0) (some ((([]:LI),([]:LJ)),false)) (B (br k (a0.1,a0.2)) fun r1=>B (eO k r1 a1) fun r2=>T (D.no r2.2) (some ((([]:LI),([]:LJ)),false)) (B (gX k r2.1) fun r3=>some ((r3.1.1,r3.1.2),r3.2))):=by kernel_rfl
def Kp:Code:=cB (cB (cB (bW P 154)))
def bZ(k:Nat)(x0 x1 x2 x3:Int)(x4:LI):Option ((LI)×(PUnit×(Int×Int))):=IO_ k 154 1 0 1 [.var [Sl 1,In 0,In 0],.row Bool.false (.int .u8) []] [[.pv 0 0,In x0,In x1],[.pv 0 0,Sl 1]] [.var [Sl 1,In x2,In x3],.row Bool.false (.int .u8) x4]
def bZ.L0(k j:Nat)(x0 x1 x2 x3 x4:Int)(x5 x6:LI):Option ((LI)×(PUnit×(Int×Int))):=LL k 154 (cC (cC (cB (cA Kp)))) j (a9 0 (JK k 154 (cB Kp) (lQ (fI P (o9 P 154) (fun z7 z8=>nE P 154 1 0 1 [.var [Sl 1,In 0,In 0],.row Bool.false (.int .u8) []] z7 z8))))) [frm 28 [(0,.pv 0 0),(2,In x0),(7,Sl 1),(8,In x1),(9,In x2)],[.pv 0 0,Sl 2]] [.var [Sl 2,In x3,In x4],Rw x5,.row Bool.false (.int .u8) x6]
theorem bZ.eq(k:Nat)(x0 x1 x2 x3 x4):bZ (k+1) x0 x1 x2 x3 x4=B (aD k (Z .i64 (A x0 1)) x2 x3 x4) fun r0=>bZ.L0 k k x1 r0.1 0 r0.2.2.1 r0.2.2.2 ([]:LI) x4:=by kernel_rfl
theorem bZ.aT(k j:Nat)(x0 x1 x2 x3 x4 x5 x6):bZ.L0 k (j+1) x0 x1 x2 x3 x4 x5 x6=T (D.lt x2 x1) (B (aD k x0 x3 x4 x6) fun r1=>T (D.leN (N (D.app x5 ((Z .i64 (A 1 r1.1))::([]:LI)))) 1099511627776) (bZ.L0 k j x0 x1 (Z .i64 (A x2 1)) r1.2.2.1 r1.2.2.2 (D.app x5 ((Z .i64 (A 1 r1.1))::([]:LI))) x6) none) (some (x5,((),(x3,x4)))):=(jn _ _).trans (by kernel_rfl)
def JG:Code:=cB (cB (bW P 96))
def IX:Code:=cC (cC (cB (cA JG)))
def JH(k:Nat):cU (den (resTy P 96)):=a9 0 (JK k 96 (cB JG) (R0 96))
def ID:Code:=cB IX
def JA(k k1:Nat):cU (den (resTy P 96)):=LK k 96 IX k1 (JH k)
def Kb:Code:=cB (cC (cA ID))
def Iz:Code:=cC (cC (cB (cA Kb)))
def JI(k k1:Nat):cU (den (resTy P 96)):=a9 2 (JK k 96 (cB Kb) (a9 1 (JK k 96 (cB ID) (JA k k1))))
def ao(k:Nat)(a0:LI):Option LI:=call k 96 a0
def ao.L0(k j:Nat)(x0:Int)(x1 x2:LI):Option LI:=LL k 96 IX j (JH k) [frm 57 [(0,Sl 0),(3,Sl 1),(4,In x0)]] [Ro x1,Rw x2]
def ao.J1(k k1:Nat)(x0:Int)(x1 x2:LI):Option LI:=JJ k 96 ID (JA k k1) [frm 57 [(0,Sl 0),(3,Sl 1),(4,In x0)]] [Ro x1,Rw x2]
def ao.L2(k k1 j:Nat)(x0 x1 x2:Int)(x3 x4:LI):Option LI:=LL k 96 Iz j (JI k k1) [frm 57 [(0,Sl 0),(3,Sl 1),(4,In x0),(5,In x1),(6,In x2)]] [Ro x3,Rw x4]
def ao.J3(k k1 k2:Nat)(x0 x1 x2:Int)(x3 x4:LI):Option LI:=JJ k 96 (cB (cB Iz)) (LK k 96 Iz k2 (JI k k1)) [frm 57 [(0,Sl 0),(3,Sl 1),(4,In x0),(5,In x1),(6,In x2)]] [Ro x3,Rw x4]
theorem ao.eq(k:Nat)(a0):ao (k+1) a0=ao.L0 k k 0 a0 ([]:LI):=by kernel_rfl
theorem ao.aT(k j:Nat)(x0 x1 x2):ao.L0 k (j+1) x0 x1 x2=T (D.lt x0 (O (N x1))) (B (cz k x1) fun r0=>T r0 (ao.J1 k j x0 x1 x2) (some x2)) (some x2):=(jn _ _).trans (by kernel_rfl)
theorem ao.eM(k k1:Nat)(x0 x1 x2):ao.J1 k k1 x0 x1 x2=ao.L2 k k1 k x0 1 0 x1 x2:=(jn _ _).trans (by kernel_rfl)
theorem ao.wU(k k1 j:Nat)(x0 x1 x2 x3 x4):ao.L2 k k1 (j+1) x0 x1 x2 x3 x4=T (D.lt x2 (O (N x3))) (T (D.le 0 x2) (T (U (V x2) (N x3)) (T (U (V x2) (N x3)) (T (D.le 0 x0) (T (U (V x0) (N x3)) (T (U (V x0) (N x3)) (T (D.lt (E x3 (V x2) 0) (E x3 (V x0) 0)) (B (gl k true) fun r1=>ao.J3 k k1 j x0 (Z .i64 (A x1 r1)) x2 x3 x4) (T (D.le 0 x2) (T (U (V x2) (N x3)) (T (U (V x2) (N x3)) (T (D.le 0 x0) (T (U (V x0) (N x3)) (T (U (V x0) (N x3)) (T (D.eq (E x3 (V x2) 0) (E x3 (V x0) 0)) (B (gl k (D.lt x2 x0)) fun r2=>ao.J3 k k1 j x0 (Z .i64 (A x1 r2)) x2 x3 x4) (B (gl k false) fun r3=>ao.J3 k k1 j x0 (Z .i64 (A x1 r3)) x2 x3 x4)) none) none) none) none) none) none)) none) none) none) none) none) none) (T (D.leN (N (D.app x4 (x1::([]:LI)))) 1099511627776) (ao.L0 k k1 (Z .i64 (A x0 1)) x3 (D.app x4 (x1::([]:LI)))) none):=(jn _ _).trans (by kernel_rfl)
theorem ao.lA(k k1 k2:Nat)(x0 x1 x2 x3 x4):ao.J3 k k1 k2 x0 x1 x2 x3 x4=ao.L2 k k1 k2 x0 x1 (Z .i64 (A x2 1)) x3 x4:=(jn _ _).trans (by kernel_rfl)
def gm(k:Nat)(x0 x1:Int)(x2:LI):Option ((LI)×(PUnit×(Int×Int))):=IO_ k 115 1 0 1 [.var [Sl 1,In 0,In 0],.row Bool.false (.int .u8) []] [[.pv 0 0],[.pv 0 0,Sl 1]] [.var [Sl 1,In x0,In x1],.row Bool.false (.int .u8) x2]
theorem gm.eq(k:Nat)(x0 x1 x2):gm (k+1) x0 x1 x2=B (aD k 4 x0 x1 x2) fun r0=>B (bZ k 7 (Z .i64 (A 2 r0.1)) r0.2.2.1 r0.2.2.2 x2) fun r1=>B (bP k 3 r1.2.2.1 r1.2.2.2 x2) fun r2=>T r2.1 (B (ao k r1.1) fun r3=>some (r3,((),(r2.2.2.1,r2.2.2.2)))) (some (r1.1,((),(r2.2.2.1,r2.2.2.2)))):=by kernel_rfl
def KS:Code:=cB (cB (bW P 48))
def ct(k:Nat)(x0 x1:Int)(x2:LI):Option ((LI)×(PUnit×(Int×Int))):=IO_ k 48 1 0 1 [.var [Sl 1,In 0,In 0],.row Bool.false (.int .u8) []] [[.pv 0 0],[.pv 0 0,Sl 1]] [.var [Sl 1,In x0,In x1],.row Bool.false (.int .u8) x2]
def ct.L0(k j:Nat)(x0:LI)(x1 x2:Int)(x3:LI):Option ((LI)×(PUnit×(Int×Int))):=LL k 48 (cC (cC (cT (cB (Code.cE (cB (cC (cB (cA KS))))))))) j (a9 1 (a9 0 (JK k 48 (cB KS) (lQ (fI P (o9 P 48) (fun z9 z10=>nE P 48 1 0 1 [.var [Sl 1,In 0,In 0],.row Bool.false (.int .u8) []] z9 z10)))))) [frm 25 [(3,Sl 0)],[.pv 1 0,Sl 2]] [Rw x0,.var [Sl 2,In x1,In x2],.row Bool.false (.int .u8) x3]
theorem ct.eq(k:Nat)(x0 x1 x2):ct (k+1) x0 x1 x2=B (gm k x0 x1 x2) fun r0=>B (aD k 14 r0.2.2.1 r0.2.2.2 x2) fun r1=>T (D.eq r1.1 0) (B (cr k r1.2.2.1 r1.2.2.2 (0::(10::((-1)::(9::([]:LI))))) x2) fun r2=>T (D.leN (N (D.app r0.1 (r2.1::([]:LI)))) 1099511627776) (some ((D.app r0.1 (r2.1::([]:LI))),((),(r2.2.2.1,r2.2.2.2)))) none) (T (D.eq r1.1 1) (ct.L0 k k r0.1 r1.2.2.1 r1.2.2.2 x2) (some (r0.1,((),(r1.2.2.1,r1.2.2.2))))):=by kernel_rfl
theorem ct.aT(k j:Nat)(x0 x1 x2 x3):ct.L0 k (j+1) x0 x1 x2 x3=T (D.lt (O (N x0)) 10) (T (D.leN (N (D.app x0 (1::([]:LI)))) 1099511627776) (ct.L0 k j (D.app x0 (1::([]:LI))) x1 x2 x3) none) (some (x0,((),(x1,x2)))):=(jn _ _).trans (by kernel_rfl)
def Jx:Code:=cB (cB (bW P 49))
def IT:Code:=cC (cC (cB (cA Jx)))
def KF:Code:=cB Jx
def Jh:Code:=cB (bW P 106)
def HS:Code:=cA Jh
def Jt(k:Nat):cU (den (resTy P 106)):=lQ (fI P (o9 P 49) (fun z6 z7=>St.force (St.put z7 (Go.Oper.dst (tw (Code.ops HS) 1)) (py z6)) ((fun z8 z9=>iH (Code.ops HS) 1 (tw (Code.ops HS) 1) z9 ((fun z10 z11=>fz P cfg (mJ P cfg ext (k+1)) Option.none (Code.ops HS) [2] (trN 2) z11 (fun z12 z13=>JK (k+1) 106 (cB Jh) (R0 106) .normal z13)) z8)) (Touch.mk [] [] [] Bool.true))))
def JM(k:Nat):cU (den (resTy P 106)):=a9 0 (JK k 49 KF (Jt k))
def aF(k:Nat)(a0:LI):Option ((LI)×Int):=call k 106 a0
def aF.L0(k j:Nat)(x0 x1 x2:Int)(x3 x4:LI):Option ((LI)×Int):=LL k 49 IT j (JM k) [frm 32 [(0,Sl 0),(3,In x0),(4,In x1)],frm 13 [(0,Sl 0),(1,.tup []),(2,Sl 1),(3,In x2),(4,.tup []),(5,.tup []),(6,Sl 0),(7,.tup []),(8,.tup []),(9,.tup []),(10,.tup []),(11,.tup []),(12,.tup [])]] [.row Bool.false (.int .u8) x3,Rw x4]
def aF.J1(k k1:Nat)(x0 x1 x2:Int)(x3 x4:LI):Option ((LI)×Int):=JJ k 49 (cB IT) (LK k 49 IT k1 (JM k)) [frm 32 [(0,Sl 0),(3,In x0),(4,In x1)],frm 13 [(0,Sl 0),(1,.tup []),(2,Sl 1),(3,In x2),(4,.tup []),(5,.tup []),(6,Sl 0),(7,.tup []),(8,.tup []),(9,.tup []),(10,.tup []),(11,.tup []),(12,.tup [])]] [.row Bool.false (.int .u8) x3,Rw x4]
def aF.J2(k:Nat)(x0 x1:Int)(x2 x3:LI):Option ((LI)×Int):=JJ k 49 KF (Jt k) [frm 32 [(0,Sl 0),(3,In x0)],frm 13 [(0,Sl 0),(1,.tup []),(2,Sl 1),(3,In x1),(4,.tup []),(5,.tup []),(6,Sl 0),(7,.tup []),(8,.tup []),(9,.tup []),(10,.tup []),(11,.tup []),(12,.tup [])]] [.row Bool.false (.int .u8) x2,Rw x3]
theorem aF.eq(k:Nat)(a0):aF (k+2) a0=aF.L0 k k (Z .i64 (A 26583 (O (N a0)))) 0 0 a0 ([]:LI):=by kernel_rfl
theorem aF.aT(k j:Nat)(x0 x1 x2 x3 x4):aF.L0 k (j+1) x0 x1 x2 x3 x4=T (D.lt x1 (O (N x3))) (T (D.lt x1 4000) (aF.J1 k j x0 x1 x2 x3 x4) (aF.J2 k x0 x2 x3 x4)) (aF.J2 k x0 x2 x3 x4):=(jn _ _).trans (by kernel_rfl)
theorem aF.eM(k k1:Nat)(x0 x1 x2 x3 x4):aF.J1 k k1 x0 x1 x2 x3 x4=T (D.le 0 x1) (T (U (V x1) (N x3)) (T (U (V x1) (N x3)) (aF.L0 k k1 (D.andI .i64 (Z .i64 (A (Z .i64 (A (Z .i64 (D.mul x0 131)) (Z .i64 (E x3 (V x1) 0)))) 7)) 1073741823) (Z .i64 (A x1 1)) x2 x3 x4) none) none) none:=(jn _ _).trans (by kernel_rfl)
theorem aF.kC(k:Nat)(x0 x1 x2 x3):aF.J2 k x0 x1 x2 x3=B (ct (k+1) 0 x0 x2) fun r0=>B (aD (k+1) 11 r0.2.2.1 r0.2.2.2 x2) fun r1=>some (r0.1,r1.1):=(jn _ _).trans (by kernel_rfl)
def eF(k:Nat)(a0:LI):Option ((LI)×Int):=call k 41 a0
theorem eF.eq(k:Nat)(a0):eF (k+2) a0=B (aF (k+1) a0) fun r0=>some (r0.1,r0.2):=by kernel_rfl
def JU:Code:=cB (cB (bW P 71))
def cK(k:Nat)(a0 a1:LI):Option Bool:=call k 71 (a0,a1)
def cK.L0(k j:Nat)(x0:Int)(x1 x2:LI):Option Bool:=LL k 71 (cC (cC (cB (cA JU)))) j (a9 0 (JK k 71 (cB JU) (R0 71))) [frm 26 [(0,Sl 0),(1,Sl 1),(5,In x0)]] [Ro x1,Ro x2]
theorem cK.eq(k:Nat)(a0 a1):cK (k+1) a0 a1=T (D.no (D.eq (O (N a0)) (O (N a1)))) (some false) (cK.L0 k k 0 a0 a1):=by kernel_rfl
theorem cK.aT(k j:Nat)(x0 x1 x2):cK.L0 k (j+1) x0 x1 x2=T (D.lt x0 (O (N x1))) (T (D.le 0 x0) (T (U (V x0) (N x1)) (T (U (V x0) (N x1)) (T (D.le 0 x0) (T (U (V x0) (N x2)) (T (U (V x0) (N x2)) (T (D.no (D.eq (E x1 (V x0) 0) (E x2 (V x0) 0))) (some false) (cK.L0 k j (Z .i64 (A x0 1)) x1 x2)) none) none) none) none) none) none) (some true):=(jn _ _).trans (by kernel_rfl)
def Ij:Code:=cB (cB (bW P 18))
def aU(k:Nat)(a0 a1:(LI)×(LJ)):Option Bool:=call k 18 (a0,a1)
def aU.J0(k:Nat)(x0:LI)(x1:LJ)(x2:LI)(x3:LJ):Option Bool:=JJ k 18 Ij (R0 18) [frm 40 [(2,.pv 0 0),(3,.pv 1 0)]] [.var [Sl 2,Sl 3],.var [Sl 4,Sl 5],Ro x0,Roo x1,Ro x2,Roo x3]
def aU.L1(k j:Nat)(x0:Int)(x1:LI)(x2:LJ)(x3:LI)(x4:LJ):Option Bool:=LL k 18 (cC (cC (cB (cA Ij)))) j (a9 0 (JK k 18 (cB Ij) (R0 18))) [frm 40 [(2,.pv 0 0),(3,.pv 1 0),(5,In x0)]] [.var [Sl 2,Sl 3],.var [Sl 4,Sl 5],Ro x1,Roo x2,Ro x3,Roo x4]
theorem aU.eq(k:Nat)(a0 a1):aU (k+1) a0 a1=B (cK k a0.1 a1.1) fun r0=>T (D.no r0) (some false) (T (D.no (D.eq (O (N a0.2)) (O (N a1.2)))) (some false) (aU.J0 k a0.1 a0.2 a1.1 a1.2)):=by kernel_rfl
theorem aU.iy(k:Nat)(x0 x1 x2 x3):aU.J0 k x0 x1 x2 x3=aU.L1 k k 0 x0 x1 x2 x3:=(jn _ _).trans (by kernel_rfl)
theorem aU.dX(k j:Nat)(x0 x1 x2 x3 x4):aU.L1 k (j+1) x0 x1 x2 x3 x4=T (D.lt x0 (O (N x2))) (T (D.le 0 x0) (T (U (V x0) (N x2)) (T (U (V x0) (N x2)) (T (D.le 0 x0) (T (U (V x0) (N x4)) (T (U (V x0) (N x4)) (T (U (V x0) (N x2)) (T (U (V x0) (N x4)) (B (cK k (E x2 (V x0) []) (E x4 (V x0) [])) fun r1=>T (D.no r1) (some false) (aU.L1 k j (Z .i64 (A x0 1)) x1 x2 x3 x4)) none) none) none) none) none) none) none) none) (some true):=(jn _ _).trans (by kernel_rfl)
def KC:Code:=cB (cB (bW P 31))
def cO(k:Nat)(a0 a1:LI):Option Bool:=call k 31 (a0,a1)
def cO.L0(k j:Nat)(x0:Int)(x1 x2:LI):Option Bool:=LL k 31 (cC (cC (cB (cA KC)))) j (a9 0 (JK k 31 (cB KC) (R0 31))) [frm 26 [(0,Sl 0),(1,Sl 1),(5,In x0)]] [Ro x1,Ro x2]
theorem cO.eq(k:Nat)(a0 a1):cO (k+1) a0 a1=T (D.no (D.eq (O (N a0)) (O (N a1)))) (some false) (cO.L0 k k 0 a0 a1):=by kernel_rfl
theorem cO.aT(k j:Nat)(x0 x1 x2):cO.L0 k (j+1) x0 x1 x2=T (D.lt x0 (O (N x1))) (T (D.le 0 x0) (T (U (V x0) (N x1)) (T (U (V x0) (N x1)) (T (D.le 0 x0) (T (U (V x0) (N x2)) (T (U (V x0) (N x2)) (T (D.no (D.eq (E x1 (V x0) 0) (E x2 (V x0) 0))) (some false) (cO.L0 k j (Z .i64 (A x0 1)) x1 x2)) none) none) none) none) none) none) (some true):=(jn _ _).trans (by kernel_rfl)
def JF:Code:=cB (cB (bW P 98))
def bq(k:Nat)(a0 a1:LI):Option Bool:=call k 98 (a0,a1)
def bq.L0(k j:Nat)(x0 x1:Int)(x2 x3:LI):Option Bool:=LL k 98 (cC (cC (cB (cA JF)))) j (a9 0 (JK k 98 (cB JF) (R0 98))) [frm 26 [(0,Sl 0),(1,Sl 1),(12,In x0),(13,In x1)]] [Ro x2,Ro x3]
theorem bq.eq(k:Nat)(a0 a1):bq (k+1) a0 a1=T (D.no (D.eq (O (N a0)) (O (N a1)))) (some false) (bq.L0 k k (O (N a0)) 0 a0 a1):=by kernel_rfl
theorem bq.aT(k j:Nat)(x0 x1 x2 x3):bq.L0 k (j+1) x0 x1 x2 x3=T (D.lt x1 x0) (T (D.le 0 x1) (T (U (V x1) (N x2)) (T (U (V x1) (N x2)) (T (D.le 0 x1) (T (U (V x1) (N x3)) (T (U (V x1) (N x3)) (T (D.no (D.eq (E x2 (V x1) 0) (E x3 (V x1) 0))) (some false) (bq.L0 k j x0 (Z .i64 (A x1 1)) x2 x3)) none) none) none) none) none) none) (some true):=(jn _ _).trans (by kernel_rfl)
def Kh:Code:=cB (cB (bW P 152))
def ah(k:Nat)(x0 x1:LJ):Option (Bool×PUnit):=IO_ k 152 0 0 0 [Roo [],Roo []] [[Sl 0,Sl 1,.fn 98 [] []],[Sl 0,Sl 1]] [Roo x0,Roo x1]
def ah.L0(k j:Nat)(x0 x1:Int)(x2 x3:LJ):Option (Bool×PUnit):=LL k 152 (cC (cC (cB (cA Kh)))) j (a9 0 (JK k 152 (cB Kh) (lQ (fI P (o9 P 152) (fun z6 z7=>nE P 152 0 0 0 [Roo [],Roo []] z6 z7))))) [frm 32 [(1,Sl 0),(2,.fn 98 [] []),(15,Sl 1),(16,In x0),(17,In x1)],[Sl 1,Sl 0]] [Roo x2,Roo x3]
theorem ah.eq(k:Nat)(x0 x1):ah (k+1) x0 x1=T (D.no (D.eq (O (N x0)) (O (N x1)))) (some (false,())) (ah.L0 k k (O (N x0)) 0 x1 x0):=by kernel_rfl
theorem ah.aT(k j:Nat)(x0 x1 x2 x3):ah.L0 k (j+1) x0 x1 x2 x3=T (D.lt x1 x0) (T (D.le 0 x1) (T (U (V x1) (N x3)) (T (U (V x1) (N x3)) (T (D.le 0 x1) (T (U (V x1) (N x2)) (T (U (V x1) (N x2)) (T (U (V x1) (N x3)) (T (U (V x1) (N x2)) (B (bq k (E x3 (V x1) []) (E x2 (V x1) [])) fun r0=>T (D.no r0) (some (false,())) (ah.L0 k j x0 (Z .i64 (A x1 1)) x2 x3)) none) none) none) none) none) none) none) none) (some (true,())):=(jn _ _).trans (by kernel_rfl)
def fS(k:Nat)(a0 a1:(LI)×(LJ)):Option Bool:=call k 111 (a0,a1)
theorem fS.eq(k:Nat)(a0 a1):fS (k+1) a0 a1=B (bq k a0.1 a1.1) fun r0=>T r0 (B (ah k a0.2 a1.2) fun r1=>some r1.1) (some false):=by kernel_rfl
def eG(k:Nat)(a0:(LI)×(LJ)):Option Bool:=call k 44 a0
theorem eG.eq(k:Nat)(a0):eG (k+1) a0=B (aL k (a0.1,a0.2)) fun r0=>T r0.2 (B (fS k (r0.1.1,r0.1.2) (a0.1,a0.2)) fun r1=>some r1) (some false):=by kernel_rfl
def gU(k:Nat)(a0 a1:(LI)×(LI)):Option Bool:=call k 47 (a0,a1)
theorem gU.eq(k:Nat)(a0 a1):gU (k+1) a0 a1=B (cK k a0.1 a1.1) fun r0=>T r0 (B (cK k a0.2 a1.2) fun r1=>some r1) (some false):=by kernel_rfl
def Kz:Code:=cB (cB (cB (cB (cB (cB (cB (cB (cB (cB (cB (cB (bW P 5))))))))))))
def bt(k:Nat)(a0:LI):Option Bool:=call k 5 a0
def bt.J0(k:Nat)(x0:Bool)(x1:Int)(x2:Bool)(x3:LI)(x4:LJ)(x5:LI)(x6:LJ)(x7:LI)(x8:LJ)(x9:LI)(x10:LJ):Option Bool:=JJ k 5 Kz (R0 5) [frm 187 [(3,.pv 0 0),(4,.pv 1 0),(5,.bool x0),(8,.pv 2 0),(9,In x1),(10,.pv 3 0),(11,.bool x2)]] [.var [Sl 4,Sl 5],.var [Sl 6,Sl 7],.var [Sl 8,Sl 9],.var [Sl 10,Sl 11],Rw x3,Rww x4,Rw x5,Rww x6,Rw x7,Rww x8,Rw x9,Rww x10]
def bt.J1(k:Nat)(x0:Int)(x1:Bool)(x2:LI)(x3:LJ)(x4:LI)(x5:LJ):Option Bool:=JJ k 5 (cB Kz) (R0 5) [frm 187 [(8,.pv 0 0),(9,In x0),(10,.pv 1 0),(11,.bool x1)]] [.var [Sl 2,Sl 3],.var [Sl 4,Sl 5],Rw x2,Rww x3,Rw x4,Rww x5]
theorem bt.eq(k:Nat)(a0):bt (k+1) a0=B (nx k a0) fun r0=>T r0 (some true) (B (az k a0) fun r1=>B (aL k (r1.1,r1.2)) fun r2=>B (aZ k (r1.1,r1.2)) fun r3=>B (ar k a0) fun r4=>B (b7 k (r4.1.1,r4.1.2) r4.2) fun r5=>B (eY k (r4.1.1,r4.1.2) r4.2) fun r6=>B (eF k a0) fun r7=>B (dW k r7.1 r7.2) fun r8=>B (eO k r7.1 r7.2) fun r9=>T (D.no (D.eqB r2.2 r3.2)) (some false) (B (aU k (r2.1.1,r2.1.2) (r3.1.1,r3.1.2)) fun r10=>T (D.no r10) (some false) (T (D.no (D.eqB r5.2 r6.2)) (some false) (B (aU k (r5.1.1,r5.1.2) (r6.1.1,r6.1.2)) fun r11=>T (D.no r11) (some false) (T (D.no (D.eqB r8.2 r9.2)) (some false) (B (cO k r8.1 r9.1) fun r12=>T (D.no r12) (some false) (B (eG k (r1.1,r1.2)) fun r13=>T r3.2 (B (aU k (r3.1.1,r3.1.2) (r1.1,r1.2)) fun r14=>T (D.no (D.eqB r13 r14)) (some false) (bt.J0 k r2.2 r4.2 r5.2 r1.1 r1.2 r2.1.1 r2.1.2 r4.1.1 r4.1.2 r5.1.1 r5.1.2)) (T (D.no (D.eqB r13 false)) (some false) (bt.J0 k r2.2 r4.2 r5.2 r1.1 r1.2 r2.1.1 r2.1.2 r4.1.1 r4.1.2 r5.1.1 r5.1.2))))))))):=by kernel_rfl
theorem bt.iy(k:Nat)(x0 x1 x2 x3 x4 x5 x6 x7 x8 x9 x10):bt.J0 k x0 x1 x2 x3 x4 x5 x6 x7 x8 x9 x10=T x0 (B (aL k (x5,x6)) fun r15=>B (br k (x3,x4)) fun r16=>B (b7 k (x3,x4) (O (N r16))) fun r17=>T (D.no r15.2) (some false) (B (aU k (r15.1.1,r15.1.2) (x3,x4)) fun r18=>T (D.no r18) (some false) (T (D.lt 0 (O (N r16))) (T (D.no r17.2) (some false) (B (aU k (r17.1.1,r17.1.2) (x5,x6)) fun r19=>T (D.no r19) (some false) (bt.J1 k x1 x2 x7 x8 x9 x10))) (bt.J1 k x1 x2 x7 x8 x9 x10)))) (bt.J1 k x1 x2 x7 x8 x9 x10):=(jn _ _).trans (by kernel_rfl)
theorem bt.eM(k:Nat)(x0 x1 x2 x3 x4 x5):bt.J1 k x0 x1 x2 x3 x4 x5=T (D.no x1) (some true) (B (b7 k (x4,x5) x0) fun r20=>B (bV k (x2,x3)) fun r21=>B (bV k (x4,x5)) fun r22=>T r20.2 (B (aU k (r20.1.1,r20.1.2) (x2,x3)) fun r23=>T r23 (B (gU k (r21.1.1,r21.1.2) (r22.1.1,r22.1.2)) fun r24=>some r24) (some false)) (some false)):=(jn _ _).trans (by kernel_rfl)
end Go.Am.Seat
