/- The machine's equations for the functions that the law reaches, each checked by the kernel; no conditions. -/
import Derived.Test.YtloognjnfelgfaaGreatDoorCfgFnExamples
import Derived.Test.YtloognjnfelgfaaGreatDoorProg
set_option linter.unusedSimpArgs false
set_option linter.unusedVariables false
set_option linter.unnecessarySimpa false
set_option linter.unusedSectionVars false
noncomputable section
namespace Go.Am.Seat
open Go Go.Am Go.Proofs
set_option linter.unusedVariables false
set_option linter.unusedSectionVars false
set_option maxRecDepth 100000
variable [D] [DJ]
abbrev LI:=List Int
abbrev LJ:=List (List Int)
abbrev P:Program:=Go.Proofs.Tryz.prog
def ext:Ext P:=Dp P Dj
def X{R:Type}(k f:Nat)(c:Code):St→cY R→Option R:=exec P cfg (oB P cfg ext k) k f c
abbrev call(k f:Nat)(x:den (gk P f)):Option (den (resTy P f)):=xz P cfg ext k f x
def R0(f:Nat):cY (den (resTy P f)):=oF (finish P f (ya P f))
def JK{T:Type}(k f:Nat)(c:Code)(K:cY T):cY T:=qE (fun a b=>iF (Cfg.joins cfg f (key c)) (fun s=>X k f c s b) a) K
def LK{T:Type}(k f:Nat)(c:Code)(j:Nat)(K:cY T):cY T:=qE (fun a b=>iF (Cfg.loops cfg f (key c)) (fun s=>kg (fun x y=>X k f c x y) (Cfg.loops cfg f (key c)) j s b) a) K
def trN:Nat→List (Nat×Touch)
 |0=> []
 |n+1=>(n,gE)::trN n
def LL{T:Type}(k f:Nat)(c:Code)(j:Nat)(K:cY T)(fr:List (List AV))(rs:List al):Option T:=D.jn (fun a=>kg (fun x y=>X k f c x y) (Cfg.loops cfg f (key c)) j a K) (St.mk fr rs)
def JJ{T:Type}(k f:Nat)(c:Code)(K:cY T)(fr:List (List AV))(rs:List al):Option T:=D.jn (fun a=>X k f c a K) (St.mk fr rs)
abbrev IO_(k f nV nD n:Nat)(rs0:List al)(fr:List (List AV))(rs:List al):Option (den (resTy P f)×den (se nV nD n rs0)):=lg (oB P cfg ext k) f nV nD n rs0 (St.mk fr rs)
def Sl(n:Nat):AV:= .sl n [] none
def In(n:Int):AV:= .int .i64 n
def Rw(x:LI):al:= .row Bool.true (.int .i64) x
def Rww(x:LJ):al:= .row Bool.true (.sl (.int .i64)) x
def Ro(x:LI):al:= .row Bool.false (.int .i64) x
def Roo(x:LJ):al:= .row Bool.false (.sl (.int .i64)) x
open Go.Am.D renaming test → T, bnd → B, len → N, nat → V, ltN → U, rd → E, ofN → O, wrap → Z, add → A, sub → M
open Go.Am.DJ renaming jn_eq → jn
open Go.Am.Code (cA cB cC cT)
def lQ(k:Nat)(a0:LI):Option Bool:=call k 9 a0
theorem lQ.eq(k:Nat)(a0):lQ (k+1) a0=some (D.lt 1048576 (O (N a0))):=by kernel_rfl
def dm(k:Nat)(x0 x1:Int)(x2:LI):Option (Int×(PUnit×(Int×Int))):=IO_ k 75 1 0 1 [.var [Sl 1,In 0,In 0],.row Bool.false (.int .u8) []] [[.pv 0 0],[.pv 0 0,Sl 1]] [.var [Sl 1,In x0,In x1],.row Bool.false (.int .u8) x2]
theorem dm.eq(k:Nat)(x0 x1 x2):dm (k+1) x0 x1 x2=T (D.le 0 33) (T (D.le 0 45) (T (D.lt x0 (O (N x2))) (T (D.le 0 x0) (T (U (V x0) (N x2)) (T (U (V x0) (N x2)) (some ((D.andI .i64 (Z .i64 (A (D.andI .i64 (D.xorI .i64 (D.shrI .i64 (Z .i64 (A (Z .i64 (D.mul x1 6364136223846793005)) 1442695040888963407)) 33) (D.shrI .i64 (Z .i64 (A (Z .i64 (D.mul x1 6364136223846793005)) 1442695040888963407)) 45)) 255) (Z .i64 (E x2 (V x0) 0)))) 255),((),((Z .i64 (A x0 1)),(Z .i64 (A (Z .i64 (D.mul x1 6364136223846793005)) 1442695040888963407)))))) none) none) none) (some ((D.andI .i64 (D.xorI .i64 (D.shrI .i64 (Z .i64 (A (Z .i64 (D.mul x1 6364136223846793005)) 1442695040888963407)) 33) (D.shrI .i64 (Z .i64 (A (Z .i64 (D.mul x1 6364136223846793005)) 1442695040888963407)) 45)) 255),((),(x0,(Z .i64 (A (Z .i64 (D.mul x1 6364136223846793005)) 1442695040888963407))))))) none) none:=by kernel_rfl
def bo(k:Nat)(x0 x1 x2:Int)(x3:LI):Option (Int×(PUnit×(Int×Int))):=IO_ k 32 1 0 1 [.var [Sl 1,In 0,In 0],.row Bool.false (.int .u8) []] [[.pv 0 0,In x0],[.pv 0 0,Sl 1]] [.var [Sl 1,In x1,In x2],.row Bool.false (.int .u8) x3]
theorem bo.eq(k:Nat)(x0 x1 x2 x3):bo (k+1) x0 x1 x2 x3=T (D.le x0 0) (some ((0:Int),((),(x1,x2)))) (T (D.le x0 256) (B (dm k x1 x2 x3) fun r0=>T (D.no (D.eq x0 0)) (some ((D.rem r0.1 x0),((),(r0.2.2.1,r0.2.2.2)))) none) (B (dm k x1 x2 x3) fun r1=>B (dm k r1.2.2.1 r1.2.2.2 x3) fun r2=>B (dm k r2.2.2.1 r2.2.2.2 x3) fun r3=>B (dm k r3.2.2.1 r3.2.2.2 x3) fun r4=>T (D.no (D.eq x0 0)) (some ((D.rem (Z .i64 (A (Z .i64 (A (Z .i64 (A (Z .i64 (D.mul r1.1 16777216)) (Z .i64 (D.mul r2.1 65536)))) (Z .i64 (D.mul r3.1 256)))) r4.1)) x0),((),(r4.2.2.1,r4.2.2.2)))) none)):=by kernel_rfl
def c1:Code:=cB (cB (cJ P 33))
def c2:Code:=cC (cC (cB (cA c1)))
def c3:Code:=cB c1
def c4:Code:=cB (cJ P 10)
def c5:Code:=cA c4
def K6(k:Nat):cY (den (resTy P 10)):=oF (iE P (ya P 33) (fun z6 z7=>St.force (St.put z7 (Go.Oper.dst (Ep (Code.ops c5) 1)) (rM z6)) ((fun z8 z9=>iP (Code.ops c5) 1 (Ep (Code.ops c5) 1) z9 ((fun z10 z11=>fm P cfg (oB P cfg ext (k+1)) Option.none (Code.ops c5) [2,3,4] (trN 2) z11 (fun z12 z13=>JK (k+1) 10 (cB c4) (R0 10) .normal z13)) z8)) (Touch.mk [] [] [] Bool.true))))
def K7(k:Nat):cY (den (resTy P 10)):=bH 0 (JK k 33 c3 (K6 k))
def an(k:Nat)(a0:LI):Option Int:=call k 10 a0
def an.L0(k j:Nat)(x0 x1 x2:Int)(x3:LI):Option Int:=LL k 33 c2 j (K7 k) [frm 32 [(0,Sl 0),(3,In x0),(4,In x1)],frm 7 [(0,Sl 0),(1,.tup []),(2,In x2),(3,Sl 0),(4,.tup []),(5,.tup []),(6,.tup [])]] [.row Bool.false (.int .u8) x3]
def an.J1(k k1:Nat)(x0 x1 x2:Int)(x3:LI):Option Int:=JJ k 33 (cB c2) (LK k 33 c2 k1 (K7 k)) [frm 32 [(0,Sl 0),(3,In x0),(4,In x1)],frm 7 [(0,Sl 0),(1,.tup []),(2,In x2),(3,Sl 0),(4,.tup []),(5,.tup []),(6,.tup [])]] [.row Bool.false (.int .u8) x3]
def an.J2(k:Nat)(x0 x1:Int)(x2:LI):Option Int:=JJ k 33 c3 (K6 k) [frm 32 [(0,Sl 0),(3,In x0)],frm 7 [(0,Sl 0),(1,.tup []),(2,In x1),(3,Sl 0),(4,.tup []),(5,.tup []),(6,.tup [])]] [.row Bool.false (.int .u8) x2]
theorem an.eq(k:Nat)(a0):an (k+2) a0=an.L0 k k (Z .i64 (A 26583 (O (N a0)))) 0 0 a0:=by kernel_rfl
theorem an.bm(k j:Nat)(x0 x1 x2 x3):an.L0 k (j+1) x0 x1 x2 x3=T (D.lt x1 (O (N x3))) (T (D.lt x1 4000) (an.J1 k j x0 x1 x2 x3) (an.J2 k x0 x2 x3)) (an.J2 k x0 x2 x3):=(jn _ _).trans (by kernel_rfl)
theorem an.fJ(k k1:Nat)(x0 x1 x2 x3):an.J1 k k1 x0 x1 x2 x3=T (D.le 0 x1) (T (U (V x1) (N x3)) (T (U (V x1) (N x3)) (an.L0 k k1 (D.andI .i64 (Z .i64 (A (Z .i64 (A (Z .i64 (D.mul x0 131)) (Z .i64 (E x3 (V x1) 0)))) 7)) 1073741823) (Z .i64 (A x1 1)) x2 x3) none) none) none:=(jn _ _).trans (by kernel_rfl)
theorem an.jW(k:Nat)(x0 x1 x2):an.J2 k x0 x1 x2=B (bo (k+1) 9 0 x0 x2) fun r0=>some (Z .i64 (M r0.1 1)):=(jn _ _).trans (by kernel_rfl)
def c8:Code:=cB (cB (cB (cJ P 118)))
def bI(k:Nat)(x0 x1 x2 x3:Int)(x4:LI):Option ((LI)×(PUnit×(Int×Int))):=IO_ k 118 1 0 1 [.var [Sl 1,In 0,In 0],.row Bool.false (.int .u8) []] [[.pv 0 0,In x0,In x1],[.pv 0 0,Sl 1]] [.var [Sl 1,In x2,In x3],.row Bool.false (.int .u8) x4]
def bI.L0(k j:Nat)(x0 x1 x2 x3 x4:Int)(x5 x6:LI):Option ((LI)×(PUnit×(Int×Int))):=LL k 118 (cC (cC (cB (cA c8)))) j (bH 0 (JK k 118 (cB c8) (oF (iE P (ya P 118) (fun z7 z8=>qb P 118 1 0 1 [.var [Sl 1,In 0,In 0],.row Bool.false (.int .u8) []] z7 z8))))) [frm 28 [(0,.pv 0 0),(2,In x0),(7,Sl 1),(8,In x1),(9,In x2)],[.pv 0 0,Sl 2]] [.var [Sl 2,In x3,In x4],Rw x5,.row Bool.false (.int .u8) x6]
theorem bI.eq(k:Nat)(x0 x1 x2 x3 x4):bI (k+1) x0 x1 x2 x3 x4=B (bo k (Z .i64 (A x0 1)) x2 x3 x4) fun r0=>bI.L0 k k x1 r0.1 0 r0.2.2.1 r0.2.2.2 ([]:LI) x4:=by kernel_rfl
theorem bI.bm(k j:Nat)(x0 x1 x2 x3 x4 x5 x6):bI.L0 k (j+1) x0 x1 x2 x3 x4 x5 x6=T (D.lt x2 x1) (B (bo k x0 x3 x4 x6) fun r1=>T (D.leN (N (D.app x5 ((Z .i64 (A 1 r1.1))::([]:LI)))) 1099511627776) (bI.L0 k j x0 x1 (Z .i64 (A x2 1)) r1.2.2.1 r1.2.2.2 (D.app x5 ((Z .i64 (A 1 r1.1))::([]:LI))) x6) none) (some (x5,((),(x3,x4)))):=(jn _ _).trans (by kernel_rfl)
def eL(k:Nat)(x0 x1 x2:Int)(x3:LI):Option (Bool×(PUnit×(Int×Int))):=IO_ k 119 1 0 1 [.var [Sl 1,In 0,In 0],.row Bool.false (.int .u8) []] [[.pv 0 0,In x0],[.pv 0 0,Sl 1]] [.var [Sl 1,In x1,In x2],.row Bool.false (.int .u8) x3]
theorem eL.eq(k:Nat)(x0 x1 x2 x3):eL (k+1) x0 x1 x2 x3=B (bo k x0 x1 x2 x3) fun r0=>some ((D.eq r0.1 0),((),(r0.2.2.1,r0.2.2.2))):=by kernel_rfl
def fP(k:Nat)(a0 a1 a2:Int):Option Bool:=call k 92 (a0,a1,a2)
theorem fP.eq(k:Nat)(a0 a1 a2):fP (k+1) a0 a1 a2=T (D.le a1 a0) (some (D.le a0 a2)) (some false):=by kernel_rfl
def c9:Code:=cB (cJ P 49)
def aS(k:Nat)(a0:LI):Option Bool:=call k 49 a0
def aS.L0(k j:Nat)(x0:Int)(x1:LI):Option Bool:=LL k 49 (cC (cC (cB (cA c9)))) j (bH 0 (JK k 49 (cB c9) (R0 49))) [frm 19 [(0,Sl 0),(3,In x0)]] [Ro x1]
theorem aS.eq(k:Nat)(a0):aS (k+1) a0=aS.L0 k k 0 a0:=by kernel_rfl
theorem aS.bm(k j:Nat)(x0 x1):aS.L0 k (j+1) x0 x1=T (D.lt x0 (O (N x1))) (T (D.le 0 x0) (T (U (V x0) (N x1)) (T (U (V x0) (N x1)) (B (fP k (E x1 (V x0) 0) 1 9) fun r0=>T (D.no r0) (some false) (aS.L0 k j (Z .i64 (A x0 1)) x1)) none) none) none) (some (D.le (O (N x1)) 9)):=(jn _ _).trans (by kernel_rfl)
def eA(k:Nat)(a0:Bool):Option Int:=call k 102 a0
theorem eA.eq(k:Nat)(a0):eA (k+1) a0=T a0 (some 1) (some 0):=by kernel_rfl
def c10:Code:=cB (cB (cJ P 120))
def c11:Code:=cC (cC (cB (cA c10)))
def K12(k:Nat):cY (den (resTy P 120)):=bH 0 (JK k 120 (cB c10) (R0 120))
def c13:Code:=cB c11
def K14(k k1:Nat):cY (den (resTy P 120)):=LK k 120 c11 k1 (K12 k)
def c15:Code:=cB (cC (cA c13))
def c16:Code:=cC (cC (cB (cA c15)))
def K17(k k1:Nat):cY (den (resTy P 120)):=bH 2 (JK k 120 (cB c15) (bH 1 (JK k 120 (cB c13) (K14 k k1))))
def aj(k:Nat)(a0:LI):Option LI:=call k 120 a0
def aj.L0(k j:Nat)(x0:Int)(x1 x2:LI):Option LI:=LL k 120 c11 j (K12 k) [frm 57 [(0,Sl 0),(3,Sl 1),(4,In x0)]] [Ro x1,Rw x2]
def aj.J1(k k1:Nat)(x0:Int)(x1 x2:LI):Option LI:=JJ k 120 c13 (K14 k k1) [frm 57 [(0,Sl 0),(3,Sl 1),(4,In x0)]] [Ro x1,Rw x2]
def aj.L2(k k1 j:Nat)(x0 x1 x2:Int)(x3 x4:LI):Option LI:=LL k 120 c16 j (K17 k k1) [frm 57 [(0,Sl 0),(3,Sl 1),(4,In x0),(5,In x1),(6,In x2)]] [Ro x3,Rw x4]
def aj.J3(k k1 k2:Nat)(x0 x1 x2:Int)(x3 x4:LI):Option LI:=JJ k 120 (cB (cB c16)) (LK k 120 c16 k2 (K17 k k1)) [frm 57 [(0,Sl 0),(3,Sl 1),(4,In x0),(5,In x1),(6,In x2)]] [Ro x3,Rw x4]
theorem aj.eq(k:Nat)(a0):aj (k+1) a0=aj.L0 k k 0 a0 ([]:LI):=by kernel_rfl
theorem aj.bm(k j:Nat)(x0 x1 x2):aj.L0 k (j+1) x0 x1 x2=T (D.lt x0 (O (N x1))) (B (aS k x1) fun r0=>T r0 (aj.J1 k j x0 x1 x2) (some x2)) (some x2):=(jn _ _).trans (by kernel_rfl)
theorem aj.fJ(k k1:Nat)(x0 x1 x2):aj.J1 k k1 x0 x1 x2=aj.L2 k k1 k x0 1 0 x1 x2:=(jn _ _).trans (by kernel_rfl)
theorem aj.zG(k k1 j:Nat)(x0 x1 x2 x3 x4):aj.L2 k k1 (j+1) x0 x1 x2 x3 x4=T (D.lt x2 (O (N x3))) (T (D.le 0 x2) (T (U (V x2) (N x3)) (T (U (V x2) (N x3)) (T (D.le 0 x0) (T (U (V x0) (N x3)) (T (U (V x0) (N x3)) (T (D.lt (E x3 (V x2) 0) (E x3 (V x0) 0)) (B (eA k true) fun r1=>aj.J3 k k1 j x0 (Z .i64 (A x1 r1)) x2 x3 x4) (T (D.le 0 x2) (T (U (V x2) (N x3)) (T (U (V x2) (N x3)) (T (D.le 0 x0) (T (U (V x0) (N x3)) (T (U (V x0) (N x3)) (T (D.eq (E x3 (V x2) 0) (E x3 (V x0) 0)) (B (eA k (D.lt x2 x0)) fun r2=>aj.J3 k k1 j x0 (Z .i64 (A x1 r2)) x2 x3 x4) (B (eA k false) fun r3=>aj.J3 k k1 j x0 (Z .i64 (A x1 r3)) x2 x3 x4)) none) none) none) none) none) none)) none) none) none) none) none) none) (T (D.leN (N (D.app x4 (x1::([]:LI)))) 1099511627776) (aj.L0 k k1 (Z .i64 (A x0 1)) x3 (D.app x4 (x1::([]:LI)))) none):=(jn _ _).trans (by kernel_rfl)
theorem aj.vL(k k1 k2:Nat)(x0 x1 x2 x3 x4):aj.J3 k k1 k2 x0 x1 x2 x3 x4=aj.L2 k k1 k2 x0 x1 (Z .i64 (A x2 1)) x3 x4:=(jn _ _).trans (by kernel_rfl)
def fc(k:Nat)(x0 x1:Int)(x2:LI):Option ((LI)×(PUnit×(Int×Int))):=IO_ k 76 1 0 1 [.var [Sl 1,In 0,In 0],.row Bool.false (.int .u8) []] [[.pv 0 0],[.pv 0 0,Sl 1]] [.var [Sl 1,In x0,In x1],.row Bool.false (.int .u8) x2]
theorem fc.eq(k:Nat)(x0 x1 x2):fc (k+1) x0 x1 x2=B (bo k 4 x0 x1 x2) fun r0=>B (bI k 7 (Z .i64 (A 2 r0.1)) r0.2.2.1 r0.2.2.2 x2) fun r1=>B (eL k 3 r1.2.2.1 r1.2.2.2 x2) fun r2=>T r2.1 (B (aj k r1.1) fun r3=>some (r3,((),(r2.2.2.1,r2.2.2.2)))) (some (r1.1,((),(r2.2.2.1,r2.2.2.2)))):=by kernel_rfl
def dJ(k:Nat)(x0 x1:Int)(x2 x3:LI):Option (Int×(PUnit×(Int×Int))):=IO_ k 77 1 0 1 [.var [Sl 2,In 0,In 0],Ro [],.row Bool.false (.int .u8) []] [[.pv 0 0,Sl 1],[.pv 0 0,Sl 1,Sl 2]] [.var [Sl 2,In x0,In x1],Ro x2,.row Bool.false (.int .u8) x3]
theorem dJ.eq(k:Nat)(x0 x1 x2 x3):dJ (k+1) x0 x1 x2 x3=B (bo k (O (N x2)) x0 x1 x3) fun r0=>T (D.le 0 r0.1) (T (U (V r0.1) (N x2)) (T (U (V r0.1) (N x2)) (some ((E x2 (V r0.1) 0),((),(r0.2.2.1,r0.2.2.2)))) none) none) none:=by kernel_rfl
def c18:Code:=cB (cB (cJ P 34))
def bD(k:Nat)(x0 x1:Int)(x2:LI):Option ((LI)×(PUnit×(Int×Int))):=IO_ k 34 1 0 1 [.var [Sl 1,In 0,In 0],.row Bool.false (.int .u8) []] [[.pv 0 0],[.pv 0 0,Sl 1]] [.var [Sl 1,In x0,In x1],.row Bool.false (.int .u8) x2]
def bD.L0(k j:Nat)(x0:LI)(x1 x2:Int)(x3:LI):Option ((LI)×(PUnit×(Int×Int))):=LL k 34 (cC (cC (cT (cB (Code.cE (cB (cC (cB (cA c18))))))))) j (bH 1 (bH 0 (JK k 34 (cB c18) (oF (iE P (ya P 34) (fun z9 z10=>qb P 34 1 0 1 [.var [Sl 1,In 0,In 0],.row Bool.false (.int .u8) []] z9 z10)))))) [frm 25 [(3,Sl 0)],[.pv 1 0,Sl 2]] [Rw x0,.var [Sl 2,In x1,In x2],.row Bool.false (.int .u8) x3]
theorem bD.eq(k:Nat)(x0 x1 x2):bD (k+1) x0 x1 x2=B (fc k x0 x1 x2) fun r0=>B (bo k 14 r0.2.2.1 r0.2.2.2 x2) fun r1=>T (D.eq r1.1 0) (B (dJ k r1.2.2.1 r1.2.2.2 (0::(10::((-1)::(9::([]:LI))))) x2) fun r2=>T (D.leN (N (D.app r0.1 (r2.1::([]:LI)))) 1099511627776) (some ((D.app r0.1 (r2.1::([]:LI))),((),(r2.2.2.1,r2.2.2.2)))) none) (T (D.eq r1.1 1) (bD.L0 k k r0.1 r1.2.2.1 r1.2.2.2 x2) (some (r0.1,((),(r1.2.2.1,r1.2.2.2))))):=by kernel_rfl
theorem bD.bm(k j:Nat)(x0 x1 x2 x3):bD.L0 k (j+1) x0 x1 x2 x3=T (D.lt (O (N x0)) 10) (T (D.leN (N (D.app x0 (1::([]:LI)))) 1099511627776) (bD.L0 k j (D.app x0 (1::([]:LI))) x1 x2 x3) none) (some (x0,((),(x1,x2)))):=(jn _ _).trans (by kernel_rfl)
def c19:Code:=cB (cB (cJ P 33))
def c20:Code:=cC (cC (cB (cA c19)))
def c21:Code:=cB c19
def c22:Code:=cB (cJ P 11)
def c23:Code:=cA c22
def K24(k:Nat):cY (den (resTy P 11)):=oF (iE P (ya P 33) (fun z6 z7=>St.force (St.put z7 (Go.Oper.dst (Ep (Code.ops c23) 1)) (rM z6)) ((fun z8 z9=>iP (Code.ops c23) 1 (Ep (Code.ops c23) 1) z9 ((fun z10 z11=>fm P cfg (oB P cfg ext (k+1)) Option.none (Code.ops c23) [2,3] (trN 2) z11 (fun z12 z13=>JK (k+1) 11 (cB c22) (R0 11) .normal z13)) z8)) (Touch.mk [] [] [] Bool.true))))
def K25(k:Nat):cY (den (resTy P 11)):=bH 0 (JK k 33 c21 (K24 k))
def aw(k:Nat)(a0:LI):Option LI:=call k 11 a0
def aw.L0(k j:Nat)(x0 x1:Int)(x2 x3:LI):Option LI:=LL k 33 c20 j (K25 k) [frm 32 [(0,Sl 0),(3,In x0),(4,In x1)],frm 6 [(0,Sl 0),(1,.tup []),(2,Sl 1),(3,Sl 0),(4,.tup []),(5,.tup [])]] [.row Bool.false (.int .u8) x2,Rw x3]
def aw.J1(k k1:Nat)(x0 x1:Int)(x2 x3:LI):Option LI:=JJ k 33 (cB c20) (LK k 33 c20 k1 (K25 k)) [frm 32 [(0,Sl 0),(3,In x0),(4,In x1)],frm 6 [(0,Sl 0),(1,.tup []),(2,Sl 1),(3,Sl 0),(4,.tup []),(5,.tup [])]] [.row Bool.false (.int .u8) x2,Rw x3]
def aw.J2(k:Nat)(x0:Int)(x1 x2:LI):Option LI:=JJ k 33 c21 (K24 k) [frm 32 [(0,Sl 0),(3,In x0)],frm 6 [(0,Sl 0),(1,.tup []),(2,Sl 1),(3,Sl 0),(4,.tup []),(5,.tup [])]] [.row Bool.false (.int .u8) x1,Rw x2]
theorem aw.eq(k:Nat)(a0):aw (k+2) a0=aw.L0 k k (Z .i64 (A 26583 (O (N a0)))) 0 a0 ([]:LI):=by kernel_rfl
theorem aw.bm(k j:Nat)(x0 x1 x2 x3):aw.L0 k (j+1) x0 x1 x2 x3=T (D.lt x1 (O (N x2))) (T (D.lt x1 4000) (aw.J1 k j x0 x1 x2 x3) (aw.J2 k x0 x2 x3)) (aw.J2 k x0 x2 x3):=(jn _ _).trans (by kernel_rfl)
theorem aw.fJ(k k1:Nat)(x0 x1 x2 x3):aw.J1 k k1 x0 x1 x2 x3=T (D.le 0 x1) (T (U (V x1) (N x2)) (T (U (V x1) (N x2)) (aw.L0 k k1 (D.andI .i64 (Z .i64 (A (Z .i64 (A (Z .i64 (D.mul x0 131)) (Z .i64 (E x2 (V x1) 0)))) 7)) 1073741823) (Z .i64 (A x1 1)) x2 x3) none) none) none:=(jn _ _).trans (by kernel_rfl)
theorem aw.jW(k:Nat)(x0 x1 x2):aw.J2 k x0 x1 x2=B (bD (k+1) 0 x0 x1) fun r0=>some r0.1:=(jn _ _).trans (by kernel_rfl)
def cV(k:Nat)(a0 a1 a2:Int):Option Bool:=call k 36 (a0,a1,a2)
theorem cV.eq(k:Nat)(a0 a1 a2):cV (k+1) a0 a1 a2=T (D.le a1 a0) (some (D.le a0 a2)) (some false):=by kernel_rfl
def cr(k:Nat)(a0:Int):Option ByteArray:=call k 13 a0
theorem cr.eq(k:Nat)(a0):cr (k+1) a0=B (cV k a0 1 6) fun r0=>T (D.no r0) (some (⟨#[]⟩:ByteArray)) (T (D.le 0 (Z .i64 (M a0 1))) (T (U (V (Z .i64 (M a0 1))) (N ((⟨#[51,49,50]⟩:ByteArray)::((⟨#[50,49,49,51]⟩:ByteArray)::((⟨#[53,52,51,50,49]⟩:ByteArray)::((⟨#[49,50,49,50]⟩:ByteArray)::((⟨#[45]⟩:ByteArray)::((⟨#[51,53,49,52,50]⟩:ByteArray)::([]:List ByteArray))))))))) (T (U (V (Z .i64 (M a0 1))) (N ((⟨#[51,49,50]⟩:ByteArray)::((⟨#[50,49,49,51]⟩:ByteArray)::((⟨#[53,52,51,50,49]⟩:ByteArray)::((⟨#[49,50,49,50]⟩:ByteArray)::((⟨#[45]⟩:ByteArray)::((⟨#[51,53,49,52,50]⟩:ByteArray)::([]:List ByteArray))))))))) (some (E ((⟨#[51,49,50]⟩:ByteArray)::((⟨#[50,49,49,51]⟩:ByteArray)::((⟨#[53,52,51,50,49]⟩:ByteArray)::((⟨#[49,50,49,50]⟩:ByteArray)::((⟨#[45]⟩:ByteArray)::((⟨#[51,53,49,52,50]⟩:ByteArray)::([]:List ByteArray))))))) (V (Z .i64 (M a0 1))) (⟨#[]⟩:ByteArray))) none) none) none):=by kernel_rfl
def fD(k:Nat)(x0:Int):Option (Bool×PUnit):=IO_ k 121 0 0 0 [] [[In x0],[]] []
theorem fD.eq(k:Nat)(x0):fD (k+1) x0=B (cV k x0 1 9) fun r0=>some ((D.no r0),()):=by kernel_rfl
def c26:Code:=cB (cJ P 145)
def au(k:Nat)(x0:LI):Option (Int×PUnit):=IO_ k 145 0 0 0 [Ro []] [[Sl 0,.fn 121 [] []],[Sl 0]] [Ro x0]
def au.L0(k j:Nat)(x0 x1:Int)(x2:LI):Option (Int×PUnit):=LL k 145 (cC (cC (cB (cA c26)))) j (bH 0 (JK k 145 (cB c26) (oF (iE P (ya P 145) (fun z6 z7=>qb P 145 0 0 0 [Ro []] z6 z7))))) [frm 19 [(0,Sl 0),(1,.fn 121 [] []),(7,In x0),(8,In x1)],[Sl 0]] [Ro x2]
theorem au.eq(k:Nat)(x0):au (k+1) x0=au.L0 k k (O (N x0)) 0 x0:=by kernel_rfl
theorem au.bm(k j:Nat)(x0 x1 x2):au.L0 k (j+1) x0 x1 x2=T (D.lt x1 x0) (T (D.le 0 x1) (T (U (V x1) (N x2)) (T (U (V x1) (N x2)) (B (fD k (E x2 (V x1) 0)) fun r0=>T r0.1 (some (x1,())) (au.L0 k j x0 (Z .i64 (A x1 1)) x2)) none) none) none) (some ((-1:Int),())):=(jn _ _).trans (by kernel_rfl)
def bg(k:Nat)(x0:LI):Option (Bool×PUnit):=IO_ k 116 0 0 0 [Ro []] [[Sl 0,.fn 121 [] []],[Sl 0]] [Ro x0]
theorem bg.eq(k:Nat)(x0):bg (k+1) x0=B (au k x0) fun r0=>some ((D.le 0 r0.1),()):=by kernel_rfl
def cG(k:Nat)(a0:LI):Option Bool:=call k 78 a0
theorem cG.eq(k:Nat)(a0):cG (k+1) a0=T (D.le (O (N a0)) 9) (B (bg k a0) fun r0=>some (D.no r0.1)) (some false):=by kernel_rfl
def strconv_Itoa(k:Nat)(a0:Int):Option ByteArray:=call k 91 a0
theorem strconv_Itoa.eq(k:Nat)(a0):strconv_Itoa (k+1) a0=sK a0:=by kernel_rfl
def dF(k:Nat)(a0:Int):Option ByteArray:=call k 45 a0
theorem dF.eq(k:Nat)(a0):dF (k+1) a0=B (strconv_Itoa k a0) fun r0=>some r0:=by kernel_rfl
def strings_Join(k:Nat)(a0:List ByteArray)(a1:ByteArray):Option ByteArray:=call k 84 (a0,a1)
theorem strings_Join.eq(k:Nat)(a0 a1):strings_Join (k+1) a0 a1=rV a0 a1:=by kernel_rfl
def gW(k:Nat)(a0:List ByteArray)(a1:ByteArray):Option ByteArray:=call k 41 (a0,a1)
theorem gW.eq(k:Nat)(a0 a1):gW (k+1) a0 a1=B (strings_Join k a0 a1) fun r0=>some r0:=by kernel_rfl
def c27:Code:=cB (cB (cJ P 88))
def cy(k:Nat)(a0:LI)(a1:ByteArray):Option ByteArray:=call k 88 (a0,a1)
def cy.L0(k j:Nat)(x0:ByteArray)(x1 x2:Int)(x3:List ByteArray)(x4:LI):Option ByteArray:=LL k 88 (cC (cC (cB (cA c27)))) j (bH 0 (JK k 88 (cB c27) (R0 88))) [frm 24 [(1,.str x0),(5,Sl 0),(9,Sl 1),(10,In x1),(11,In x2)]] [.row Bool.true .str x3,Ro x4]
theorem cy.eq(k:Nat)(a0 a1):cy (k+1) a0 a1=cy.L0 k k a1 (O (N a0)) 0 ([]:List ByteArray) a0:=by kernel_rfl
theorem cy.bm(k j:Nat)(x0 x1 x2 x3 x4):cy.L0 k (j+1) x0 x1 x2 x3 x4=T (D.lt x2 x1) (T (D.le 0 x2) (T (U (V x2) (N x4)) (T (U (V x2) (N x4)) (B (dF k (E x4 (V x2) 0)) fun r0=>T (D.leN (N (D.app x3 (r0::([]:List ByteArray)))) 1099511627776) (cy.L0 k j x0 x1 (Z .i64 (A x2 1)) (D.app x3 (r0::([]:List ByteArray))) x4) none) none) none) none) (B (gW k x3 x0) fun r1=>some r1):=(jn _ _).trans (by kernel_rfl)
def fg(k:Nat)(a0:LI):Option ByteArray:=call k 48 a0
theorem fg.eq(k:Nat)(a0):fg (k+1) a0=B (cG k a0) fun r0=>T (D.no r0) (some (⟨#[]⟩:ByteArray)) (T (D.eq (O (N a0)) 0) (some (⟨#[45]⟩:ByteArray)) (B (cy k a0 (⟨#[]⟩:ByteArray)) fun r1=>some r1)):=by kernel_rfl
def c28:Code:=cB (cB (cJ P 31))
def c29:Code:=cB c28
def a7(k:Nat)(a0:ByteArray):Option ((LI)×Bool):=call k 31 a0
def a7.L0(k j:Nat)(x0:ByteArray)(x1 x2:Int)(x3:LI):Option ((LI)×Bool):=LL k 31 (cC (cC (cB (cT (cB (cA c28)))))) j (bH 0 (JK k 31 c29 (R0 31))) [frm 28 [(0,.str x0),(4,Sl 0),(10,In x1),(11,In x2)]] [Rw x3]
def a7.J1(k:Nat)(x0:ByteArray)(x1:LI):Option ((LI)×Bool):=JJ k 31 c29 (R0 31) [frm 28 [(0,.str x0),(4,Sl 0)]] [Rw x1]
theorem a7.eq(k:Nat)(a0):a7 (k+1) a0=T (D.no (D.eqS a0 (⟨#[45]⟩:ByteArray))) (a7.L0 k k a0 (O (D.lenS a0)) 0 ([]:LI)) (a7.J1 k a0 ([]:LI)):=by kernel_rfl
theorem a7.bm(k j:Nat)(x0 x1 x2 x3):a7.L0 k (j+1) x0 x1 x2 x3=T (D.lt x2 x1) (T (D.le 0 x2) (T (U (V x2) (D.lenS x0)) (T (D.leN (N (D.app x3 ((Z .i64 (M (Z .i64 (D.byte x0 (V x2))) 48))::([]:LI)))) 1099511627776) (a7.L0 k j x0 x1 (Z .i64 (A x2 1)) (D.app x3 ((Z .i64 (M (Z .i64 (D.byte x0 (V x2))) 48))::([]:LI)))) none) none) none) (a7.J1 k x0 x3):=(jn _ _).trans (by kernel_rfl)
theorem a7.fJ(k:Nat)(x0 x1):a7.J1 k x0 x1=B (fg k x1) fun r0=>T (D.no (D.eqS r0 x0)) (some (([]:LI),false)) (some (x1,true)):=(jn _ _).trans (by kernel_rfl)
def c30:Code:=cB (cB (cJ P 80))
def dE(k:Nat)(a0:Int):Option LI:=call k 80 a0
def dE.L0(k j:Nat)(x0 x1:Int)(x2:LI):Option LI:=LL k 80 (cC (cC (cB (cA c30)))) j (bH 0 (JK k 80 (cB c30) (R0 80))) [frm 17 [(3,Sl 0),(6,In x0),(7,In x1)]] [Rw x2]
theorem dE.eq(k:Nat)(a0):dE (k+1) a0=dE.L0 k k a0 0 ([]:LI):=by kernel_rfl
theorem dE.bm(k j:Nat)(x0 x1 x2):dE.L0 k (j+1) x0 x1 x2=T (D.lt x1 x0) (T (D.leN (N (D.app x2 ((Z .i64 (A x1 1))::([]:LI)))) 1099511627776) (dE.L0 k j x0 (Z .i64 (A x1 1)) (D.app x2 ((Z .i64 (A x1 1))::([]:LI)))) none) (some x2):=(jn _ _).trans (by kernel_rfl)
def cR(k:Nat)(x0 x1:Int):Option (Bool×Int):=IO_ k 146 1 0 1 [.var [In 0]] [[In x0,.pv 0 0],[.pv 0 0]] [.var [In x1]]
theorem cR.eq(k:Nat)(x0 x1):cR (k+1) x0 x1=some ((D.lt x1 x0),x1):=by kernel_rfl
def c31:Code:=cB (cJ P 145)
def ai(k:Nat)(x0:Int)(x1:LI):Option (Int×Int):=IO_ k 145 1 0 1 [.var [In 0],Ro []] [[Sl 1,.fn 146 [] [.pv 0 0]],[.pv 0 0,Sl 1]] [.var [In x0],Ro x1]
def ai.L0(k j:Nat)(x0 x1:Int)(x2:LI)(x3:Int):Option (Int×Int):=LL k 145 (cC (cC (cB (cA c31)))) j (bH 0 (JK k 145 (cB c31) (oF (iE P (ya P 145) (fun z6 z7=>qb P 145 1 0 1 [.var [In 0],Ro []] z6 z7))))) [frm 19 [(0,Sl 0),(1,.fn 146 [] [.pv 1 0]),(7,In x0),(8,In x1)],[.pv 1 0,Sl 0]] [Ro x2,.var [In x3]]
theorem ai.eq(k:Nat)(x0 x1):ai (k+1) x0 x1=ai.L0 k k (O (N x1)) 0 x1 x0:=by kernel_rfl
theorem ai.bm(k j:Nat)(x0 x1 x2 x3):ai.L0 k (j+1) x0 x1 x2 x3=T (D.lt x1 x0) (T (D.le 0 x1) (T (U (V x1) (N x2)) (T (U (V x1) (N x2)) (B (cR k (E x2 (V x1) 0) x3) fun r0=>T r0.1 (some (x1,r0.2)) (ai.L0 k j x0 (Z .i64 (A x1 1)) x2 r0.2)) none) none) none) (some ((-1:Int),x3)):=(jn _ _).trans (by kernel_rfl)
def c32:Code:=cB (cJ P 122)
def aO(k:Nat)(x0:Int)(x1:LI)(x2:LJ):Option (Int×((LI)×(LJ))):=IO_ k 122 1 0 3 [.var [Sl 1,Sl 2],Rw [],Rww []] [[.pv 0 0,In x0],[.pv 0 0,.undef,.undef]] [.var [Sl 1,Sl 2],Rw x1,Rww x2]
def aO.L0(k j:Nat)(x0 x1 x2:Int)(x3:LJ)(x4:LI):Option (Int×((LI)×(LJ))):=LL k 122 (cC (cC (cB (cA c32)))) j (bH 0 (JK k 122 (cB c32) (oF (iE P (ya P 122) (fun z6 z7=>qb P 122 1 0 3 [.var [Sl 1,Sl 2],Rw [],Rww []] z6 z7))))) [frm 60 [(0,.pv 0 0),(3,.pv 1 0),(11,Sl 2),(12,In x0),(13,In x1)],[.pv 0 0,.undef,.undef]] [.var [Sl 3,Sl 2],.var [In x2],Rww x3,Rw x4]
theorem aO.eq(k:Nat)(x0 x1 x2):aO (k+1) x0 x1 x2=aO.L0 k k (O (N x2)) 0 x0 x2 x1:=by kernel_rfl
theorem aO.bm(k j:Nat)(x0 x1 x2 x3 x4):aO.L0 k (j+1) x0 x1 x2 x3 x4=T (D.lt x1 x0) (T (D.le 0 x1) (T (U (V x1) (N x3)) (T (U (V x1) (N x3)) (T (U (V x1) (N x3)) (B (ai k x2 (E x3 (V x1) [])) fun r0=>T (D.lt r0.1 0) (T (U (V x1) (N x3)) (T (D.leN (N (D.app (E x3 (V x1) []) (r0.2::([]:LI)))) 1099511627776) (T (D.le 0 x1) (T (U (V x1) (N x3)) (T (U (V x1) (N x3)) (T (D.eqP (((V x1),0)::([]:List (Nat×Nat))) (((V x1),0)::([]:List (Nat×Nat)))) (some (x1,(x4,(D.set x3 (V x1) (D.app (E x3 (V x1) []) (r0.2::([]:LI))))))) none) none) none) none) none) none) (T (U (V x1) (N x3)) (T (D.le 0 r0.1) (T (U (V r0.1) (N (E x3 (V x1) []))) (T (U (V x1) (N x3)) (T (U (V r0.1) (N (E x3 (V x1) []))) (T (U (V x1) (N x3)) (T (D.le 0 r0.1) (T (U (V r0.1) (N (E x3 (V x1) []))) (T (U (V x1) (N x3)) (T (U (V r0.1) (N (E x3 (V x1) []))) (aO.L0 k j x0 (Z .i64 (A x1 1)) (E (E x3 (V x1) []) (V r0.1) 0) (D.set x3 (V x1) (D.set (E x3 (V x1) []) (V r0.1) r0.2)) x4) none) none) none) none) none) none) none) none) none) none)) none) none) none) none) (T (D.leN (N (D.app x3 ((x2::([]:LI))::([]:LJ)))) 1099511627776) (some ((Z .i64 (M (O (N (D.app x3 ((x2::([]:LI))::([]:LJ))))) 1)),(x4,(D.app x3 ((x2::([]:LI))::([]:LJ)))))) none):=(jn _ _).trans (by kernel_rfl)
def c33:Code:=cB (cB (cJ P 79))
def c34:Code:=cC (cC (cB (cA c33)))
def K35(k:Nat):cY (den (resTy P 79)):=bH 0 (JK k 79 (cB c33) (R0 79))
def c36:Code:=cB (cB c34)
def aE(k:Nat)(a0 a1:LI):Option (((LI)×(LJ))×((LI)×(LJ))):=call k 79 (a0,a1)
def aE.L0(k j:Nat)(x0 x1:Int)(x2 x3 x4:LI)(x5:LJ)(x6:LI)(x7:LJ)(x8:LI)(x9:LJ)(x10:LI)(x11:LJ):Option (((LI)×(LJ))×((LI)×(LJ))):=LL k 79 c34 j (K35 k) [frm 50 [(1,Sl 0),(4,.pv 1 0),(5,.pv 2 0),(6,.pv 3 0),(7,.pv 4 0),(13,Sl 5),(14,In x0),(15,In x1)]] [Ro x2,.var [Sl 6,Sl 7],.var [Sl 8,Sl 9],.var [Sl 10,Sl 11],.var [Sl 12,Sl 13],Ro x3,Rw x4,Rww x5,Rw x6,Rww x7,Rw x8,Rww x9,Rw x10,Rww x11]
def aE.J1(k k1:Nat)(x0 x1 x2 x3:Int)(x4 x5 x6:LI)(x7:LJ)(x8:LI)(x9:LJ)(x10:LI)(x11:LJ)(x12:LI)(x13:LJ):Option (((LI)×(LJ))×((LI)×(LJ))):=JJ k 79 (cB (cB (cB (cC (cA c36))))) (bH 1 (JK k 79 (cB c36) (LK k 79 c34 k1 (K35 k)))) [frm 50 [(1,Sl 0),(4,.pv 1 0),(5,.pv 2 0),(6,.pv 3 0),(7,.pv 4 0),(8,In x0),(10,In x1),(13,Sl 5),(14,In x2),(15,In x3)]] [Ro x4,.var [Sl 6,Sl 7],.var [Sl 8,Sl 9],.var [Sl 10,Sl 11],.var [Sl 12,Sl 13],Ro x5,Rw x6,Rww x7,Rw x8,Rww x9,Rw x10,Rww x11,Rw x12,Rww x13]
theorem aE.eq(k:Nat)(a0 a1):aE (k+1) a0 a1=aE.L0 k k (O (N a0)) 0 a1 a0 ([]:LI) ([]:LJ) ([]:LI) ([]:LJ) ([]:LI) ([]:LJ) ([]:LI) ([]:LJ):=by kernel_rfl
theorem aE.bm(k j:Nat)(x0 x1 x2 x3 x4 x5 x6 x7 x8 x9 x10 x11):aE.L0 k (j+1) x0 x1 x2 x3 x4 x5 x6 x7 x8 x9 x10 x11=T (D.lt x1 x0) (T (D.le 0 x1) (T (U (V x1) (N x3)) (T (U (V x1) (N x3)) (B (aO k (E x3 (V x1) 0) x8 x9) fun r0=>T (D.eq r0.1 (O (N x11))) (T (D.leN (N (D.app x11 (([]:LI)::([]:LJ)))) 1099511627776) (aE.J1 k j x1 r0.1 x0 x1 x2 x3 x4 x5 x6 x7 r0.2.1 r0.2.2 x10 (D.app x11 (([]:LI)::([]:LJ)))) none) (aE.J1 k j x1 r0.1 x0 x1 x2 x3 x4 x5 x6 x7 r0.2.1 r0.2.2 x10 x11)) none) none) none) (some ((x8,x9),(x10,x11))):=(jn _ _).trans (by kernel_rfl)
theorem aE.fJ(k k1:Nat)(x0 x1 x2 x3 x4 x5 x6 x7 x8 x9 x10 x11 x12 x13):aE.J1 k k1 x0 x1 x2 x3 x4 x5 x6 x7 x8 x9 x10 x11 x12 x13=T (D.le 0 x1) (T (U (V x1) (N x13)) (T (U (V x1) (N x13)) (T (D.le 0 x0) (T (U (V x0) (N x4)) (T (U (V x0) (N x4)) (T (U (V x1) (N x13)) (T (D.leN (N (D.app (E x13 (V x1) []) ((E x4 (V x0) 0)::([]:LI)))) 1099511627776) (T (D.le 0 x1) (T (U (V x1) (N x13)) (T (U (V x1) (N x13)) (T (D.eqP (((V x1),0)::([]:List (Nat×Nat))) (((V x1),0)::([]:List (Nat×Nat)))) (aE.L0 k k1 x2 (Z .i64 (A x3 1)) x4 x5 x6 x7 x8 x9 x10 x11 x12 (D.set x13 (V x1) (D.app (E x13 (V x1) []) ((E x4 (V x0) 0)::([]:LI))))) none) none) none) none) none) none) none) none) none) none) none) none:=(jn _ _).trans (by kernel_rfl)
def ef(k:Nat)(a0:LI):Option (((LI)×(LJ))×Bool):=call k 37 a0
theorem ef.eq(k:Nat)(a0):ef (k+1) a0=B (cG k a0) fun r0=>T (D.no r0) (some ((([]:LI),([]:LJ)),false)) (B (dE k (O (N a0))) fun r1=>B (aE k a0 r1) fun r2=>some ((r2.1.1,r2.1.2),true)):=by kernel_rfl
def fG(k:Nat)(a0:LI):Option (((LI)×(LJ))×Bool):=call k 38 a0
theorem fG.eq(k:Nat)(a0):fG (k+1) a0=B (cG k a0) fun r0=>T (D.no r0) (some ((([]:LI),([]:LJ)),false)) (B (dE k (O (N a0))) fun r1=>B (aE k a0 r1) fun r2=>some ((r2.2.1,r2.2.2),true)):=by kernel_rfl
def cp(k:Nat)(a0:LI):Option LI:=call k 81 a0
theorem cp.eq(k:Nat)(a0):cp (k+1) a0=T (D.eqN (N a0) 0) (D.both (some ([]:LI)) (T (D.leN (N (D.app ([]:LI) a0)) 1099511627776) (some (D.app ([]:LI) a0)) none)) (T (D.leN (N (D.app ([]:LI) a0)) 1099511627776) (some (D.app ([]:LI) a0)) none):=by kernel_rfl
def c37:Code:=cB (cB (cJ P 123))
def c38:Code:=cB c37
def c39:Code:=cC (cC (cB (cA c38)))
def K40(k:Nat):cY (den (resTy P 123)):=bH 0 (JK k 123 (cB c38) (R0 123))
def c41:Code:=cB (cB (cB c39))
def K42(k k1:Nat):cY (den (resTy P 123)):=LK k 123 c39 k1 (K40 k)
def aT(k:Nat)(a0:LI)(a1:Int):Option ((LI)×((LI)×Bool)):=call k 123 (a0,a1)
def aT.J0(k:Nat)(x0:Int)(x1:LI):Option ((LI)×((LI)×Bool)):=JJ k 123 c37 (R0 123) [frm 62 [(0,Sl 0),(1,In x0)]] [Ro x1]
def aT.L1(k j:Nat)(x0 x1 x2:Int)(x3 x4 x5:LI):Option ((LI)×((LI)×Bool)):=LL k 123 c39 j (K40 k) [frm 62 [(1,In x0),(7,Sl 0),(8,Sl 1),(21,Sl 2),(22,In x1),(23,In x2)]] [Rw x3,Rw x4,Ro x5]
def aT.J2(k k1:Nat)(x0 x1 x2:Int)(x3 x4 x5:LI):Option ((LI)×((LI)×Bool)):=JJ k 123 c41 (K42 k k1) [frm 62 [(1,In x0),(7,Sl 0),(8,Sl 1),(21,Sl 2),(22,In x1),(23,In x2)]] [Rw x3,Rw x4,Ro x5]
def aT.J3(k k1:Nat)(x0:Int)(x1 x2:Nat)(x3 x4:Int)(x5 x6 x7:LI):Option ((LI)×((LI)×Bool)):=JJ k 123 c41 (K42 k k1) [frm 62 [(1,In x0),(7,Sl 0),(8,.sl 1 [] (Option.some (x1,x2))),(21,Sl 2),(22,In x3),(23,In x4)]] [Rw x5,Rw x6,Ro x7]
def aT.L4(k j:Nat)(x0:Int)(x1 x2:Nat)(x3 x4:Int)(x5 x6 x7:LI):Option ((LI)×((LI)×Bool)):=LL k 123 c39 j (K40 k) [frm 62 [(1,In x0),(7,Sl 0),(8,.sl 1 [] (Option.some (x1,x2))),(21,Sl 2),(22,In x3),(23,In x4)]] [Rw x5,Rw x6,Ro x7]
theorem aT.eq(k:Nat)(a0 a1):aT (k+1) a0 a1=B (cG k a0) fun r0=>T (D.no r0) (some (([]:LI),(([]:LI),false))) (B (cV k a1 1 8) fun r1=>T (D.no r1) (some (([]:LI),(([]:LI),false))) (aT.J0 k a1 a0)):=by kernel_rfl
theorem aT.lp(k:Nat)(x0 x1):aT.J0 k x0 x1=aT.L1 k k x0 (O (N x1)) 0 ([]:LI) ([]:LI) x1:=(jn _ _).trans (by kernel_rfl)
theorem aT.fN(k j:Nat)(x0 x1 x2 x3 x4 x5):aT.L1 k (j+1) x0 x1 x2 x3 x4 x5=T (D.lt x2 x1) (T (D.le 0 x2) (T (U (V x2) (N x5)) (T (U (V x2) (N x5)) (T (D.eq (E x5 (V x2) 0) (Z .i64 (A x0 1))) (T (D.leN (N (D.app x4 (x2::([]:LI)))) 1099511627776) (aT.J2 k j x0 x1 x2 x3 (D.app x4 (x2::([]:LI))) x5) none) (T (D.eq (E x5 (V x2) 0) x0) (T (D.lt 0 (O (N x4))) (T (D.le 0 (Z .i64 (M (O (N x4)) 1))) (T (D.leN (V (Z .i64 (M (O (N x4)) 1))) (N x4)) (aT.J3 k j x0 0 (D.subN (V (Z .i64 (M (O (N x4)) 1))) 0) x1 x2 x3 x4 x5) none) none) (T (D.eq (E x5 (V x2) 0) x0) (T (D.leN (N (D.app x3 (x2::([]:LI)))) 1099511627776) (aT.J2 k j x0 x1 x2 (D.app x3 (x2::([]:LI))) x4 x5) none) (aT.J2 k j x0 x1 x2 x3 x4 x5))) (T (D.eq (E x5 (V x2) 0) x0) (T (D.leN (N (D.app x3 (x2::([]:LI)))) 1099511627776) (aT.J2 k j x0 x1 x2 (D.app x3 (x2::([]:LI))) x4 x5) none) (aT.J2 k j x0 x1 x2 x3 x4 x5)))) none) none) none) (some (x3,(x4,true))):=(jn _ _).trans (by kernel_rfl)
theorem aT.jW(k k1:Nat)(x0 x1 x2 x3 x4 x5):aT.J2 k k1 x0 x1 x2 x3 x4 x5=aT.L1 k k1 x0 x1 (Z .i64 (A x2 1)) x3 x4 x5:=(jn _ _).trans (by kernel_rfl)
theorem aT.vL(k k1:Nat)(x0 x1 x2 x3 x4 x5 x6 x7):aT.J3 k k1 x0 x1 x2 x3 x4 x5 x6 x7=aT.L4 k k1 x0 x1 x2 x3 (Z .i64 (A x4 1)) x5 x6 x7:=(jn _ _).trans (by kernel_rfl)
theorem aT.Fl(k j:Nat)(x0 x1 x2 x3 x4 x5 x6 x7):aT.L4 k (j+1) x0 x1 x2 x3 x4 x5 x6 x7=T (D.lt x4 x3) (T (D.le 0 x4) (T (U (V x4) (N x7)) (T (U (V x4) (N x7)) (T (D.eq (E x7 (V x4) 0) (Z .i64 (A x0 1))) (T (D.leN (N (D.app (D.take x2 (D.drop x1 x6)) (x4::([]:LI)))) 1099511627776) (aT.J2 k j x0 x3 x4 x5 (D.app (D.take x2 (D.drop x1 x6)) (x4::([]:LI))) x7) none) (T (D.eq (E x7 (V x4) 0) x0) (T (D.lt 0 (O x2)) (T (D.le 0 (Z .i64 (M (O x2) 1))) (T (D.leN (V (Z .i64 (M (O x2) 1))) x2) (aT.J3 k j x0 (D.addN x1 0) (D.subN (V (Z .i64 (M (O x2) 1))) 0) x3 x4 x5 x6 x7) none) none) (T (D.eq (E x7 (V x4) 0) x0) (T (D.leN (N (D.app x5 (x4::([]:LI)))) 1099511627776) (aT.J3 k j x0 x1 x2 x3 x4 (D.app x5 (x4::([]:LI))) x6 x7) none) (aT.J3 k j x0 x1 x2 x3 x4 x5 x6 x7))) (T (D.eq (E x7 (V x4) 0) x0) (T (D.leN (N (D.app x5 (x4::([]:LI)))) 1099511627776) (aT.J3 k j x0 x1 x2 x3 x4 (D.app x5 (x4::([]:LI))) x6 x7) none) (aT.J3 k j x0 x1 x2 x3 x4 x5 x6 x7)))) none) none) none) (some (x5,((D.take x2 (D.drop x1 x6)),true))):=(jn _ _).trans (by kernel_rfl)
def kL(k:Nat)(a0:LI)(a1 a2:Int):Option LI:=call k 124 (a0,a1,a2)
theorem kL.eq(k:Nat)(a0 a1 a2):kL (k+1) a0 a1 a2=B (cp k a0) fun r0=>T (D.le 0 a1) (T (U (V a1) (N r0)) (T (U (V a1) (N r0)) (some (D.set r0 (V a1) a2)) none) none) none:=by kernel_rfl
def fW(k:Nat)(a0:LI)(a1:Int):Option ((LI)×Bool):=call k 82 (a0,a1)
theorem fW.eq(k:Nat)(a0 a1):fW (k+1) a0 a1=B (aT k a0 a1) fun r0=>T (D.eq (O (N r0.2.1)) 0) (some (([]:LI),false)) (T (D.le 0 0) (T (U (V 0) (N r0.2.1)) (T (U (V 0) (N r0.2.1)) (B (kL k a0 (E r0.2.1 (V 0) 0) a1) fun r1=>some (r1,true)) none) none) none):=by kernel_rfl
def c43:Code:=cB (cB (cB (cJ P 39)))
def c44:Code:=cC (cC (cB (cA c43)))
def K45(k:Nat):cY (den (resTy P 39)):=bH 0 (JK k 39 (cB c43) (R0 39))
def bz(k:Nat)(a0:LI):Option ((LI)×Bool):=call k 39 a0
def bz.L0(k j:Nat)(x0:Int)(x1:LI):Option ((LI)×Bool):=LL k 39 c44 j (K45 k) [frm 26 [(4,Sl 0),(5,In x0)]] [Rw x1]
def bz.J1(k k1:Nat)(x0:Int)(x1:LI):Option ((LI)×Bool):=JJ k 39 (cB (cB c44)) (LK k 39 c44 k1 (K45 k)) [frm 26 [(4,Sl 0),(5,In x0)]] [Rw x1]
theorem bz.eq(k:Nat)(a0):bz (k+1) a0=B (cG k a0) fun r0=>T (D.no r0) (some (([]:LI),false)) (B (cp k a0) fun r1=>bz.L0 k k 1 r1):=by kernel_rfl
theorem bz.bm(k j:Nat)(x0 x1):bz.L0 k (j+1) x0 x1=T (D.lt x0 9) (B (fW k x1 x0) fun r2=>T r2.2 (bz.J1 k j 0 r2.1) (bz.J1 k j x0 x1)) (some (x1,true)):=(jn _ _).trans (by kernel_rfl)
theorem bz.fJ(k k1:Nat)(x0 x1):bz.J1 k k1 x0 x1=bz.L0 k k1 (Z .i64 (A x0 1)) x1:=(jn _ _).trans (by kernel_rfl)
def c46:Code:=cB (cB (cB (cJ P 40)))
def c47:Code:=cC (cB (cA c46))
def K48(k:Nat):cY (den (resTy P 40)):=bH 0 (JK k 40 (cB c46) (R0 40))
def c49:Code:=cC (cC (cB (cJ P 125)))
def b9(k:Nat)(a0:LI):Option Bool:=call k 40 a0
def b9.L0(k j:Nat)(x0:Int)(x1:Bool)(x2 x3:LI):Option Bool:=D.jn (fun z1=>kg (fun z2 z3=>gu P cfg (oB P cfg ext k) (pW (fun z4 z5=>X k 40 (cA c47) z4 z5) (fun z6 z7=>X k 40 (cB c47) z6 z7) (List.toArray [12,13]) (K48 k)) (Go.Func.ntmps (ya P 125)) k 125 c49 z2 z3) (Cfg.loops cfg 125 (key c49)) j z1 (bH 0 (oF (fun z11=>K48 k .normal (St.mk (List.tail (St.fr z11)) (St.rs z11)))))) (St.mk [frm 19 [(1,.pv 0 0),(3,In x0)],frm 34 [(2,.pv 1 0),(3,.pv 2 0),(11,.fn 125 [] [.pv 0 0])]] [.var [Sl 3],.var [.bool x1],.var [Sl 4],Ro x2,Rw x3])
theorem b9.eq(k:Nat)(a0):b9 (k+1) a0=B (cG k a0) fun r0=>T (D.no r0) (some false) (T (D.le 0 10) (T (D.le 10 10) (T (D.leN (V 10) 1099511627776) (b9.L0 k k (Z .i64 (M (O (N a0)) 1)) false a0 (D.rep (V 10) (0:Int))) none) none) none):=by kernel_rfl
theorem b9.bm(k j:Nat)(x0 x1 x2 x3):b9.L0 k (j+1) x0 x1 x2 x3=T (D.le 0 x0) (T (D.le 0 x0) (T (U (V x0) (N x2)) (T (U (V x0) (N x2)) (T (D.le 0 (E x2 (V x0) 0)) (T (U (V (E x2 (V x0) 0)) (N x3)) (T (U (V (E x2 (V x0) 0)) (N x3)) (T (D.le 0 (E x2 (V x0) 0)) (T (U (V (E x2 (V x0) 0)) (N x3)) (T (U (V (E x2 (V x0) 0)) (N x3)) (T (D.lt 1 (E x2 (V x0) 0)) (T (D.le 0 (E x2 (V x0) 0)) (T (U (V (E x2 (V x0) 0)) (N (D.set x3 (V (E x2 (V x0) 0)) (Z .i64 (A (E x3 (V (E x2 (V x0) 0)) 0) 1))))) (T (U (V (E x2 (V x0) 0)) (N (D.set x3 (V (E x2 (V x0) 0)) (Z .i64 (A (E x3 (V (E x2 (V x0) 0)) 0) 1))))) (T (D.le 0 (Z .i64 (M (E x2 (V x0) 0) 1))) (T (U (V (Z .i64 (M (E x2 (V x0) 0) 1))) (N (D.set x3 (V (E x2 (V x0) 0)) (Z .i64 (A (E x3 (V (E x2 (V x0) 0)) 0) 1))))) (T (U (V (Z .i64 (M (E x2 (V x0) 0) 1))) (N (D.set x3 (V (E x2 (V x0) 0)) (Z .i64 (A (E x3 (V (E x2 (V x0) 0)) 0) 1))))) (T (D.lt (E (D.set x3 (V (E x2 (V x0) 0)) (Z .i64 (A (E x3 (V (E x2 (V x0) 0)) 0) 1))) (V (Z .i64 (M (E x2 (V x0) 0) 1))) 0) (E (D.set x3 (V (E x2 (V x0) 0)) (Z .i64 (A (E x3 (V (E x2 (V x0) 0)) 0) 1))) (V (E x2 (V x0) 0)) 0)) (some false) (b9.L0 k j (Z .i64 (M x0 1)) x1 x2 (D.set x3 (V (E x2 (V x0) 0)) (Z .i64 (A (E x3 (V (E x2 (V x0) 0)) 0) 1))))) none) none) none) none) none) none) (b9.L0 k j (Z .i64 (M x0 1)) x1 x2 (D.set x3 (V (E x2 (V x0) 0)) (Z .i64 (A (E x3 (V (E x2 (V x0) 0)) 0) 1))))) none) none) none) none) none) none) none) none) none) (some true):=(jn _ _).trans (by kernel_rfl)
def c50:Code:=cB (cB (cJ P 89))
def c51:Code:=cC (cC (cB (cA c50)))
def K52(k:Nat):cY (den (resTy P 89)):=bH 0 (JK k 89 (cB c50) (R0 89))
def c53:Code:=cB (cB c51)
def aM(k:Nat)(a0:LI):Option Bool:=call k 89 a0
def aM.L0(k j:Nat)(x0 x1 x2:Int)(x3:LI):Option Bool:=LL k 89 c51 j (K52 k) [frm 35 [(0,Sl 0),(3,In x0),(6,Sl 0),(7,In x1),(8,In x2)]] [Ro x3]
def aM.J1(k k1:Nat)(x0 x1 x2 x3:Int)(x4:LI):Option Bool:=JJ k 89 (cB (cB (cC (cA c53)))) (bH 1 (JK k 89 (cB c53) (LK k 89 c51 k1 (K52 k)))) [frm 35 [(0,Sl 0),(3,In x0),(5,In x1),(6,Sl 0),(7,In x2),(8,In x3)]] [Ro x4]
theorem aM.eq(k:Nat)(a0):aM (k+1) a0=aM.L0 k k 0 (O (N a0)) 0 a0:=by kernel_rfl
theorem aM.bm(k j:Nat)(x0 x1 x2 x3):aM.L0 k (j+1) x0 x1 x2 x3=T (D.lt x2 x1) (T (D.le 0 x2) (T (U (V x2) (N x3)) (T (U (V x2) (N x3)) (B (cV k (E x3 (V x2) 0) 1 9) fun r0=>T (D.no r0) (some false) (T (D.lt 0 x2) (T (D.le 0 (Z .i64 (M x2 1))) (T (U (V (Z .i64 (M x2 1))) (N x3)) (T (U (V (Z .i64 (M x2 1))) (N x3)) (T (D.lt (E x3 (V (Z .i64 (M x2 1))) 0) (E x3 (V x2) 0)) (some false) (aM.J1 k j x0 (E x3 (V x2) 0) x1 x2 x3)) none) none) none) (aM.J1 k j x0 (E x3 (V x2) 0) x1 x2 x3))) none) none) none) (some true):=(jn _ _).trans (by kernel_rfl)
theorem aM.fJ(k k1:Nat)(x0 x1 x2 x3 x4):aM.J1 k k1 x0 x1 x2 x3 x4=T (D.lt 9 (Z .i64 (A x0 x1))) (some false) (aM.L0 k k1 (Z .i64 (A x0 x1)) x2 (Z .i64 (A x3 1)) x4):=(jn _ _).trans (by kernel_rfl)
def gB(k:Nat)(a0:LI)(a1:Int):Option Int:=call k 87 (a0,a1)
theorem gB.eq(k:Nat)(a0 a1):gB (k+1) a0 a1=B (cV k a1 0 (Z .i64 (M (O (N a0)) 1))) fun r0=>T (D.no r0) (some 0) (T (D.le 0 a1) (T (U (V a1) (N a0)) (T (U (V a1) (N a0)) (some (E a0 (V a1) 0)) none) none) none):=by kernel_rfl
def c54:Code:=cB (cB (cJ P 106))
def bN(k:Nat)(a0 a1:LI):Option Bool:=call k 106 (a0,a1)
def bN.J0(k:Nat)(x0 x1:LI):Option Bool:=JJ k 106 c54 (R0 106) [frm 28 [(0,Sl 0),(1,Sl 1)]] [Ro x0,Ro x1]
def bN.L1(k j:Nat)(x0 x1:Int)(x2 x3:LI):Option Bool:=LL k 106 (cC (cC (cB (cA c54)))) j (bH 0 (JK k 106 (cB c54) (R0 106))) [frm 28 [(1,Sl 0),(15,Sl 1),(16,In x0),(17,In x1)]] [Ro x2,Ro x3]
theorem bN.eq(k:Nat)(a0 a1):bN (k+1) a0 a1=B (aM k a0) fun r0=>T (D.no r0) (some false) (B (aM k a1) fun r1=>T (D.no r1) (some false) (bN.J0 k a0 a1)):=by kernel_rfl
theorem bN.lp(k:Nat)(x0 x1):bN.J0 k x0 x1=bN.L1 k k (O (N x0)) 0 x1 x0:=(jn _ _).trans (by kernel_rfl)
theorem bN.fN(k j:Nat)(x0 x1 x2 x3):bN.L1 k (j+1) x0 x1 x2 x3=T (D.lt x1 x0) (T (D.le 0 x1) (T (U (V x1) (N x3)) (T (U (V x1) (N x3)) (B (gB k x2 x1) fun r2=>T (D.lt r2 (E x3 (V x1) 0)) (some false) (bN.L1 k j x0 (Z .i64 (A x1 1)) x2 x3)) none) none) none) (some true):=(jn _ _).trans (by kernel_rfl)
def ir(k:Nat)(a0:(LI)×(LI)):Option Bool:=call k 64 a0
theorem ir.eq(k:Nat)(a0):ir (k+1) a0=B (bN k a0.2 a0.1) fun r0=>some r0:=by kernel_rfl
def c55:Code:=cB (cB (cJ P 90))
def c56:Code:=cB c55
def bO(k:Nat)(a0:(LI)×(LJ)):Option (((LI)×(LI))×Bool):=call k 90 a0
def bO.J0(k:Nat)(x0:LI)(x1:LJ)(x2 x3:LI):Option (((LI)×(LI))×Bool):=JJ k 90 c55 (R0 90) [frm 51 [(1,.pv 0 0),(2,.pv 1 0)]] [.var [Sl 2,Sl 3],.var [Sl 4,Sl 5],Ro x0,Roo x1,Rw x2,Rw x3]
def bO.L1(k j:Nat)(x0 x1:Int)(x2:LJ)(x3 x4 x5 x6 x7:LI):Option (((LI)×(LI))×Bool):=LL k 90 (cC (cC (cB (cA c56)))) j (bH 0 (JK k 90 (cB c56) (R0 90))) [frm 51 [(1,.pv 0 0),(2,.pv 1 0),(4,.pv 2 0),(26,Sl 3),(27,In x0),(28,In x1)]] [.var [Sl 4,Sl 3],.var [Sl 5,Sl 6],.var [Sl 7,Sl 8],Roo x2,Ro x3,Rw x4,Rw x5,Rw x6,Rw x7]
theorem bO.eq(k:Nat)(a0):bO (k+1) a0=B (aM k a0.1) fun r0=>T (D.no r0) (some ((([]:LI),([]:LI)),false)) (T (D.lt (O (N a0.2)) (O (N a0.1))) (some ((([]:LI),([]:LI)),false)) (bO.J0 k a0.1 a0.2 ([]:LI) ([]:LI))):=by kernel_rfl
theorem bO.lp(k:Nat)(x0 x1 x2 x3):bO.J0 k x0 x1 x2 x3=B (cp k x0) fun r1=>bO.L1 k k (O (N x1)) 0 x1 x0 x2 x3 ([]:LI) r1:=(jn _ _).trans (by kernel_rfl)
theorem bO.fN(k j:Nat)(x0 x1 x2 x3 x4 x5 x6 x7):bO.L1 k (j+1) x0 x1 x2 x3 x4 x5 x6 x7=T (D.lt x1 x0) (T (D.le 0 x1) (T (U (V x1) (N x2)) (T (U (V x1) (N x2)) (B (gB k x3 x1) fun r2=>T (U (V x1) (N x2)) (T (D.leN (N (D.app x6 ((Z .i64 (A r2 (O (N (E x2 (V x1) [])))))::([]:LI)))) 1099511627776) (bO.L1 k j x0 (Z .i64 (A x1 1)) x2 x3 x4 x5 (D.app x6 ((Z .i64 (A r2 (O (N (E x2 (V x1) [])))))::([]:LI))) x7) none) none) none) none) none) (B (ir k (x6,x7)) fun r3=>T (D.no r3) (some ((([]:LI),([]:LI)),false)) (some ((x6,x7),true))):=(jn _ _).trans (by kernel_rfl)
def dG(k:Nat)(a0:(LI)×(LJ))(a1 a2:Int):Option Int:=call k 129 (a0,a1,a2)
theorem dG.eq(k:Nat)(a0 a1 a2):dG (k+1) a0 a1 a2=B (cV k a1 0 (Z .i64 (M (O (N a0.2)) 1))) fun r0=>T (D.no r0) (some 0) (T (D.le 0 a1) (T (U (V a1) (N a0.2)) (T (U (V a1) (N a0.2)) (B (gB k a0.1 a1) fun r1=>T (U (V a1) (N a0.2)) (B (gB k (E a0.2 (V a1) []) (Z .i64 (M a2 r1))) fun r2=>some r2) none) none) none) none):=by kernel_rfl
def c57:Code:=cB (cB (cJ P 85))
def c58:Code:=cC (cC (cB (cA c57)))
def K59(k:Nat):cY (den (resTy P 85)):=bH 0 (JK k 85 (cB c57) (R0 85))
def c60:Code:=cB (cB c58)
def c61:Code:=cC (cC (cB (cB (cC (cA c60)))))
def K62(k k1:Nat):cY (den (resTy P 85)):=bH 2 (bH 1 (JK k 85 (cB c60) (LK k 85 c58 k1 (K59 k))))
def aF(k:Nat)(a0:(LI)×(LJ)):Option Bool:=call k 85 a0
def aF.L0(k j:Nat)(x0 x1:Int)(x2:LJ)(x3:LI):Option Bool:=LL k 85 c58 j (K59 k) [frm 67 [(1,.pv 0 0),(17,Sl 1),(18,In x0),(19,In x1)]] [.var [Sl 2,Sl 1],Roo x2,Ro x3]
def aF.L1(k k1 j:Nat)(x0:Int)(x1:Nat)(x2 x3:Int)(x4:Nat)(x5 x6:Int)(x7:LJ)(x8:LI):Option Bool:=LL k 85 c61 j (K62 k k1) [frm 67 [(1,.pv 0 0),(5,In x0),(6,.sl 1 [(x1,0)] Option.none),(17,Sl 1),(18,In x2),(19,In x3),(24,.sl 1 [(x4,0)] Option.none),(25,In x5),(26,In x6)]] [.var [Sl 2,Sl 1],Roo x7,Ro x8]
def aF.J2(k k1 k2:Nat)(x0:Int)(x1:Nat)(x2 x3:Int)(x4:Nat)(x5 x6:Int)(x7:LJ)(x8:LI):Option Bool:=JJ k 85 (cB (cB (cB c61))) (LK k 85 c61 k2 (K62 k k1)) [frm 67 [(1,.pv 0 0),(5,In x0),(6,.sl 1 [(x1,0)] Option.none),(17,Sl 1),(18,In x2),(19,In x3),(24,.sl 1 [(x4,0)] Option.none),(25,In x5),(26,In x6)]] [.var [Sl 2,Sl 1],Roo x7,Ro x8]
theorem aF.eq(k:Nat)(a0):aF (k+1) a0=B (bO k (a0.1,a0.2)) fun r0=>T (D.no r0.2) (some false) (aF.L0 k k (O (N a0.2)) 0 a0.2 a0.1):=by kernel_rfl
theorem aF.bm(k j:Nat)(x0 x1 x2 x3):aF.L0 k (j+1) x0 x1 x2 x3=T (D.lt x1 x0) (T (D.le 0 x1) (T (U (V x1) (N x2)) (T (U (V x1) (N x2)) (T (U (V x1) (N x2)) (aF.L1 k j k x1 (V x1) x0 x1 (V x1) (O (N (E x2 (V x1) []))) 0 x2 x3) none) none) none) none) (some true):=(jn _ _).trans (by kernel_rfl)
theorem aF.fN(k k1 j:Nat)(x0 x1 x2 x3 x4 x5 x6 x7 x8):aF.L1 k k1 (j+1) x0 x1 x2 x3 x4 x5 x6 x7 x8=T (D.lt x6 x5) (T (U x4 (N x7)) (T (D.le 0 x6) (T (U (V x6) (N (E x7 x4 []))) (T (U x4 (N x7)) (T (U (V x6) (N (E x7 x4 []))) (B (cV k (E (E x7 x4 []) (V x6) 0) 1 9) fun r1=>T (D.no r1) (some false) (T (D.lt 0 x6) (T (U x1 (N x7)) (T (D.le 0 (Z .i64 (M x6 1))) (T (U (V (Z .i64 (M x6 1))) (N (E x7 x1 []))) (T (U x1 (N x7)) (T (U (V (Z .i64 (M x6 1))) (N (E x7 x1 []))) (T (D.lt (E (E x7 x4 []) (V x6) 0) (E (E x7 x1 []) (V (Z .i64 (M x6 1))) 0)) (some false) (T (D.lt 0 x0) (B (gB k x8 x0) fun r2=>B (dG k (x8,x7) (Z .i64 (M x0 1)) (Z .i64 (A r2 x6))) fun r3=>T (D.le (E (E x7 x4 []) (V x6) 0) r3) (some false) (aF.J2 k k1 j x0 x1 x2 x3 x4 x5 x6 x7 x8)) (aF.J2 k k1 j x0 x1 x2 x3 x4 x5 x6 x7 x8))) none) none) none) none) none) (T (D.lt 0 x0) (B (gB k x8 x0) fun r4=>B (dG k (x8,x7) (Z .i64 (M x0 1)) (Z .i64 (A r4 x6))) fun r5=>T (D.le (E (E x7 x4 []) (V x6) 0) r5) (some false) (aF.J2 k k1 j x0 x1 x2 x3 x4 x5 x6 x7 x8)) (aF.J2 k k1 j x0 x1 x2 x3 x4 x5 x6 x7 x8)))) none) none) none) none) none) (aF.L0 k k1 x2 (Z .i64 (A x3 1)) x7 x8):=(jn _ _).trans (by kernel_rfl)
theorem aF.jW(k k1 k2:Nat)(x0 x1 x2 x3 x4 x5 x6 x7 x8):aF.J2 k k1 k2 x0 x1 x2 x3 x4 x5 x6 x7 x8=aF.L1 k k1 k2 x0 x1 x2 x3 x4 x5 (Z .i64 (A x6 1)) x7 x8:=(jn _ _).trans (by kernel_rfl)
def strings_Repeat(k:Nat)(a0:ByteArray)(a1:Int):Option ByteArray:=call k 86 (a0,a1)
theorem strings_Repeat.eq(k:Nat)(a0 a1):strings_Repeat (k+1) a0 a1=xb a0 a1:=by kernel_rfl
def c63:Code:=cB (cB (cB (cJ P 42)))
def bF(k:Nat)(a0:(LI)×(LJ)):Option ByteArray:=call k 42 a0
def bF.L0(k j:Nat)(x0 x1:Int)(x2:List ByteArray)(x3:LJ)(x4:LI):Option ByteArray:=LL k 42 (cC (cC (cB (cA c63)))) j (bH 1 (JK k 42 (cB c63) (R0 42))) [frm 38 [(1,.pv 0 0),(3,Sl 1),(17,Sl 2),(18,In x0),(19,In x1)]] [.var [Sl 3,Sl 2],.row Bool.true .str x2,Roo x3,Ro x4]
theorem bF.eq(k:Nat)(a0):bF (k+1) a0=B (aF k (a0.1,a0.2)) fun r0=>T (D.no r0) (some (⟨#[]⟩:ByteArray)) (T (D.eq (O (N a0.2)) 0) (some (⟨#[45]⟩:ByteArray)) (bF.L0 k k (O (N a0.2)) 0 ([]:List ByteArray) a0.2 a0.1)):=by kernel_rfl
theorem bF.bm(k j:Nat)(x0 x1 x2 x3 x4):bF.L0 k (j+1) x0 x1 x2 x3 x4=T (D.lt x1 x0) (T (D.le 0 x1) (T (U (V x1) (N x3)) (T (U (V x1) (N x3)) (B (gB k x4 x1) fun r1=>B (strings_Repeat k (⟨#[46]⟩:ByteArray) r1) fun r2=>T (U (V x1) (N x3)) (B (cy k (E x3 (V x1) []) (⟨#[]⟩:ByteArray)) fun r3=>T (D.leN (D.addN (D.lenS r2) (D.lenS r3)) 1099511627776) (T (D.leN (N (D.app x2 ((D.catS r2 r3)::([]:List ByteArray)))) 1099511627776) (bF.L0 k j x0 (Z .i64 (A x1 1)) (D.app x2 ((D.catS r2 r3)::([]:List ByteArray))) x3 x4) none) none) none) none) none) none) (B (gW k x2 (⟨#[47]⟩:ByteArray)) fun r4=>some r4):=(jn _ _).trans (by kernel_rfl)
def e9(k:Nat)(a0:LI):Option LI:=call k 44 a0
theorem e9.eq(k:Nat)(a0):e9 (k+1) a0=B (ef k a0) fun r0=>T (D.no r0.2) (some ([]:LI)) (B (bO k (r0.1.1,r0.1.2)) fun r1=>some r1.1.1):=by kernel_rfl
def ez(k:Nat)(a0:LI):Option ByteArray:=call k 43 a0
theorem ez.eq(k:Nat)(a0):ez (k+1) a0=B (aM k a0) fun r0=>T (D.no r0) (some (⟨#[]⟩:ByteArray)) (T (D.eq (O (N a0)) 0) (some (⟨#[45]⟩:ByteArray)) (B (cy k a0 (⟨#[44]⟩:ByteArray)) fun r1=>some r1)):=by kernel_rfl
def c64:Code:=cB (cB (cB (cJ P 46)))
def c65:Code:=cC (cC (cB (cA c64)))
def K66(k:Nat):cY (den (resTy P 46)):=bH 0 (JK k 46 (cB c64) (R0 46))
def c67:Code:=cB (cB c65)
def c68:Code:=cC (cC (cB (cB (cC (cA c67)))))
def K69(k k1:Nat):cY (den (resTy P 46)):=bH 2 (bH 1 (JK k 46 (cB c67) (LK k 46 c65 k1 (K66 k))))
def ao(k:Nat)(a0:LI):Option Int:=call k 46 a0
def ao.L0(k j:Nat)(x0 x1 x2:Int)(x3:LI):Option Int:=LL k 46 c65 j (K66 k) [frm 32 [(0,Sl 0),(3,In x0),(10,In x1),(11,In x2)]] [Ro x3]
def ao.L1(k k1 j:Nat)(x0 x1 x2 x3 x4 x5:Int)(x6:LI):Option Int:=LL k 46 c68 j (K69 k k1) [frm 32 [(0,Sl 0),(3,In x0),(4,In x1),(10,In x2),(11,In x3),(14,In x4),(15,In x5)]] [Ro x6]
def ao.J2(k k1 k2:Nat)(x0 x1 x2 x3 x4 x5:Int)(x6:LI):Option Int:=JJ k 46 (cB (cB (cB c68))) (LK k 46 c68 k2 (K69 k k1)) [frm 32 [(0,Sl 0),(3,In x0),(4,In x1),(10,In x2),(11,In x3),(14,In x4),(15,In x5)]] [Ro x6]
theorem ao.eq(k:Nat)(a0):ao (k+1) a0=B (cG k a0) fun r0=>T (D.no r0) (some (-1)) (ao.L0 k k 0 (O (N a0)) 0 a0):=by kernel_rfl
theorem ao.bm(k j:Nat)(x0 x1 x2 x3):ao.L0 k (j+1) x0 x1 x2 x3=T (D.lt x2 x1) (ao.L1 k j k x0 x2 x1 x2 x2 0 x3) (some x0):=(jn _ _).trans (by kernel_rfl)
theorem ao.fN(k k1 j:Nat)(x0 x1 x2 x3 x4 x5 x6):ao.L1 k k1 (j+1) x0 x1 x2 x3 x4 x5 x6=T (D.lt x5 x4) (T (D.le 0 x5) (T (U (V x5) (N x6)) (T (U (V x5) (N x6)) (T (D.le 0 x1) (T (U (V x1) (N x6)) (T (U (V x1) (N x6)) (T (D.lt (E x6 (V x1) 0) (E x6 (V x5) 0)) (ao.J2 k k1 j (Z .i64 (A x0 1)) x1 x2 x3 x4 x5 x6) (ao.J2 k k1 j x0 x1 x2 x3 x4 x5 x6)) none) none) none) none) none) none) (ao.L0 k k1 x0 x2 (Z .i64 (A x3 1)) x6):=(jn _ _).trans (by kernel_rfl)
theorem ao.jW(k k1 k2:Nat)(x0 x1 x2 x3 x4 x5 x6):ao.J2 k k1 k2 x0 x1 x2 x3 x4 x5 x6=ao.L1 k k1 k2 x0 x1 x2 x3 x4 (Z .i64 (A x5 1)) x6:=(jn _ _).trans (by kernel_rfl)
def c70:Code:=cB (cB (cB (cJ P 47)))
def c71:Code:=cC (cC (cB (cA c70)))
def K72(k:Nat):cY (den (resTy P 47)):=bH 0 (JK k 47 (cB c70) (R0 47))
def aU(k:Nat)(a0:LI):Option Int:=call k 47 a0
def aU.L0(k j:Nat)(x0 x1:Int)(x2:LI):Option Int:=LL k 47 c71 j (K72 k) [frm 28 [(0,Sl 0),(3,In x0),(4,In x1)]] [Ro x2]
def aU.J1(k k1:Nat)(x0 x1:Int)(x2:LI):Option Int:=JJ k 47 (cB (cB c71)) (LK k 47 c71 k1 (K72 k)) [frm 28 [(0,Sl 0),(3,In x0),(4,In x1)]] [Ro x2]
theorem aU.eq(k:Nat)(a0):aU (k+1) a0=B (cG k a0) fun r0=>T (D.no r0) (some (-1)) (aU.L0 k k 0 1 a0):=by kernel_rfl
theorem aU.bm(k j:Nat)(x0 x1 x2):aU.L0 k (j+1) x0 x1 x2=T (D.lt x1 (O (N x2))) (T (D.le 0 (Z .i64 (M x1 1))) (T (U (V (Z .i64 (M x1 1))) (N x2)) (T (U (V (Z .i64 (M x1 1))) (N x2)) (T (D.le 0 x1) (T (U (V x1) (N x2)) (T (U (V x1) (N x2)) (T (D.lt (E x2 (V x1) 0) (E x2 (V (Z .i64 (M x1 1))) 0)) (aU.J1 k j (Z .i64 (A x0 x1)) x1 x2) (aU.J1 k j x0 x1 x2)) none) none) none) none) none) none) (some x0):=(jn _ _).trans (by kernel_rfl)
theorem aU.fJ(k k1:Nat)(x0 x1 x2):aU.J1 k k1 x0 x1 x2=aU.L0 k k1 x0 (Z .i64 (A x1 1)) x2:=(jn _ _).trans (by kernel_rfl)
def bj(k:Nat)(a0:LI):Option ByteArray:=call k 15 a0
def bj.J0(k:Nat)(x0:ByteArray)(x1 x2 x3:LI)(x4:LJ)(x5:LI)(x6:LJ):Option ByteArray:=JJ k 15 (cB (cB (cB (cB (cB (cB (cB (cJ P 15)))))))) (R0 15) [frm 47 [(0,Sl 0),(3,.pv 1 0),(5,.pv 2 0),(7,Sl 3),(9,.str x0)]] [Ro x1,.var [Sl 4,Sl 5],.var [Sl 6,Sl 7],Rw x2,Rw x3,Rww x4,Rw x5,Rww x6]
theorem bj.eq(k:Nat)(a0):bj (k+1) a0=B (ef k a0) fun r0=>T (D.no r0.2) (some (⟨#[]⟩:ByteArray)) (B (fG k a0) fun r1=>B (bz k a0) fun r2=>B (b9 k a0) fun r3=>T r3 (bj.J0 k (⟨#[108,97,116,116,105,99,101]⟩:ByteArray) a0 r2.1 r0.1.1 r0.1.2 r1.1.1 r1.1.2) (bj.J0 k (⟨#[111,116,104,101,114]⟩:ByteArray) a0 r2.1 r0.1.1 r0.1.2 r1.1.1 r1.1.2)):=by kernel_rfl
theorem bj.lp(k:Nat)(x0 x1 x2 x3 x4 x5 x6):bj.J0 k x0 x1 x2 x3 x4 x5 x6=B (bF k (x3,x4)) fun r4=>B (bF k (x5,x6)) fun r5=>B (e9 k x1) fun r6=>B (ez k r6) fun r7=>B (ao k x1) fun r8=>B (dF k r8) fun r9=>B (aU k x1) fun r10=>B (dF k r10) fun r11=>B (fg k x2) fun r12=>B (gW k ((⟨#[105,110,115,101,114,116]⟩:ByteArray)::(r4::((⟨#[114,101,99,111,114,100]⟩:ByteArray)::(r5::((⟨#[115,104,97,112,101]⟩:ByteArray)::(r7::((⟨#[105,110,118,101,114,115,105,111,110,115]⟩:ByteArray)::(r9::((⟨#[109,97,106,111,114]⟩:ByteArray)::(r11::(x0::((⟨#[104,105,103,104,101,115,116]⟩:ByteArray)::(r12::([]:List ByteArray)))))))))))))) (⟨#[32]⟩:ByteArray)) fun r13=>some r13:=(jn _ _).trans (by kernel_rfl)
def dI(k:Nat)(a0:Int):Option ByteArray:=call k 8 a0
theorem dI.eq(k:Nat)(a0):dI (k+1) a0=B (cr k a0) fun r0=>B (a7 k r0) fun r1=>T (D.no r1.2) (some (⟨#[]⟩:ByteArray)) (B (bj k r1.1) fun r2=>some r2):=by kernel_rfl
def c73:Code:=cB (cB (cB (cB (cJ P 56))))
def c74:Code:=cC (cC (cA c73))
def K75(k:Nat):cY (den (resTy P 56)):=bH 0 (JK k 56 (cB c73) (R0 56))
def aR(k:Nat)(a0:Int):Option ByteArray:=call k 56 a0
def aR.L0(k j:Nat)(x0:Int)(x1:Bool)(x2:ByteArray):Option ByteArray:=LL k 56 c74 j (K75 k) [frm 31 [(0,In x0),(3,.bool x1),(4,.str x2)]] []
def aR.J1(k k1:Nat)(x0:Int)(x1:Bool)(x2:ByteArray)(x3:Int):Option ByteArray:=JJ k 56 (cB (cB (cC (cB c74)))) (bH 1 (LK k 56 c74 k1 (K75 k))) [frm 31 [(0,In x0),(3,.bool x1),(4,.str x2),(5,In x3)]] []
theorem aR.eq(k:Nat)(a0):aR (k+1) a0=T (D.eq a0 0) (some (⟨#[48]⟩:ByteArray)) (aR.L0 k k a0 (D.lt a0 0) (⟨#[]⟩:ByteArray)):=by kernel_rfl
theorem aR.bm(k j:Nat)(x0 x1 x2):aR.L0 k (j+1) x0 x1 x2=T (D.no (D.eq x0 0)) (T (D.no (D.eq 10 0)) (T (D.lt (D.rem x0 10) 0) (aR.J1 k j x0 x1 x2 (Z .i64 (M 0 (D.rem x0 10)))) (aR.J1 k j x0 x1 x2 (D.rem x0 10))) none) (T x1 (T (D.leN (D.addN (D.lenS (⟨#[45]⟩:ByteArray)) (D.lenS x2)) 1099511627776) (some (D.catS (⟨#[45]⟩:ByteArray) x2)) none) (some x2)):=(jn _ _).trans (by kernel_rfl)
theorem aR.fJ(k k1:Nat)(x0 x1 x2 x3):aR.J1 k k1 x0 x1 x2 x3=T (D.leN (D.addN (D.lenS (D.ofInts ((Z .u8 (Z .i64 (A 48 x3)))::([]:LI)))) (D.lenS x2)) 1099511627776) (T (D.no (D.eq 10 0)) (aR.L0 k k1 (Z .i64 (D.quo x0 10)) x1 (D.catS (D.ofInts ((Z .u8 (Z .i64 (A 48 x3)))::([]:LI))) x2)) none) none:=(jn _ _).trans (by kernel_rfl)
def c76:Code:=cB (cB (cB (cB (cJ P 35))))
def cn(k:Nat)(a0:LI):Option ByteArray:=call k 35 a0
def cn.L0(k j:Nat)(x0:ByteArray)(x1:Int)(x2:LI):Option ByteArray:=LL k 35 (cC (cC (cB (cA c76)))) j (bH 0 (JK k 35 (cB c76) (R0 35))) [frm 25 [(0,Sl 0),(3,.str x0),(4,In x1)]] [Ro x2]
theorem cn.eq(k:Nat)(a0):cn (k+1) a0=B (aS k a0) fun r0=>T (D.no r0) (some (⟨#[]⟩:ByteArray)) (T (D.eq (O (N a0)) 0) (some (⟨#[45]⟩:ByteArray)) (cn.L0 k k (⟨#[]⟩:ByteArray) 0 a0)):=by kernel_rfl
theorem cn.bm(k j:Nat)(x0 x1 x2):cn.L0 k (j+1) x0 x1 x2=T (D.lt x1 (O (N x2))) (T (D.le 0 x1) (T (U (V x1) (N x2)) (T (U (V x1) (N x2)) (B (aR k (E x2 (V x1) 0)) fun r1=>T (D.leN (D.addN (D.lenS x0) (D.lenS r1)) 1099511627776) (cn.L0 k j (D.catS x0 r1) (Z .i64 (A x1 1)) x2) none) none) none) none) (some x0):=(jn _ _).trans (by kernel_rfl)
def c77:Code:=cB (cB (cJ P 12))
def c78:Code:=cC (cC (cB (cA c77)))
def c79:Code:=cB c77
def K80(k:Nat):cY (den (resTy P 12)):=bH 0 (JK k 12 c79 (R0 12))
def aH(k:Nat)(a0:ByteArray):Option ((LI)×Bool):=call k 12 a0
def aH.L0(k j:Nat)(x0:ByteArray)(x1:Int)(x2:LI):Option ((LI)×Bool):=LL k 12 c78 j (K80 k) [frm 31 [(0,.str x0),(4,Sl 0),(5,In x1)]] [Rw x2]
def aH.J1(k k1:Nat)(x0:ByteArray)(x1:Int)(x2:LI):Option ((LI)×Bool):=JJ k 12 (cB c78) (LK k 12 c78 k1 (K80 k)) [frm 31 [(0,.str x0),(4,Sl 0),(5,In x1)]] [Rw x2]
def aH.J2(k:Nat)(x0:ByteArray)(x1:LI):Option ((LI)×Bool):=JJ k 12 c79 (R0 12) [frm 31 [(0,.str x0),(4,Sl 0)]] [Rw x1]
theorem aH.eq(k:Nat)(a0):aH (k+1) a0=aH.L0 k k a0 0 ([]:LI):=by kernel_rfl
theorem aH.bm(k j:Nat)(x0 x1 x2):aH.L0 k (j+1) x0 x1 x2=T (D.lt x1 (O (D.lenS x0))) (T (D.no (D.eqS x0 (⟨#[45]⟩:ByteArray))) (aH.J1 k j x0 x1 x2) (aH.J2 k x0 x2)) (aH.J2 k x0 x2):=(jn _ _).trans (by kernel_rfl)
theorem aH.fJ(k k1:Nat)(x0 x1 x2):aH.J1 k k1 x0 x1 x2=T (D.le 0 x1) (T (U (V x1) (D.lenS x0)) (T (D.leN (N (D.app x2 ((Z .i64 (M (Z .i64 (D.byte x0 (V x1))) 48))::([]:LI)))) 1099511627776) (aH.L0 k k1 x0 (Z .i64 (A x1 1)) (D.app x2 ((Z .i64 (M (Z .i64 (D.byte x0 (V x1))) 48))::([]:LI)))) none) none) none:=(jn _ _).trans (by kernel_rfl)
theorem aH.jW(k:Nat)(x0 x1):aH.J2 k x0 x1=B (cn k x1) fun r0=>T (D.no (D.eqS r0 x0)) (some (([]:LI),false)) (some (x1,true)):=(jn _ _).trans (by kernel_rfl)
def dR(k:Nat)(a0:Int):Option ByteArray:=call k 14 a0
theorem dR.eq(k:Nat)(a0):dR (k+1) a0=T (D.eq a0 1) (some (⟨#[51,49,50]⟩:ByteArray)) (T (D.eq a0 2) (some (⟨#[50,49,49,51]⟩:ByteArray)) (T (D.eq a0 3) (some (⟨#[53,52,51,50,49]⟩:ByteArray)) (T (D.eq a0 4) (some (⟨#[49,50,49,50]⟩:ByteArray)) (T (D.eq a0 5) (some (⟨#[45]⟩:ByteArray)) (T (D.eq a0 6) (some (⟨#[51,53,49,52,50]⟩:ByteArray)) (some (⟨#[]⟩:ByteArray))))))):=by kernel_rfl
def c81:Code:=cB (cB (cJ P 134))
def dh(k:Nat)(a0:(LI)×(LJ)):Option ((LI)×(LJ)):=call k 134 a0
def dh.L0(k j:Nat)(x0:Int)(x1:LI)(x2:LJ)(x3:LI)(x4:LJ)(x5:LI)(x6:LJ):Option ((LI)×(LJ)):=LL k 134 (cC (cC (cB (cA c81)))) j (bH 0 (JK k 134 (cB c81) (R0 134))) [frm 30 [(1,.pv 0 0),(2,.pv 1 0),(3,.pv 2 0),(4,In x0)]] [.var [Sl 3,Sl 4],.var [Sl 5,Sl 6],.var [Sl 7,Sl 8],Ro x1,Roo x2,Rw x3,Rww x4,Rw x5,Rww x6]
theorem dh.eq(k:Nat)(a0):dh (k+1) a0=T (D.leN (N (D.app ([]:LI) a0.1)) 1099511627776) (dh.L0 k k 0 a0.1 a0.2 ([]:LI) ([]:LJ) (D.app ([]:LI) a0.1) ([]:LJ)) none:=by kernel_rfl
theorem dh.bm(k j:Nat)(x0 x1 x2 x3 x4 x5 x6):dh.L0 k (j+1) x0 x1 x2 x3 x4 x5 x6=T (D.lt x0 (O (N x2))) (T (D.le 0 x0) (T (U (V x0) (N x2)) (T (U (V x0) (N x2)) (T (U (V x0) (N x2)) (T (D.leN (N (D.app ([]:LI) (E x2 (V x0) []))) 1099511627776) (T (D.leN (N (D.app x6 ((D.app ([]:LI) (E x2 (V x0) []))::([]:LJ)))) 1099511627776) (dh.L0 k j (Z .i64 (A x0 1)) x1 x2 x3 x4 x5 (D.app x6 ((D.app ([]:LI) (E x2 (V x0) []))::([]:LJ)))) none) none) none) none) none) none) (some (x5,x6)):=(jn _ _).trans (by kernel_rfl)
def c82:Code:=cB (cB (cJ P 93))
def c83:Code:=cC (cC (cB (cA c82)))
def K84(k:Nat):cY (den (resTy P 93)):=bH 0 (JK k 93 (cB c82) (R0 93))
def c85:Code:=cB c83
def c86:Code:=cB (cC (cA c85))
def c87:Code:=cC (cC (cA c86))
def c88:Code:=cB c86
def K89(k k1:Nat):cY (den (resTy P 93)):=bH 1 (JK k 93 (cB c85) (LK k 93 c83 k1 (K84 k)))
def K90(k k1:Nat):cY (den (resTy P 93)):=bH 2 (JK k 93 c88 (K89 k k1))
def aJ(k:Nat)(a0:(LI)×(LJ))(a1:Int):Option (((LI)×(LJ))×Int):=call k 93 (a0,a1)
def aJ.L0(k j:Nat)(x0 x1:Int)(x2:LI)(x3:LJ)(x4:LI)(x5:LJ):Option (((LI)×(LJ))×Int):=LL k 93 c83 j (K84 k) [frm 92 [(1,In x0),(4,.pv 0 0),(6,.pv 1 0),(7,In x1)]] [.var [Sl 2,Sl 3],.var [Sl 4,Sl 5],Rw x2,Rww x3,Rw x4,Rww x5]
def aJ.L1(k k1 j:Nat)(x0 x1 x2:Int)(x3:LI)(x4:LJ)(x5:LI)(x6:LJ):Option (((LI)×(LJ))×Int):=LL k 93 c87 j (K90 k k1) [frm 92 [(1,In x0),(4,.pv 0 0),(6,.pv 1 0),(7,In x1),(8,In x2)]] [.var [Sl 2,Sl 3],.var [Sl 4,Sl 5],Rw x3,Rww x4,Rw x5,Rww x6]
def aJ.J2(k k1 k2:Nat)(x0 x1 x2:Int)(x3:LI)(x4:LJ)(x5:LI)(x6:LJ):Option (((LI)×(LJ))×Int):=JJ k 93 (cB c87) (LK k 93 c87 k2 (K90 k k1)) [frm 92 [(1,In x0),(4,.pv 0 0),(6,.pv 1 0),(7,In x1),(8,In x2)]] [.var [Sl 2,Sl 3],.var [Sl 4,Sl 5],Rw x3,Rww x4,Rw x5,Rww x6]
def aJ.J3(k k1:Nat)(x0 x1 x2:Int)(x3:LI)(x4:LJ)(x5:LI)(x6:LJ):Option (((LI)×(LJ))×Int):=JJ k 93 c88 (K89 k k1) [frm 92 [(1,In x0),(4,.pv 0 0),(6,.pv 1 0),(7,In x1),(8,In x2)]] [.var [Sl 2,Sl 3],.var [Sl 4,Sl 5],Rw x3,Rww x4,Rw x5,Rww x6]
theorem aJ.eq(k:Nat)(a0 a1):aJ (k+1) a0 a1=B (dh k (a0.1,a0.2)) fun r0=>aJ.L0 k k a1 0 ([]:LI) ([]:LJ) r0.1 r0.2:=by kernel_rfl
theorem aJ.bm(k j:Nat)(x0 x1 x2 x3 x4 x5):aJ.L0 k (j+1) x0 x1 x2 x3 x4 x5=T (D.lt x1 (O (N x5))) (aJ.L1 k j k x0 x1 0 x2 x3 x4 x5) (T (D.leN (N (D.app x5 ((x0::([]:LI))::([]:LJ)))) 1099511627776) (some ((x4,(D.app x5 ((x0::([]:LI))::([]:LJ)))),(Z .i64 (M (O (N (D.app x5 ((x0::([]:LI))::([]:LJ))))) 1)))) none):=(jn _ _).trans (by kernel_rfl)
theorem aJ.fN(k k1 j:Nat)(x0 x1 x2 x3 x4 x5 x6):aJ.L1 k k1 (j+1) x0 x1 x2 x3 x4 x5 x6=T (D.le 0 x1) (T (U (V x1) (N x6)) (T (U (V x1) (N x6)) (T (U (V x1) (N x6)) (T (D.lt x2 (O (N (E x6 (V x1) [])))) (T (D.le 0 x1) (T (U (V x1) (N x6)) (T (U (V x1) (N x6)) (T (U (V x1) (N x6)) (T (D.le 0 x2) (T (U (V x2) (N (E x6 (V x1) []))) (T (U (V x1) (N x6)) (T (U (V x2) (N (E x6 (V x1) []))) (T (D.le (E (E x6 (V x1) []) (V x2) 0) x0) (aJ.J2 k k1 j x0 x1 x2 x3 x4 x5 x6) (aJ.J3 k k1 x0 x1 x2 x3 x4 x5 x6)) none) none) none) none) none) none) none) none) (aJ.J3 k k1 x0 x1 x2 x3 x4 x5 x6)) none) none) none) none:=(jn _ _).trans (by kernel_rfl)
theorem aJ.jW(k k1 k2:Nat)(x0 x1 x2 x3 x4 x5 x6):aJ.J2 k k1 k2 x0 x1 x2 x3 x4 x5 x6=aJ.L1 k k1 k2 x0 x1 (Z .i64 (A x2 1)) x3 x4 x5 x6:=(jn _ _).trans (by kernel_rfl)
theorem aJ.vL(k k1:Nat)(x0 x1 x2 x3 x4 x5 x6):aJ.J3 k k1 x0 x1 x2 x3 x4 x5 x6=T (D.le 0 x1) (T (U (V x1) (N x6)) (T (U (V x1) (N x6)) (T (U (V x1) (N x6)) (T (D.eq x2 (O (N (E x6 (V x1) [])))) (T (D.le 0 x1) (T (U (V x1) (N x6)) (T (U (V x1) (N x6)) (T (U (V x1) (N x6)) (T (D.leN (N (D.app (E x6 (V x1) []) (x0::([]:LI)))) 1099511627776) (T (D.le 0 x1) (T (U (V x1) (N x6)) (T (U (V x1) (N x6)) (T (D.eqP (((V x1),0)::([]:List (Nat×Nat))) (((V x1),0)::([]:List (Nat×Nat)))) (some ((x5,(D.set x6 (V x1) (D.app (E x6 (V x1) []) (x0::([]:LI))))),x1)) none) none) none) none) none) none) none) none) none) (T (D.le 0 x1) (T (U (V x1) (N x6)) (T (U (V x1) (N x6)) (T (U (V x1) (N x6)) (T (D.le 0 x2) (T (U (V x2) (N (E x6 (V x1) []))) (T (U (V x1) (N x6)) (T (U (V x2) (N (E x6 (V x1) []))) (T (D.le 0 x1) (T (U (V x1) (N x6)) (T (U (V x1) (N x6)) (T (U (V x1) (N x6)) (T (D.le 0 x2) (T (U (V x2) (N (E x6 (V x1) []))) (T (U (V x1) (N x6)) (T (U (V x2) (N (E x6 (V x1) []))) (aJ.L0 k k1 (E (E x6 (V x1) []) (V x2) 0) (Z .i64 (A x1 1)) x3 x4 x5 (D.set x6 (V x1) (D.set (E x6 (V x1) []) (V x2) x0))) none) none) none) none) none) none) none) none) none) none) none) none) none) none) none) none)) none) none) none) none:=(jn _ _).trans (by kernel_rfl)
def c91:Code:=cB (cB (cB (cJ P 50)))
def c92:Code:=cC (cC (cB (cA c91)))
def K93(k:Nat):cY (den (resTy P 50)):=bH 0 (JK k 50 (cB c91) (R0 50))
def c94:Code:=cB c92
def bG(k:Nat)(a0:LI):Option (((LI)×(LJ))×((LI)×(LJ))):=call k 50 a0
def bG.L0(k j:Nat)(x0:Int)(x1 x2:LI)(x3:LJ)(x4:LI)(x5:LJ)(x6:LI)(x7:LJ)(x8:LI)(x9:LJ):Option (((LI)×(LJ))×((LI)×(LJ))):=LL k 50 c92 j (K93 k) [frm 53 [(0,Sl 0),(2,.pv 1 0),(3,.pv 2 0),(4,.pv 3 0),(5,.pv 4 0),(6,In x0)]] [Ro x1,.var [Sl 5,Sl 6],.var [Sl 7,Sl 8],.var [Sl 9,Sl 10],.var [Sl 11,Sl 12],Rw x2,Rww x3,Rw x4,Rww x5,Rw x6,Rww x7,Rw x8,Rww x9]
def bG.J1(k k1:Nat)(x0 x1:Int)(x2 x3:LI)(x4:LJ)(x5:LI)(x6:LJ)(x7:LI)(x8:LJ)(x9:LI)(x10:LJ):Option (((LI)×(LJ))×((LI)×(LJ))):=JJ k 50 (cB (cB (cB (cC (cA c94))))) (bH 1 (JK k 50 (cB c94) (LK k 50 c92 k1 (K93 k)))) [frm 53 [(0,Sl 0),(2,.pv 1 0),(3,.pv 2 0),(4,.pv 3 0),(5,.pv 4 0),(6,In x0),(8,In x1)]] [Ro x2,.var [Sl 5,Sl 6],.var [Sl 7,Sl 8],.var [Sl 9,Sl 10],.var [Sl 11,Sl 12],Rw x3,Rww x4,Rw x5,Rww x6,Rw x7,Rww x8,Rw x9,Rww x10]
theorem bG.eq(k:Nat)(a0):bG (k+1) a0=bG.L0 k k 0 a0 ([]:LI) ([]:LJ) ([]:LI) ([]:LJ) ([]:LI) ([]:LJ) ([]:LI) ([]:LJ):=by kernel_rfl
theorem bG.bm(k j:Nat)(x0 x1 x2 x3 x4 x5 x6 x7 x8 x9):bG.L0 k (j+1) x0 x1 x2 x3 x4 x5 x6 x7 x8 x9=T (D.lt x0 (O (N x1))) (T (D.le 0 x0) (T (U (V x0) (N x1)) (T (U (V x0) (N x1)) (B (aJ k (x6,x7) (E x1 (V x0) 0)) fun r0=>T (D.eq r0.2 (O (N x9))) (T (D.leN (N (D.app x9 (([]:LI)::([]:LJ)))) 1099511627776) (bG.J1 k j x0 r0.2 x1 x2 x3 x4 x5 r0.1.1 r0.1.2 x8 (D.app x9 (([]:LI)::([]:LJ)))) none) (bG.J1 k j x0 r0.2 x1 x2 x3 x4 x5 r0.1.1 r0.1.2 x8 x9)) none) none) none) (some ((x6,x7),(x8,x9))):=(jn _ _).trans (by kernel_rfl)
theorem bG.fJ(k k1:Nat)(x0 x1 x2 x3 x4 x5 x6 x7 x8 x9 x10):bG.J1 k k1 x0 x1 x2 x3 x4 x5 x6 x7 x8 x9 x10=T (D.le 0 x1) (T (U (V x1) (N x10)) (T (U (V x1) (N x10)) (T (U (V x1) (N x10)) (T (D.leN (N (D.app (E x10 (V x1) []) ((Z .i64 (A x0 1))::([]:LI)))) 1099511627776) (T (D.le 0 x1) (T (U (V x1) (N x10)) (T (U (V x1) (N x10)) (T (D.eqP (((V x1),0)::([]:List (Nat×Nat))) (((V x1),0)::([]:List (Nat×Nat)))) (bG.L0 k k1 (Z .i64 (A x0 1)) x2 x3 x4 x5 x6 x7 x8 x9 (D.set x10 (V x1) (D.app (E x10 (V x1) []) ((Z .i64 (A x0 1))::([]:LI))))) none) none) none) none) none) none) none) none) none:=(jn _ _).trans (by kernel_rfl)
def c95:Code:=cB (cB (cJ P 51))
def c96:Code:=cC (cC (cB (cA c95)))
def K97(k:Nat):cY (den (resTy P 51)):=bH 0 (JK k 51 (cB c95) (R0 51))
def c98:Code:=cB c96
def K99(k k1:Nat):cY (den (resTy P 51)):=LK k 51 c96 k1 (K97 k)
def aQ(k:Nat)(a0:LI):Option Bool:=call k 51 a0
def aQ.L0(k j:Nat)(x0:Int)(x1 x2:LI):Option Bool:=LL k 51 c96 j (K97 k) [frm 56 [(0,Sl 0),(3,Sl 1),(4,In x0)]] [Ro x1,Rw x2]
def aQ.J1(k k1:Nat)(x0:Int)(x1 x2:LI):Option Bool:=JJ k 51 c98 (K99 k k1) [frm 56 [(0,Sl 0),(3,Sl 1),(4,In x0)]] [Ro x1,Rw x2]
def aQ.J2(k k1:Nat)(x0:Int)(x1 x2:LI):Option Bool:=JJ k 51 (cB c98) (K99 k k1) [frm 56 [(0,Sl 0),(3,Sl 1),(4,In x0)]] [Ro x1,Rw x2]
theorem aQ.eq(k:Nat)(a0):aQ (k+1) a0=T (D.le 0 11) (T (D.le 11 11) (T (D.leN (V 11) 1099511627776) (aQ.L0 k k (Z .i64 (M (O (N a0)) 1)) a0 (D.rep (V 11) (0:Int))) none) none) none:=by kernel_rfl
theorem aQ.bm(k j:Nat)(x0 x1 x2):aQ.L0 k (j+1) x0 x1 x2=T (D.le 0 x0) (B (aS k x1) fun r0=>T r0 (aQ.J1 k j x0 x1 x2) (B (aS k x1) fun r1=>some r1)) (B (aS k x1) fun r2=>some r2):=(jn _ _).trans (by kernel_rfl)
theorem aQ.fJ(k k1:Nat)(x0 x1 x2):aQ.J1 k k1 x0 x1 x2=T (D.le 0 x0) (T (U (V x0) (N x1)) (T (U (V x0) (N x1)) (T (D.le 0 x0) (T (U (V x0) (N x1)) (T (U (V x0) (N x1)) (T (D.le 0 (E x1 (V x0) 0)) (T (U (V (E x1 (V x0) 0)) (N x2)) (T (U (V (E x1 (V x0) 0)) (N x2)) (T (D.le 0 (E x1 (V x0) 0)) (T (U (V (E x1 (V x0) 0)) (N x2)) (T (U (V (E x1 (V x0) 0)) (N x2)) (T (D.le 0 x0) (T (U (V x0) (N x1)) (T (U (V x0) (N x1)) (T (D.lt 1 (E x1 (V x0) 0)) (T (D.le 0 x0) (T (U (V x0) (N x1)) (T (U (V x0) (N x1)) (T (D.le 0 (E x1 (V x0) 0)) (T (U (V (E x1 (V x0) 0)) (N (D.set x2 (V (E x1 (V x0) 0)) (Z .i64 (A (E x2 (V (E x1 (V x0) 0)) 0) 1))))) (T (U (V (E x1 (V x0) 0)) (N (D.set x2 (V (E x1 (V x0) 0)) (Z .i64 (A (E x2 (V (E x1 (V x0) 0)) 0) 1))))) (T (D.le 0 x0) (T (U (V x0) (N x1)) (T (U (V x0) (N x1)) (T (D.le 0 (Z .i64 (M (E x1 (V x0) 0) 1))) (T (U (V (Z .i64 (M (E x1 (V x0) 0) 1))) (N (D.set x2 (V (E x1 (V x0) 0)) (Z .i64 (A (E x2 (V (E x1 (V x0) 0)) 0) 1))))) (T (U (V (Z .i64 (M (E x1 (V x0) 0) 1))) (N (D.set x2 (V (E x1 (V x0) 0)) (Z .i64 (A (E x2 (V (E x1 (V x0) 0)) 0) 1))))) (T (D.lt (E (D.set x2 (V (E x1 (V x0) 0)) (Z .i64 (A (E x2 (V (E x1 (V x0) 0)) 0) 1))) (V (Z .i64 (M (E x1 (V x0) 0) 1))) 0) (E (D.set x2 (V (E x1 (V x0) 0)) (Z .i64 (A (E x2 (V (E x1 (V x0) 0)) 0) 1))) (V (E x1 (V x0) 0)) 0)) (some false) (aQ.J2 k k1 x0 x1 (D.set x2 (V (E x1 (V x0) 0)) (Z .i64 (A (E x2 (V (E x1 (V x0) 0)) 0) 1))))) none) none) none) none) none) none) none) none) none) none) none) none) (aQ.J2 k k1 x0 x1 (D.set x2 (V (E x1 (V x0) 0)) (Z .i64 (A (E x2 (V (E x1 (V x0) 0)) 0) 1))))) none) none) none) none) none) none) none) none) none) none) none) none) none) none) none:=(jn _ _).trans (by kernel_rfl)
theorem aQ.jW(k k1:Nat)(x0 x1 x2):aQ.J2 k k1 x0 x1 x2=aQ.L0 k k1 (Z .i64 (M x0 1)) x1 x2:=(jn _ _).trans (by kernel_rfl)
def ic(k:Nat)(a0:LI)(a1:Int):Option Bool:=call k 135 (a0,a1)
theorem ic.eq(k:Nat)(a0 a1):ic (k+1) a0 a1=B (aS k a0) fun r0=>T r0 (B (fP k a1 1 8) fun r1=>some r1) (some false):=by kernel_rfl
def Gb:Code:=cB (cB (cB (cJ P 136)))
def E5:Code:=cC (cC (cB (cA Gb)))
def FW(k:Nat):cY (den (resTy P 136)):=bH 0 (JK k 136 (cB Gb) (R0 136))
def Gw:Code:=cB (cB E5)
def Gl(k k1:Nat):cY (den (resTy P 136)):=LK k 136 E5 k1 (FW k)
def aG(k:Nat)(a0:LI)(a1:Int):Option ((LI)×(LI)):=call k 136 (a0,a1)
def aG.L0(k j:Nat)(x0 x1:Int)(x2 x3 x4:LI):Option ((LI)×(LI)):=LL k 136 E5 j (FW k) [frm 59 [(0,Sl 0),(1,In x0),(6,Sl 1),(7,Sl 2),(8,In x1)]] [Ro x2,Rw x3,Rw x4]
def aG.J1(k k1:Nat)(x0 x1:Int)(x2 x3 x4:LI):Option ((LI)×(LI)):=JJ k 136 Gw (Gl k k1) [frm 59 [(0,Sl 0),(1,In x0),(6,Sl 1),(7,Sl 2),(8,In x1)]] [Ro x2,Rw x3,Rw x4]
def aG.J2(k k1:Nat)(x0:Int)(x1 x2:Nat)(x3:Int)(x4 x5 x6:LI):Option ((LI)×(LI)):=JJ k 136 Gw (Gl k k1) [frm 59 [(0,Sl 0),(1,In x0),(6,Sl 1),(7,.sl 2 [] (Option.some (x1,x2))),(8,In x3)]] [Ro x4,Rw x5,Rw x6]
def aG.L3(k j:Nat)(x0:Int)(x1 x2:Nat)(x3:Int)(x4 x5 x6:LI):Option ((LI)×(LI)):=LL k 136 E5 j (FW k) [frm 59 [(0,Sl 0),(1,In x0),(6,Sl 1),(7,.sl 2 [] (Option.some (x1,x2))),(8,In x3)]] [Ro x4,Rw x5,Rw x6]
theorem aG.eq(k:Nat)(a0 a1):aG (k+1) a0 a1=aG.L0 k k a1 0 a0 ([]:LI) ([]:LI):=by kernel_rfl
theorem aG.bm(k j:Nat)(x0 x1 x2 x3 x4):aG.L0 k (j+1) x0 x1 x2 x3 x4=T (D.lt x1 (O (N x2))) (T (D.le 0 x1) (T (U (V x1) (N x2)) (T (U (V x1) (N x2)) (T (D.eq (E x2 (V x1) 0) (Z .i64 (A x0 1))) (T (D.leN (N (D.app x4 (x1::([]:LI)))) 1099511627776) (aG.J1 k j x0 x1 x2 x3 (D.app x4 (x1::([]:LI)))) none) (T (D.le 0 x1) (T (U (V x1) (N x2)) (T (U (V x1) (N x2)) (T (D.eq (E x2 (V x1) 0) x0) (T (D.lt 0 (O (N x4))) (T (D.le 0 (Z .i64 (M (O (N x4)) 1))) (T (D.leN (V (Z .i64 (M (O (N x4)) 1))) (N x4)) (aG.J2 k j x0 0 (D.subN (V (Z .i64 (M (O (N x4)) 1))) 0) x1 x2 x3 x4) none) none) (T (D.le 0 x1) (T (U (V x1) (N x2)) (T (U (V x1) (N x2)) (T (D.eq (E x2 (V x1) 0) x0) (T (D.leN (N (D.app x3 (x1::([]:LI)))) 1099511627776) (aG.J1 k j x0 x1 x2 (D.app x3 (x1::([]:LI))) x4) none) (aG.J1 k j x0 x1 x2 x3 x4)) none) none) none)) (T (D.le 0 x1) (T (U (V x1) (N x2)) (T (U (V x1) (N x2)) (T (D.eq (E x2 (V x1) 0) x0) (T (D.leN (N (D.app x3 (x1::([]:LI)))) 1099511627776) (aG.J1 k j x0 x1 x2 (D.app x3 (x1::([]:LI))) x4) none) (aG.J1 k j x0 x1 x2 x3 x4)) none) none) none)) none) none) none)) none) none) none) (some (x3,x4)):=(jn _ _).trans (by kernel_rfl)
theorem aG.fJ(k k1:Nat)(x0 x1 x2 x3 x4):aG.J1 k k1 x0 x1 x2 x3 x4=aG.L0 k k1 x0 (Z .i64 (A x1 1)) x2 x3 x4:=(jn _ _).trans (by kernel_rfl)
theorem aG.jW(k k1:Nat)(x0 x1 x2 x3 x4 x5 x6):aG.J2 k k1 x0 x1 x2 x3 x4 x5 x6=aG.L3 k k1 x0 x1 x2 (Z .i64 (A x3 1)) x4 x5 x6:=(jn _ _).trans (by kernel_rfl)
theorem aG.Ff(k j:Nat)(x0 x1 x2 x3 x4 x5 x6):aG.L3 k (j+1) x0 x1 x2 x3 x4 x5 x6=T (D.lt x3 (O (N x4))) (T (D.le 0 x3) (T (U (V x3) (N x4)) (T (U (V x3) (N x4)) (T (D.eq (E x4 (V x3) 0) (Z .i64 (A x0 1))) (T (D.leN (N (D.app (D.take x2 (D.drop x1 x6)) (x3::([]:LI)))) 1099511627776) (aG.J1 k j x0 x3 x4 x5 (D.app (D.take x2 (D.drop x1 x6)) (x3::([]:LI)))) none) (T (D.le 0 x3) (T (U (V x3) (N x4)) (T (U (V x3) (N x4)) (T (D.eq (E x4 (V x3) 0) x0) (T (D.lt 0 (O x2)) (T (D.le 0 (Z .i64 (M (O x2) 1))) (T (D.leN (V (Z .i64 (M (O x2) 1))) x2) (aG.J2 k j x0 (D.addN x1 0) (D.subN (V (Z .i64 (M (O x2) 1))) 0) x3 x4 x5 x6) none) none) (T (D.le 0 x3) (T (U (V x3) (N x4)) (T (U (V x3) (N x4)) (T (D.eq (E x4 (V x3) 0) x0) (T (D.leN (N (D.app x5 (x3::([]:LI)))) 1099511627776) (aG.J2 k j x0 x1 x2 x3 x4 (D.app x5 (x3::([]:LI))) x6) none) (aG.J2 k j x0 x1 x2 x3 x4 x5 x6)) none) none) none)) (T (D.le 0 x3) (T (U (V x3) (N x4)) (T (U (V x3) (N x4)) (T (D.eq (E x4 (V x3) 0) x0) (T (D.leN (N (D.app x5 (x3::([]:LI)))) 1099511627776) (aG.J2 k j x0 x1 x2 x3 x4 (D.app x5 (x3::([]:LI))) x6) none) (aG.J2 k j x0 x1 x2 x3 x4 x5 x6)) none) none) none)) none) none) none)) none) none) none) (some (x5,(D.take x2 (D.drop x1 x6)))):=(jn _ _).trans (by kernel_rfl)
def fT(k:Nat)(a0:LI)(a1:Int):Option ((LI)×Bool):=call k 94 (a0,a1)
theorem fT.eq(k:Nat)(a0 a1):fT (k+1) a0 a1=B (ic k a0 a1) fun r0=>T (D.no r0) (some (([]:LI),false)) (B (aG k a0 a1) fun r1=>T (D.eq (O (N r1.2)) 0) (some (([]:LI),false)) (T (D.leN (N (D.app ([]:LI) a0)) 1099511627776) (T (D.le 0 0) (T (U (V 0) (N r1.2)) (T (U (V 0) (N r1.2)) (T (D.le 0 (E r1.2 (V 0) 0)) (T (U (V (E r1.2 (V 0) 0)) (N (D.app ([]:LI) a0))) (T (U (V (E r1.2 (V 0) 0)) (N (D.app ([]:LI) a0))) (some ((D.set (D.app ([]:LI) a0) (V (E r1.2 (V 0) 0)) a1),true)) none) none) none) none) none) none) none)):=by kernel_rfl
def Gg:Code:=cB (cB (cB (cJ P 52)))
def cb(k:Nat)(a0:LI):Option ((LI)×Bool):=call k 52 a0
def cb.L0(k j:Nat)(x0:Int)(x1:LI):Option ((LI)×Bool):=LL k 52 (cC (cC (cB (cA Gg)))) j (bH 0 (JK k 52 (cB Gg) (R0 52))) [frm 28 [(4,Sl 0),(5,In x0)]] [Rw x1]
theorem cb.eq(k:Nat)(a0):cb (k+1) a0=B (aS k a0) fun r0=>T (D.no r0) (some (([]:LI),false)) (T (D.leN (N (D.app ([]:LI) a0)) 1099511627776) (cb.L0 k k 1 (D.app ([]:LI) a0)) none):=by kernel_rfl
theorem cb.bm(k j:Nat)(x0 x1):cb.L0 k (j+1) x0 x1=T (D.lt x0 9) (B (fT k x1 x0) fun r1=>T r1.2 (cb.L0 k j 1 r1.1) (cb.L0 k j (Z .i64 (A x0 1)) x1)) (some (x1,true)):=(jn _ _).trans (by kernel_rfl)
def GB:Code:=cB (cB (cJ P 98))
def FG:Code:=cC (cC (cB (cA GB)))
def Gy(k:Nat):cY (den (resTy P 98)):=bH 0 (JK k 98 (cB GB) (R0 98))
def Gd:Code:=cB FG
def aL(k:Nat)(a0:LI):Option Bool:=call k 98 a0
def aL.L0(k j:Nat)(x0 x1:Int)(x2:LI):Option Bool:=LL k 98 FG j (Gy k) [frm 41 [(0,Sl 0),(3,In x0),(4,In x1)]] [Ro x2]
def aL.J1(k k1:Nat)(x0 x1:Int)(x2:LI):Option Bool:=JJ k 98 (cB (cC (cA Gd))) (bH 1 (JK k 98 (cB Gd) (LK k 98 FG k1 (Gy k)))) [frm 41 [(0,Sl 0),(3,In x0),(4,In x1)]] [Ro x2]
theorem aL.eq(k:Nat)(a0):aL (k+1) a0=aL.L0 k k 0 0 a0:=by kernel_rfl
theorem aL.bm(k j:Nat)(x0 x1 x2):aL.L0 k (j+1) x0 x1 x2=T (D.lt x1 (O (N x2))) (T (D.le 0 x1) (T (U (V x1) (N x2)) (T (U (V x1) (N x2)) (B (fP k (E x2 (V x1) 0) 1 9) fun r0=>T (D.no r0) (some false) (T (D.lt 0 x1) (T (D.le 0 x1) (T (U (V x1) (N x2)) (T (U (V x1) (N x2)) (T (D.le 0 (Z .i64 (M x1 1))) (T (U (V (Z .i64 (M x1 1))) (N x2)) (T (U (V (Z .i64 (M x1 1))) (N x2)) (T (D.lt (E x2 (V (Z .i64 (M x1 1))) 0) (E x2 (V x1) 0)) (some false) (aL.J1 k j x0 x1 x2)) none) none) none) none) none) none) (aL.J1 k j x0 x1 x2))) none) none) none) (some true):=(jn _ _).trans (by kernel_rfl)
theorem aL.fJ(k k1:Nat)(x0 x1 x2):aL.J1 k k1 x0 x1 x2=T (D.le 0 x1) (T (U (V x1) (N x2)) (T (U (V x1) (N x2)) (T (D.lt 9 (Z .i64 (A x0 (E x2 (V x1) 0)))) (some false) (aL.L0 k k1 (Z .i64 (A x0 (E x2 (V x1) 0))) (Z .i64 (A x1 1)) x2)) none) none) none:=(jn _ _).trans (by kernel_rfl)
def dO(k:Nat)(a0:LI)(a1:Int):Option Int:=call k 96 (a0,a1)
def dO.J0(k:Nat)(x0:Int)(x1:LI):Option Int:=JJ k 96 (cB (cB (cJ P 96))) (R0 96) [frm 17 [(0,Sl 0),(1,In x0)]] [Ro x1]
theorem dO.eq(k:Nat)(a0 a1):dO (k+1) a0 a1=T (D.lt a1 0) (some 0) (T (D.le (O (N a0)) a1) (some 0) (dO.J0 k a1 a0)):=by kernel_rfl
theorem dO.lp(k:Nat)(x0 x1):dO.J0 k x0 x1=T (D.le 0 x0) (T (U (V x0) (N x1)) (T (U (V x0) (N x1)) (some (E x1 (V x0) 0)) none) none) none:=(jn _ _).trans (by kernel_rfl)
def FM:Code:=cB (cB (cJ P 103))
def bM(k:Nat)(a0 a1:LI):Option Bool:=call k 103 (a0,a1)
def bM.J0(k:Nat)(x0 x1:LI):Option Bool:=JJ k 103 FM (R0 103) [frm 36 [(0,Sl 0),(1,Sl 1)]] [Ro x0,Ro x1]
def bM.L1(k j:Nat)(x0:Int)(x1 x2:LI):Option Bool:=LL k 103 (cC (cC (cB (cA FM)))) j (bH 0 (JK k 103 (cB FM) (R0 103))) [frm 36 [(0,Sl 0),(1,Sl 1),(5,In x0)]] [Ro x1,Ro x2]
theorem bM.eq(k:Nat)(a0 a1):bM (k+1) a0 a1=B (aL k a0) fun r0=>T (D.no r0) (some false) (B (aL k a1) fun r1=>T (D.no r1) (some false) (T (D.lt (O (N a1)) (O (N a0))) (some false) (bM.J0 k a0 a1))):=by kernel_rfl
theorem bM.lp(k:Nat)(x0 x1):bM.J0 k x0 x1=bM.L1 k k 0 x0 x1:=(jn _ _).trans (by kernel_rfl)
theorem bM.fN(k j:Nat)(x0 x1 x2):bM.L1 k (j+1) x0 x1 x2=T (D.lt x0 (O (N x1))) (T (D.le 0 x0) (T (U (V x0) (N x1)) (T (U (V x0) (N x1)) (T (D.le 0 x0) (T (U (V x0) (N x2)) (T (U (V x0) (N x2)) (T (D.lt (E x2 (V x0) 0) (E x1 (V x0) 0)) (some false) (bM.L1 k j (Z .i64 (A x0 1)) x1 x2)) none) none) none) none) none) none) (some true):=(jn _ _).trans (by kernel_rfl)
def ib(k:Nat)(a0:(LI)×(LI)):Option Bool:=call k 60 a0
theorem ib.eq(k:Nat)(a0):ib (k+1) a0=B (bM k a0.2 a0.1) fun r0=>some r0:=by kernel_rfl
def FT:Code:=cB (cB (cB (cJ P 101)))
def bP(k:Nat)(a0:(LI)×(LJ)):Option (((LI)×(LI))×Bool):=call k 101 a0
def bP.J0(k:Nat)(x0:LI)(x1:LJ)(x2 x3 x4 x5:LI):Option (((LI)×(LI))×Bool):=JJ k 101 FT (R0 101) [frm 59 [(1,.pv 0 0),(2,.pv 1 0),(4,.pv 2 0)]] [.var [Sl 3,Sl 4],.var [Sl 5,Sl 6],.var [Sl 7,Sl 8],Ro x0,Roo x1,Rw x2,Rw x3,Rw x4,Rw x5]
def bP.L1(k j:Nat)(x0:Int)(x1:LI)(x2:LJ)(x3 x4 x5 x6:LI):Option (((LI)×(LI))×Bool):=LL k 101 (cC (cC (cB (cA FT)))) j (bH 0 (JK k 101 (cB FT) (R0 101))) [frm 59 [(1,.pv 0 0),(2,.pv 1 0),(4,.pv 2 0),(5,In x0)]] [.var [Sl 3,Sl 4],.var [Sl 5,Sl 6],.var [Sl 7,Sl 8],Ro x1,Roo x2,Rw x3,Rw x4,Rw x5,Rw x6]
theorem bP.eq(k:Nat)(a0):bP (k+1) a0=T (D.leN (N (D.app ([]:LI) a0.1)) 1099511627776) (B (aL k a0.1) fun r0=>T (D.no r0) (some ((([]:LI),([]:LI)),false)) (T (D.lt (O (N a0.2)) (O (N a0.1))) (some ((([]:LI),([]:LI)),false)) (T (D.lt 9 (O (N a0.2))) (some ((([]:LI),([]:LI)),false)) (bP.J0 k a0.1 a0.2 ([]:LI) ([]:LI) ([]:LI) (D.app ([]:LI) a0.1))))) none:=by kernel_rfl
theorem bP.lp(k:Nat)(x0 x1 x2 x3 x4 x5):bP.J0 k x0 x1 x2 x3 x4 x5=bP.L1 k k 0 x0 x1 x2 x3 x4 x5:=(jn _ _).trans (by kernel_rfl)
theorem bP.fN(k j:Nat)(x0 x1 x2 x3 x4 x5 x6):bP.L1 k (j+1) x0 x1 x2 x3 x4 x5 x6=T (D.lt x0 (O (N x2))) (B (dO k x1 x0) fun r1=>T (D.le 0 x0) (T (U (V x0) (N x2)) (T (U (V x0) (N x2)) (T (U (V x0) (N x2)) (T (D.leN (N (D.app x5 ((Z .i64 (A r1 (O (N (E x2 (V x0) [])))))::([]:LI)))) 1099511627776) (bP.L1 k j (Z .i64 (A x0 1)) x1 x2 x3 x4 (D.app x5 ((Z .i64 (A r1 (O (N (E x2 (V x0) [])))))::([]:LI))) x6) none) none) none) none) none) (B (ib k (x5,x6)) fun r2=>T (D.no r2) (some ((([]:LI),([]:LI)),false)) (some ((x5,x6),true))):=(jn _ _).trans (by kernel_rfl)
def Gz:Code:=cB (cB (cJ P 137))
def cu(k:Nat)(a0:(LI)×(LJ))(a1 a2:Int):Option Int:=call k 137 (a0,a1,a2)
def cu.J0(k:Nat)(x0 x1:Int)(x2:LI)(x3:LJ):Option Int:=JJ k 137 Gz (R0 137) [frm 43 [(1,In x0),(2,In x1),(3,.pv 0 0)]] [.var [Sl 1,Sl 2],Ro x2,Roo x3]
def cu.J1(k:Nat)(x0 x1:Int)(x2:LI)(x3:LJ):Option Int:=JJ k 137 (cB (cB Gz)) (R0 137) [frm 43 [(1,In x0),(3,.pv 0 0),(7,In x1)]] [.var [Sl 1,Sl 2],Ro x2,Roo x3]
theorem cu.eq(k:Nat)(a0 a1 a2):cu (k+1) a0 a1 a2=T (D.lt a1 0) (some 0) (T (D.le (O (N a0.2)) a1) (some 0) (cu.J0 k a1 a2 a0.1 a0.2)):=by kernel_rfl
theorem cu.lp(k:Nat)(x0 x1 x2 x3):cu.J0 k x0 x1 x2 x3=B (dO k x2 x0) fun r0=>T (D.lt (Z .i64 (M x1 r0)) 0) (some 0) (T (D.le 0 x0) (T (U (V x0) (N x3)) (T (U (V x0) (N x3)) (T (U (V x0) (N x3)) (T (D.le (O (N (E x3 (V x0) []))) (Z .i64 (M x1 r0))) (some 0) (cu.J1 k x0 (Z .i64 (M x1 r0)) x2 x3)) none) none) none) none):=(jn _ _).trans (by kernel_rfl)
theorem cu.fJ(k:Nat)(x0 x1 x2 x3):cu.J1 k x0 x1 x2 x3=T (D.le 0 x0) (T (U (V x0) (N x3)) (T (U (V x0) (N x3)) (T (U (V x0) (N x3)) (T (D.le 0 x1) (T (U (V x1) (N (E x3 (V x0) []))) (T (U (V x0) (N x3)) (T (U (V x1) (N (E x3 (V x0) []))) (some (E (E x3 (V x0) []) (V x1) 0)) none) none) none) none) none) none) none) none:=(jn _ _).trans (by kernel_rfl)
def Gn:Code:=cB (cB (cB (cJ P 95)))
def FP:Code:=cC (cC (cB (cA Gn)))
def GQ(k:Nat):cY (den (resTy P 95)):=bH 0 (JK k 95 (cB Gn) (R0 95))
def GR:Code:=cB FP
def FC:Code:=cC (cC (cB (cC (cA GR))))
def GJ(k k1:Nat):cY (den (resTy P 95)):=bH 2 (bH 1 (JK k 95 (cB GR) (LK k 95 FP k1 (GQ k))))
def GI:Code:=cB FC
def Gc:Code:=cB GI
def Gv(k k1 k2:Nat):cY (den (resTy P 95)):=LK k 95 FC k2 (GJ k k1)
def aD(k:Nat)(a0:(LI)×(LJ)):Option Bool:=call k 95 a0
def aD.L0(k j:Nat)(x0:Int)(x1:LI)(x2:LJ)(x3 x4:LI):Option Bool:=LL k 95 FP j (GQ k) [frm 64 [(1,.pv 0 0),(3,.pv 1 0),(5,In x0)]] [.var [Sl 2,Sl 3],.var [Sl 4,Sl 5],Ro x1,Roo x2,Rw x3,Rw x4]
def aD.L1(k k1 j:Nat)(x0 x1:Int)(x2:LI)(x3:LJ)(x4 x5:LI):Option Bool:=LL k 95 FC j (GJ k k1) [frm 64 [(1,.pv 0 0),(3,.pv 1 0),(5,In x0),(6,In x1)]] [.var [Sl 2,Sl 3],.var [Sl 4,Sl 5],Ro x2,Roo x3,Rw x4,Rw x5]
def aD.J2(k k1 k2:Nat)(x0 x1 x2 x3:Int)(x4:LI)(x5:LJ)(x6 x7:LI):Option Bool:=JJ k 95 (cB (cB (cB (cC (cA GI))))) (bH 3 (JK k 95 Gc (Gv k k1 k2))) [frm 64 [(1,.pv 0 0),(3,.pv 1 0),(5,In x0),(6,In x1),(7,In x2),(8,In x3)]] [.var [Sl 2,Sl 3],.var [Sl 4,Sl 5],Ro x4,Roo x5,Rw x6,Rw x7]
def aD.J3(k k1 k2:Nat)(x0 x1:Int)(x2:LI)(x3:LJ)(x4 x5:LI):Option Bool:=JJ k 95 Gc (Gv k k1 k2) [frm 64 [(1,.pv 0 0),(3,.pv 1 0),(5,In x0),(6,In x1)]] [.var [Sl 2,Sl 3],.var [Sl 4,Sl 5],Ro x2,Roo x3,Rw x4,Rw x5]
theorem aD.eq(k:Nat)(a0):aD (k+1) a0=B (bP k (a0.1,a0.2)) fun r0=>T (D.no r0.2) (some false) (aD.L0 k k 0 a0.1 a0.2 r0.1.1 r0.1.2):=by kernel_rfl
theorem aD.bm(k j:Nat)(x0 x1 x2 x3 x4):aD.L0 k (j+1) x0 x1 x2 x3 x4=T (D.lt x0 (O (N x3))) (B (dO k x4 x0) fun r1=>aD.L1 k j k x0 r1 x1 x2 x3 x4) (some true):=(jn _ _).trans (by kernel_rfl)
theorem aD.fN(k k1 j:Nat)(x0 x1 x2 x3 x4 x5):aD.L1 k k1 (j+1) x0 x1 x2 x3 x4 x5=T (D.le 0 x0) (T (U (V x0) (N x4)) (T (U (V x0) (N x4)) (T (D.lt x1 (E x4 (V x0) 0)) (B (cu k (x2,x3) x0 x1) fun r2=>T (D.lt 0 x1) (B (cu k (x2,x3) x0 (Z .i64 (M x1 1))) fun r3=>aD.J2 k k1 j x0 x1 r2 r3 x2 x3 x4 x5) (aD.J2 k k1 j x0 x1 r2 0 x2 x3 x4 x5)) (aD.L0 k k1 (Z .i64 (A x0 1)) x2 x3 x4 x5)) none) none) none:=(jn _ _).trans (by kernel_rfl)
theorem aD.jW(k k1 k2:Nat)(x0 x1 x2 x3 x4 x5 x6 x7):aD.J2 k k1 k2 x0 x1 x2 x3 x4 x5 x6 x7=B (fP k x2 1 9) fun r4=>T (D.no r4) (some false) (T (D.lt x2 x3) (some false) (B (cu k (x4,x5) (Z .i64 (M x0 1)) x1) fun r5=>T (D.le x2 r5) (some false) (aD.J3 k k1 k2 x0 x1 x4 x5 x6 x7))):=(jn _ _).trans (by kernel_rfl)
theorem aD.vL(k k1 k2:Nat)(x0 x1 x2 x3 x4 x5):aD.J3 k k1 k2 x0 x1 x2 x3 x4 x5=aD.L1 k k1 k2 x0 (Z .i64 (A x1 1)) x2 x3 x4 x5:=(jn _ _).trans (by kernel_rfl)
def Gq:Code:=cB (cB (cJ P 97))
def FJ:Code:=cC (cC (cB (cA Gq)))
def GH(k:Nat):cY (den (resTy P 97)):=bH 0 (JK k 97 (cB Gq) (R0 97))
def GG:Code:=cB FJ
def cH(k:Nat)(a0:List ByteArray)(a1:ByteArray):Option ByteArray:=call k 97 (a0,a1)
def cH.L0(k j:Nat)(x0:ByteArray)(x1:Int)(x2:List ByteArray)(x3:LI):Option ByteArray:=LL k 97 FJ j (GH k) [frm 27 [(0,Sl 0),(1,.str x0),(5,Sl 1),(6,In x1)]] [.row Bool.false .str x2,.row Bool.true (.int .u8) x3]
def cH.J1(k k1:Nat)(x0:ByteArray)(x1:Int)(x2:List ByteArray)(x3:LI):Option ByteArray:=JJ k 97 (cB (cC (cA GG))) (bH 1 (JK k 97 (cB GG) (LK k 97 FJ k1 (GH k)))) [frm 27 [(0,Sl 0),(1,.str x0),(5,Sl 1),(6,In x1)]] [.row Bool.false .str x2,.row Bool.true (.int .u8) x3]
theorem cH.eq(k:Nat)(a0 a1):cH (k+1) a0 a1=cH.L0 k k a1 0 a0 ([]:LI):=by kernel_rfl
theorem cH.bm(k j:Nat)(x0 x1 x2 x3):cH.L0 k (j+1) x0 x1 x2 x3=T (D.lt x1 (O (N x2))) (T (D.lt 0 x1) (T (D.leN (N (D.app x3 (D.ints x0))) 1099511627776) (cH.J1 k j x0 x1 x2 (D.app x3 (D.ints x0))) none) (cH.J1 k j x0 x1 x2 x3)) (some (D.ofInts x3)):=(jn _ _).trans (by kernel_rfl)
theorem cH.fJ(k k1:Nat)(x0 x1 x2 x3):cH.J1 k k1 x0 x1 x2 x3=T (D.le 0 x1) (T (U (V x1) (N x2)) (T (U (V x1) (N x2)) (T (D.leN (N (D.app x3 (D.ints (E x2 (V x1) (⟨#[]⟩:ByteArray))))) 1099511627776) (cH.L0 k k1 x0 (Z .i64 (A x1 1)) x2 (D.app x3 (D.ints (E x2 (V x1) (⟨#[]⟩:ByteArray))))) none) none) none) none:=(jn _ _).trans (by kernel_rfl)
def GO:Code:=cB (cB (cB (cB (cJ P 53))))
def Fv:Code:=cC (cC (cB (cA GO)))
def Gj(k:Nat):cY (den (resTy P 53)):=bH 0 (JK k 53 (cB GO) (R0 53))
def GP:Code:=cB Fv
def GM:Code:=cB (cC (cA GP))
def FQ:Code:=cB GM
def Gr(k k1:Nat):cY (den (resTy P 53)):=bH 1 (JK k 53 (cB GP) (LK k 53 Fv k1 (Gj k)))
def ar(k:Nat)(a0:(LI)×(LJ)):Option ByteArray:=call k 53 a0
def ar.L0(k j:Nat)(x0:Int)(x1:List ByteArray)(x2:LI)(x3:LJ):Option ByteArray:=LL k 53 Fv j (Gj k) [frm 60 [(1,.pv 0 0),(3,Sl 1),(4,In x0)]] [.var [Sl 2,Sl 3],.row Bool.true .str x1,Ro x2,Roo x3]
def ar.L1(k k1 j:Nat)(x0:Int)(x1:ByteArray)(x2:Int)(x3:List ByteArray)(x4:LI)(x5:LJ):Option ByteArray:=LL k 53 (cC (cC (cB (cA GM)))) j (bH 2 (JK k 53 FQ (Gr k k1))) [frm 60 [(1,.pv 0 0),(3,Sl 1),(4,In x0),(5,.str x1),(6,In x2)]] [.var [Sl 2,Sl 3],.row Bool.true .str x3,Ro x4,Roo x5]
def ar.L2(k k1 j:Nat)(x0:Int)(x1:ByteArray)(x2:Int)(x3:List ByteArray)(x4:LI)(x5:LJ):Option ByteArray:=LL k 53 (cC (cC (cB (cA FQ)))) j (bH 4 (JK k 53 (cB FQ) (Gr k k1))) [frm 60 [(1,.pv 0 0),(3,Sl 1),(4,In x0),(5,.str x1),(7,In x2)]] [.var [Sl 2,Sl 3],.row Bool.true .str x3,Ro x4,Roo x5]
theorem ar.eq(k:Nat)(a0):ar (k+1) a0=B (aD k (a0.1,a0.2)) fun r0=>T (D.no r0) (some (⟨#[]⟩:ByteArray)) (T (D.eq (O (N a0.2)) 0) (some (⟨#[45]⟩:ByteArray)) (ar.L0 k k 0 ([]:List ByteArray) a0.1 a0.2)):=by kernel_rfl
theorem ar.bm(k j:Nat)(x0 x1 x2 x3):ar.L0 k (j+1) x0 x1 x2 x3=T (D.lt x0 (O (N x3))) (ar.L1 k j k x0 (⟨#[]⟩:ByteArray) 0 x1 x2 x3) (B (cH k x1 (⟨#[47]⟩:ByteArray)) fun r1=>some r1):=(jn _ _).trans (by kernel_rfl)
theorem ar.fN(k k1 j:Nat)(x0 x1 x2 x3 x4 x5):ar.L1 k k1 (j+1) x0 x1 x2 x3 x4 x5=B (dO k x4 x0) fun r2=>T (D.lt x2 r2) (T (D.leN (D.addN (D.lenS x1) (D.lenS (⟨#[46]⟩:ByteArray))) 1099511627776) (ar.L1 k k1 j x0 (D.catS x1 (⟨#[46]⟩:ByteArray)) (Z .i64 (A x2 1)) x3 x4 x5) none) (ar.L2 k k1 k x0 x1 0 x3 x4 x5):=(jn _ _).trans (by kernel_rfl)
theorem ar.zG(k k1 j:Nat)(x0 x1 x2 x3 x4 x5):ar.L2 k k1 (j+1) x0 x1 x2 x3 x4 x5=T (D.le 0 x0) (T (U (V x0) (N x5)) (T (U (V x0) (N x5)) (T (U (V x0) (N x5)) (T (D.lt x2 (O (N (E x5 (V x0) [])))) (T (D.le 0 x0) (T (U (V x0) (N x5)) (T (U (V x0) (N x5)) (T (U (V x0) (N x5)) (T (D.le 0 x2) (T (U (V x2) (N (E x5 (V x0) []))) (T (U (V x0) (N x5)) (T (U (V x2) (N (E x5 (V x0) []))) (B (aR k (E (E x5 (V x0) []) (V x2) 0)) fun r3=>T (D.leN (D.addN (D.lenS x1) (D.lenS r3)) 1099511627776) (ar.L2 k k1 j x0 (D.catS x1 r3) (Z .i64 (A x2 1)) x3 x4 x5) none) none) none) none) none) none) none) none) none) (T (D.leN (N (D.app x3 (x1::([]:List ByteArray)))) 1099511627776) (ar.L0 k k1 (Z .i64 (A x0 1)) (D.app x3 (x1::([]:List ByteArray))) x4 x5) none)) none) none) none) none:=(jn _ _).trans (by kernel_rfl)
def fI(k:Nat)(a0:LI):Option (((LI)×(LJ))×Bool):=call k 100 a0
theorem fI.eq(k:Nat)(a0):fI (k+1) a0=B (aS k a0) fun r0=>T (D.no r0) (some ((([]:LI),([]:LJ)),false)) (B (bG k a0) fun r1=>some ((r1.1.1,r1.1.2),true)):=by kernel_rfl
def fe(k:Nat)(a0:LI):Option LI:=call k 55 a0
theorem fe.eq(k:Nat)(a0):fe (k+1) a0=B (fI k a0) fun r0=>T (D.no r0.2) (some ([]:LI)) (B (bP k (r0.1.1,r0.1.2)) fun r1=>T (D.leN (N (D.app ([]:LI) r1.1.1)) 1099511627776) (some (D.app ([]:LI) r1.1.1)) none):=by kernel_rfl
def GK:Code:=cB (cB (cJ P 99))
def cx(k:Nat)(a0:LI):Option ByteArray:=call k 99 a0
def cx.L0(k j:Nat)(x0:Int)(x1:LI)(x2:List ByteArray):Option ByteArray:=LL k 99 (cC (cC (cB (cA GK)))) j (bH 0 (JK k 99 (cB GK) (R0 99))) [frm 22 [(0,Sl 0),(3,Sl 1),(4,In x0)]] [Ro x1,.row Bool.true .str x2]
theorem cx.eq(k:Nat)(a0):cx (k+1) a0=cx.L0 k k 0 a0 ([]:List ByteArray):=by kernel_rfl
theorem cx.bm(k j:Nat)(x0 x1 x2):cx.L0 k (j+1) x0 x1 x2=T (D.lt x0 (O (N x1))) (T (D.le 0 x0) (T (U (V x0) (N x1)) (T (U (V x0) (N x1)) (B (aR k (E x1 (V x0) 0)) fun r0=>T (D.leN (N (D.app x2 (r0::([]:List ByteArray)))) 1099511627776) (cx.L0 k j (Z .i64 (A x0 1)) x1 (D.app x2 (r0::([]:List ByteArray)))) none) none) none) none) (B (cH k x2 (⟨#[44]⟩:ByteArray)) fun r1=>some r1):=(jn _ _).trans (by kernel_rfl)
def eB(k:Nat)(a0:LI):Option ByteArray:=call k 54 a0
theorem eB.eq(k:Nat)(a0):eB (k+1) a0=B (aL k a0) fun r0=>T (D.no r0) (some (⟨#[]⟩:ByteArray)) (T (D.eq (O (N a0)) 0) (some (⟨#[45]⟩:ByteArray)) (B (cx k a0) fun r1=>some r1)):=by kernel_rfl
def Gm:Code:=cB (cB (cB (cJ P 57)))
def F3:Code:=cC (cC (cB (cA Gm)))
def Gp(k:Nat):cY (den (resTy P 57)):=bH 0 (JK k 57 (cB Gm) (R0 57))
def F8:Code:=cB F3
def aC(k:Nat)(a0:LI):Option Int:=call k 57 a0
def aC.L0(k j:Nat)(x0 x1:Int)(x2:LI):Option Int:=LL k 57 F3 j (Gp k) [frm 33 [(0,Sl 0),(3,In x0),(4,In x1)]] [Ro x2]
def aC.L1(k k1 j:Nat)(x0 x1 x2:Int)(x3:LI):Option Int:=LL k 57 (cC (cC (cB (cC (cA F8))))) j (bH 2 (bH 1 (JK k 57 (cB F8) (LK k 57 F3 k1 (Gp k))))) [frm 33 [(0,Sl 0),(3,In x0),(4,In x1),(5,In x2)]] [Ro x3]
theorem aC.eq(k:Nat)(a0):aC (k+1) a0=B (aS k a0) fun r0=>T (D.no r0) (some (-1)) (aC.L0 k k 0 1 a0):=by kernel_rfl
theorem aC.bm(k j:Nat)(x0 x1 x2):aC.L0 k (j+1) x0 x1 x2=T (D.lt x1 (O (N x2))) (aC.L1 k j k x0 x1 0 x2) (some x0):=(jn _ _).trans (by kernel_rfl)
theorem aC.fN(k k1 j:Nat)(x0 x1 x2 x3):aC.L1 k k1 (j+1) x0 x1 x2 x3=T (D.lt x2 x1) (T (D.le 0 x2) (T (U (V x2) (N x3)) (T (U (V x2) (N x3)) (T (D.le 0 x1) (T (U (V x1) (N x3)) (T (U (V x1) (N x3)) (B (eA k (D.lt (E x3 (V x1) 0) (E x3 (V x2) 0))) fun r1=>aC.L1 k k1 j (Z .i64 (A x0 r1)) x1 (Z .i64 (A x2 1)) x3) none) none) none) none) none) none) (aC.L0 k k1 x0 (Z .i64 (A x1 1)) x3):=(jn _ _).trans (by kernel_rfl)
def F4:Code:=cB (cB (cB (cJ P 58)))
def bQ(k:Nat)(a0:LI):Option Int:=call k 58 a0
def bQ.L0(k j:Nat)(x0 x1:Int)(x2:LI):Option Int:=LL k 58 (cC (cC (cB (cA F4)))) j (bH 0 (JK k 58 (cB F4) (R0 58))) [frm 30 [(0,Sl 0),(3,In x0),(4,In x1)]] [Ro x2]
theorem bQ.eq(k:Nat)(a0):bQ (k+1) a0=B (aS k a0) fun r0=>T (D.no r0) (some (-1)) (bQ.L0 k k 0 1 a0):=by kernel_rfl
theorem bQ.bm(k j:Nat)(x0 x1 x2):bQ.L0 k (j+1) x0 x1 x2=T (D.lt x1 (O (N x2))) (T (D.le 0 (Z .i64 (M x1 1))) (T (U (V (Z .i64 (M x1 1))) (N x2)) (T (U (V (Z .i64 (M x1 1))) (N x2)) (T (D.le 0 x1) (T (U (V x1) (N x2)) (T (U (V x1) (N x2)) (B (eA k (D.lt (E x2 (V x1) 0) (E x2 (V (Z .i64 (M x1 1))) 0))) fun r1=>bQ.L0 k j (Z .i64 (A x0 (Z .i64 (D.mul x1 r1)))) (Z .i64 (A x1 1)) x2) none) none) none) none) none) none) (some x0):=(jn _ _).trans (by kernel_rfl)
def bC(k:Nat)(a0:LI):Option ByteArray:=call k 16 a0
def bC.J0(k:Nat)(x0:ByteArray)(x1 x2:LI)(x3:LJ)(x4:LI)(x5:LJ):Option ByteArray:=JJ k 16 (cB (cB (cB (cB (cB (cJ P 16)))))) (R0 16) [frm 52 [(0,Sl 0),(3,.pv 1 0),(4,.pv 2 0),(5,.str x0)]] [Ro x1,.var [Sl 3,Sl 4],.var [Sl 5,Sl 6],Rw x2,Rww x3,Rw x4,Rww x5]
theorem bC.eq(k:Nat)(a0):bC (k+1) a0=B (aS k a0) fun r0=>T (D.no r0) (some (⟨#[]⟩:ByteArray)) (B (bG k a0) fun r1=>B (aQ k a0) fun r2=>T r2 (bC.J0 k (⟨#[108,97,116,116,105,99,101]⟩:ByteArray) a0 r1.1.1 r1.1.2 r1.2.1 r1.2.2) (bC.J0 k (⟨#[111,116,104,101,114]⟩:ByteArray) a0 r1.1.1 r1.1.2 r1.2.1 r1.2.2)):=by kernel_rfl
theorem bC.lp(k:Nat)(x0 x1 x2 x3 x4 x5):bC.J0 k x0 x1 x2 x3 x4 x5=B (cb k x1) fun r3=>B (ar k (x2,x3)) fun r4=>T (D.leN (D.addN (D.lenS (⟨#[105,110,115,101,114,116,32]⟩:ByteArray)) (D.lenS r4)) 1099511627776) (T (D.leN (D.addN (D.lenS (D.catS (⟨#[105,110,115,101,114,116,32]⟩:ByteArray) r4)) (D.lenS (⟨#[32,114,101,99,111,114,100,32]⟩:ByteArray))) 1099511627776) (B (ar k (x4,x5)) fun r5=>T (D.leN (D.addN (D.lenS (D.catS (D.catS (⟨#[105,110,115,101,114,116,32]⟩:ByteArray) r4) (⟨#[32,114,101,99,111,114,100,32]⟩:ByteArray))) (D.lenS r5)) 1099511627776) (T (D.leN (D.addN (D.lenS (D.catS (D.catS (D.catS (⟨#[105,110,115,101,114,116,32]⟩:ByteArray) r4) (⟨#[32,114,101,99,111,114,100,32]⟩:ByteArray)) r5)) (D.lenS (⟨#[32,115,104,97,112,101,32]⟩:ByteArray))) 1099511627776) (B (fe k x1) fun r6=>B (eB k r6) fun r7=>T (D.leN (D.addN (D.lenS (D.catS (D.catS (D.catS (D.catS (⟨#[105,110,115,101,114,116,32]⟩:ByteArray) r4) (⟨#[32,114,101,99,111,114,100,32]⟩:ByteArray)) r5) (⟨#[32,115,104,97,112,101,32]⟩:ByteArray))) (D.lenS r7)) 1099511627776) (T (D.leN (D.addN (D.lenS (D.catS (D.catS (D.catS (D.catS (D.catS (⟨#[105,110,115,101,114,116,32]⟩:ByteArray) r4) (⟨#[32,114,101,99,111,114,100,32]⟩:ByteArray)) r5) (⟨#[32,115,104,97,112,101,32]⟩:ByteArray)) r7)) (D.lenS (⟨#[32,105,110,118,101,114,115,105,111,110,115,32]⟩:ByteArray))) 1099511627776) (B (aC k x1) fun r8=>B (aR k r8) fun r9=>T (D.leN (D.addN (D.lenS (D.catS (D.catS (D.catS (D.catS (D.catS (D.catS (⟨#[105,110,115,101,114,116,32]⟩:ByteArray) r4) (⟨#[32,114,101,99,111,114,100,32]⟩:ByteArray)) r5) (⟨#[32,115,104,97,112,101,32]⟩:ByteArray)) r7) (⟨#[32,105,110,118,101,114,115,105,111,110,115,32]⟩:ByteArray))) (D.lenS r9)) 1099511627776) (T (D.leN (D.addN (D.lenS (D.catS (D.catS (D.catS (D.catS (D.catS (D.catS (D.catS (⟨#[105,110,115,101,114,116,32]⟩:ByteArray) r4) (⟨#[32,114,101,99,111,114,100,32]⟩:ByteArray)) r5) (⟨#[32,115,104,97,112,101,32]⟩:ByteArray)) r7) (⟨#[32,105,110,118,101,114,115,105,111,110,115,32]⟩:ByteArray)) r9)) (D.lenS (⟨#[32,109,97,106,111,114,32]⟩:ByteArray))) 1099511627776) (B (bQ k x1) fun r10=>B (aR k r10) fun r11=>T (D.leN (D.addN (D.lenS (D.catS (D.catS (D.catS (D.catS (D.catS (D.catS (D.catS (D.catS (⟨#[105,110,115,101,114,116,32]⟩:ByteArray) r4) (⟨#[32,114,101,99,111,114,100,32]⟩:ByteArray)) r5) (⟨#[32,115,104,97,112,101,32]⟩:ByteArray)) r7) (⟨#[32,105,110,118,101,114,115,105,111,110,115,32]⟩:ByteArray)) r9) (⟨#[32,109,97,106,111,114,32]⟩:ByteArray))) (D.lenS r11)) 1099511627776) (T (D.leN (D.addN (D.lenS (D.catS (D.catS (D.catS (D.catS (D.catS (D.catS (D.catS (D.catS (D.catS (⟨#[105,110,115,101,114,116,32]⟩:ByteArray) r4) (⟨#[32,114,101,99,111,114,100,32]⟩:ByteArray)) r5) (⟨#[32,115,104,97,112,101,32]⟩:ByteArray)) r7) (⟨#[32,105,110,118,101,114,115,105,111,110,115,32]⟩:ByteArray)) r9) (⟨#[32,109,97,106,111,114,32]⟩:ByteArray)) r11)) (D.lenS (⟨#[32]⟩:ByteArray))) 1099511627776) (T (D.leN (D.addN (D.lenS (D.catS (D.catS (D.catS (D.catS (D.catS (D.catS (D.catS (D.catS (D.catS (D.catS (⟨#[105,110,115,101,114,116,32]⟩:ByteArray) r4) (⟨#[32,114,101,99,111,114,100,32]⟩:ByteArray)) r5) (⟨#[32,115,104,97,112,101,32]⟩:ByteArray)) r7) (⟨#[32,105,110,118,101,114,115,105,111,110,115,32]⟩:ByteArray)) r9) (⟨#[32,109,97,106,111,114,32]⟩:ByteArray)) r11) (⟨#[32]⟩:ByteArray))) (D.lenS x0)) 1099511627776) (T (D.leN (D.addN (D.lenS (D.catS (D.catS (D.catS (D.catS (D.catS (D.catS (D.catS (D.catS (D.catS (D.catS (D.catS (⟨#[105,110,115,101,114,116,32]⟩:ByteArray) r4) (⟨#[32,114,101,99,111,114,100,32]⟩:ByteArray)) r5) (⟨#[32,115,104,97,112,101,32]⟩:ByteArray)) r7) (⟨#[32,105,110,118,101,114,115,105,111,110,115,32]⟩:ByteArray)) r9) (⟨#[32,109,97,106,111,114,32]⟩:ByteArray)) r11) (⟨#[32]⟩:ByteArray)) x0)) (D.lenS (⟨#[32,104,105,103,104,101,115,116,32]⟩:ByteArray))) 1099511627776) (B (cn k r3.1) fun r12=>T (D.leN (D.addN (D.lenS (D.catS (D.catS (D.catS (D.catS (D.catS (D.catS (D.catS (D.catS (D.catS (D.catS (D.catS (D.catS (⟨#[105,110,115,101,114,116,32]⟩:ByteArray) r4) (⟨#[32,114,101,99,111,114,100,32]⟩:ByteArray)) r5) (⟨#[32,115,104,97,112,101,32]⟩:ByteArray)) r7) (⟨#[32,105,110,118,101,114,115,105,111,110,115,32]⟩:ByteArray)) r9) (⟨#[32,109,97,106,111,114,32]⟩:ByteArray)) r11) (⟨#[32]⟩:ByteArray)) x0) (⟨#[32,104,105,103,104,101,115,116,32]⟩:ByteArray))) (D.lenS r12)) 1099511627776) (some (D.catS (D.catS (D.catS (D.catS (D.catS (D.catS (D.catS (D.catS (D.catS (D.catS (D.catS (D.catS (D.catS (⟨#[105,110,115,101,114,116,32]⟩:ByteArray) r4) (⟨#[32,114,101,99,111,114,100,32]⟩:ByteArray)) r5) (⟨#[32,115,104,97,112,101,32]⟩:ByteArray)) r7) (⟨#[32,105,110,118,101,114,115,105,111,110,115,32]⟩:ByteArray)) r9) (⟨#[32,109,97,106,111,114,32]⟩:ByteArray)) r11) (⟨#[32]⟩:ByteArray)) x0) (⟨#[32,104,105,103,104,101,115,116,32]⟩:ByteArray)) r12)) none) none) none) none) none) none) none) none) none) none) none) none) none:=(jn _ _).trans (by kernel_rfl)
def dK(k:Nat)(a0:Int):Option ByteArray:=call k 7 a0
theorem dK.eq(k:Nat)(a0):dK (k+1) a0=B (dR k a0) fun r0=>B (aH k r0) fun r1=>T (D.no r1.2) (some (⟨#[]⟩:ByteArray)) (B (bC k r1.1) fun r2=>some r2):=by kernel_rfl
def dL(k:Nat)(a0:LI):Option Bool:=call k 4 a0
theorem dL.eq(k:Nat)(a0):dL (k+1) a0=B (lQ k a0) fun r0=>T r0 (some true) (B (an k a0) fun r1=>B (aw k a0) fun r2=>B (dI k r1) fun r3=>B (cr k r1) fun r4=>B (aH k r4) fun r5=>B (dK k r1) fun r6=>T (D.eqS r3 r6) (B (cr k r1) fun r7=>B (dR k r1) fun r8=>T (D.eqS r7 r8) (B (bj k r2) fun r9=>B (bC k r2) fun r10=>T (D.eqS r9 r10) (B (cr k r1) fun r11=>T (D.eqB r5.2 (D.no (D.eqS r11 (⟨#[]⟩:ByteArray)))) (B (cr k r1) fun r12=>T (D.eqB (D.eqS r3 (⟨#[]⟩:ByteArray)) (D.eqS r12 (⟨#[]⟩:ByteArray))) (T (D.no r5.2) (some true) (B (bj k r5.1) fun r13=>some (D.eqS r3 r13))) (some false)) (some false)) (some false)) (some false)) (some false)):=by kernel_rfl
end Go.Am.Seat
