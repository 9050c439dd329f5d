/- The machine's equations for the functions that the law reaches, each checked by the kernel; no conditions. -/
import Derived.Test.YtlfpegcoaebmkaaCfgFnMatrices
import Derived.Test.YtlfpegcoaebmkaaProg
set_option linter.unusedSimpArgs false
set_option linter.unusedVariables false
set_option linter.unnecessarySimpa false
set_option linter.unusedSectionVars false
noncomputable section
namespace Go.Am.Seat
open Go Go.Am Go.Proofs
set_option linter.unusedVariables false
set_option linter.unusedSectionVars false
set_option maxRecDepth 100000
variable [D] [DJ]
abbrev LI:=List Int
abbrev LJ:=List (List Int)
abbrev P:Program:=Go.Proofs.Try.prog
def ext:Ext P:=fun _=>none
def X{R:Type}(k f:Nat)(c:Code):St→cE R→Option R:=exec P cfg (lS P cfg ext k) k f c
abbrev call(k f:Nat)(x:den (gH P f)):Option (den (resTy P f)):=zj P cfg ext k f x
def R0(f:Nat):cE (den (resTy P f)):=mK (finish P f (qF P f))
def JK{T:Type}(k f:Nat)(c:Code)(K:cE T):cE T:=rG (fun a b=>iI (Cfg.joins cfg f (key c)) (fun s=>X k f c s b) a) K
def LK{T:Type}(k f:Nat)(c:Code)(j:Nat)(K:cE T):cE T:=rG (fun a b=>iI (Cfg.loops cfg f (key c)) (fun s=>jR (fun x y=>X k f c x y) (Cfg.loops cfg f (key c)) j s b) a) K
def trN:Nat→List (Nat×Touch)
 |0=> []
 |n+1=>(n,gM)::trN n
def LL{T:Type}(k f:Nat)(c:Code)(j:Nat)(K:cE T)(fr:List (List AV))(rs:List aw):Option T:=D.jn (fun a=>jR (fun x y=>X k f c x y) (Cfg.loops cfg f (key c)) j a K) (St.mk fr rs)
def JJ{T:Type}(k f:Nat)(c:Code)(K:cE T)(fr:List (List AV))(rs:List aw):Option T:=D.jn (fun a=>X k f c a K) (St.mk fr rs)
abbrev IO_(k f nV nD n:Nat)(rs0:List aw)(fr:List (List AV))(rs:List aw):Option (den (resTy P f)×den (tT nV nD n rs0)):=lr (lS P cfg ext k) f nV nD n rs0 (St.mk fr rs)
def Sl(n:Nat):AV:= .sl n [] none
def In(n:Int):AV:= .int .i64 n
def Rw(x:LI):aw:= .row Bool.true (.int .i64) x
def Rww(x:LJ):aw:= .row Bool.true (.sl (.int .i64)) x
def Ro(x:LI):aw:= .row Bool.false (.int .i64) x
def Roo(x:LJ):aw:= .row Bool.false (.sl (.int .i64)) x
open Go.Am.D renaming test → T, bnd → B, len → N, nat → V, ltN → U, rd → E, ofN → O, wrap → Z, add → A, sub → M
open Go.Am.DJ renaming jn_eq → jn
open Go.Am.Code (cA cB cC cT)
def mA(k:Nat)(a0:LI):Option Bool:=call k 14 a0
theorem mA.eq(k:Nat)(a0):mA (k+1) a0=some (D.lt 1048576 (O (N a0))):=by kernel_rfl
def du(k:Nat)(x0 x1:Int)(x2:LI):Option (Int×(PUnit×(Int×Int))):=IO_ k 175 1 0 1 [.var [Sl 1,In 0,In 0],.row Bool.false (.int .u8) []] [[.pv 0 0],[.pv 0 0,Sl 1]] [.var [Sl 1,In x0,In x1],.row Bool.false (.int .u8) x2]
theorem du.eq(k:Nat)(x0 x1 x2):du (k+1) x0 x1 x2=T (D.le 0 33) (T (D.le 0 45) (T (D.lt x0 (O (N x2))) (T (D.le 0 x0) (T (U (V x0) (N x2)) (T (U (V x0) (N x2)) (some ((D.andI .i64 (Z .i64 (A (D.andI .i64 (D.xorI .i64 (D.shrI .i64 (Z .i64 (A (Z .i64 (D.mul x1 6364136223846793005)) 1442695040888963407)) 33) (D.shrI .i64 (Z .i64 (A (Z .i64 (D.mul x1 6364136223846793005)) 1442695040888963407)) 45)) 255) (Z .i64 (E x2 (V x0) 0)))) 255),((),((Z .i64 (A x0 1)),(Z .i64 (A (Z .i64 (D.mul x1 6364136223846793005)) 1442695040888963407)))))) none) none) none) (some ((D.andI .i64 (D.xorI .i64 (D.shrI .i64 (Z .i64 (A (Z .i64 (D.mul x1 6364136223846793005)) 1442695040888963407)) 33) (D.shrI .i64 (Z .i64 (A (Z .i64 (D.mul x1 6364136223846793005)) 1442695040888963407)) 45)) 255),((),(x0,(Z .i64 (A (Z .i64 (D.mul x1 6364136223846793005)) 1442695040888963407))))))) none) none:=by kernel_rfl
def bz(k:Nat)(x0 x1 x2:Int)(x3:LI):Option (Int×(PUnit×(Int×Int))):=IO_ k 139 1 0 1 [.var [Sl 1,In 0,In 0],.row Bool.false (.int .u8) []] [[.pv 0 0,In x0],[.pv 0 0,Sl 1]] [.var [Sl 1,In x1,In x2],.row Bool.false (.int .u8) x3]
theorem bz.eq(k:Nat)(x0 x1 x2 x3):bz (k+1) x0 x1 x2 x3=T (D.le x0 0) (some ((0:Int),((),(x1,x2)))) (T (D.le x0 256) (B (du k x1 x2 x3) fun r0=>T (D.no (D.eq x0 0)) (some ((D.rem r0.1 x0),((),(r0.2.2.1,r0.2.2.2)))) none) (B (du k x1 x2 x3) fun r1=>B (du k r1.2.2.1 r1.2.2.2 x3) fun r2=>B (du k r2.2.2.1 r2.2.2.2 x3) fun r3=>B (du k r3.2.2.1 r3.2.2.2 x3) fun r4=>T (D.no (D.eq x0 0)) (some ((D.rem (Z .i64 (A (Z .i64 (A (Z .i64 (A (Z .i64 (D.mul r1.1 16777216)) (Z .i64 (D.mul r2.1 65536)))) (Z .i64 (D.mul r3.1 256)))) r4.1)) x0),((),(r4.2.2.1,r4.2.2.2)))) none)):=by kernel_rfl
def cf(k:Nat)(x0 x1:Int)(x2 x3:LI):Option (Int×(PUnit×(Int×Int))):=IO_ k 108 1 0 1 [.var [Sl 2,In 0,In 0],Ro [],.row Bool.false (.int .u8) []] [[.pv 0 0,Sl 1],[.pv 0 0,Sl 1,Sl 2]] [.var [Sl 2,In x0,In x1],Ro x2,.row Bool.false (.int .u8) x3]
theorem cf.eq(k:Nat)(x0 x1 x2 x3):cf (k+1) x0 x1 x2 x3=B (bz k (O (N x2)) x0 x1 x3) fun r0=>T (D.le 0 r0.1) (T (U (V r0.1) (N x2)) (T (U (V r0.1) (N x2)) (some ((E x2 (V r0.1) 0),((),(r0.2.2.1,r0.2.2.2)))) none) none) none:=by kernel_rfl
def gn(k:Nat)(a0 a1:Int):Option Int:=call k 151 (a0,a1)
theorem gn.eq(k:Nat)(a0 a1):gn (k+1) a0 a1=T (D.lt a0 a1) (some a0) (some a1):=by kernel_rfl
def c1:Code:=cB (cB (cB (cB (cB (b9 P 103)))))
def c2:Code:=cC (cC (cB (cA c1)))
def K3(k:Nat):cE ((LJ)×(PUnit×(Int×Int))):=a8 0 (JK k 103 (cB c1) (mK (fC P (qF P 103) (fun z8 z9=>oN P 103 1 0 1 [.var [Sl 1,In 0,In 0],.row Bool.false (.int .u8) []] z8 z9))))
def c4:Code:=cB c2
def c5:Code:=cB (cC (cA c4))
def aN(k:Nat)(x0 x1:Int)(x2:LI):Option ((LJ)×(PUnit×(Int×Int))):=IO_ k 103 1 0 1 [.var [Sl 1,In 0,In 0],.row Bool.false (.int .u8) []] [[.pv 0 0],[.pv 0 0,Sl 1]] [.var [Sl 1,In x0,In x1],.row Bool.false (.int .u8) x2]
def aN.L0(k j:Nat)(x0 x1 x2 x3 x4 x5:Int)(x6:LJ)(x7:LI):Option ((LJ)×(PUnit×(Int×Int))):=LL k 103 c2 j (K3 k) [frm 66 [(0,.pv 0 0),(3,Sl 1),(4,In x0),(5,In x1),(6,In x2),(7,In x3)],[.pv 0 0,Sl 2]] [.var [Sl 2,In x4,In x5],Rww x6,.row Bool.false (.int .u8) x7]
def aN.L1(k k1 j:Nat)(x0 x1 x2 x3 x4 x5 x6:Int)(x7:LJ)(x8 x9:LI):Option ((LJ)×(PUnit×(Int×Int))):=LL k 103 (cC (cC (cB (cA c5)))) j (a8 2 (JK k 103 (cB c5) (a8 1 (JK k 103 (cB c4) (LK k 103 c2 k1 (K3 k)))))) [frm 66 [(0,.pv 0 0),(3,Sl 1),(4,In x0),(5,In x1),(6,In x2),(7,In x3),(8,Sl 2),(9,In x4)],[.pv 0 0,Sl 3]] [.var [Sl 3,In x5,In x6],Rww x7,Rw x8,.row Bool.false (.int .u8) x9]
theorem aN.eq(k:Nat)(x0 x1 x2):aN (k+1) x0 x1 x2=B (bz k 4 x0 x1 x2) fun r0=>B (bz k 4 r0.2.2.1 r0.2.2.2 x2) fun r1=>aN.L0 k k (Z .i64 (A 1 r0.1)) (Z .i64 (A 1 r1.1)) 8 0 r1.2.2.1 r1.2.2.2 ([]:LJ) x2:=by kernel_rfl
theorem aN.bp(k j:Nat)(x0 x1 x2 x3 x4 x5 x6 x7):aN.L0 k (j+1) x0 x1 x2 x3 x4 x5 x6 x7=T (D.lt x3 x0) (aN.L1 k j k x0 x1 x2 x3 0 x4 x5 x6 ([]:LI) x7) (B (bz k 14 x4 x5 x7) fun r2=>T (D.eq r2.1 0) (T (D.le 0 0) (T (U (V 0) (N x6)) (T (U (V 0) (N x6)) (B (cf k r2.2.2.1 r2.2.2.2 ((-1)::(10::(9::([]:LI)))) x7) fun r3=>T (U (V 0) (N x6)) (T (D.le 0 0) (T (U (V 0) (N (E x6 (V 0) []))) (T (U (V 0) (N x6)) (T (U (V 0) (N (E x6 (V 0) []))) (some ((D.set x6 (V 0) (D.set (E x6 (V 0) []) (V 0) r3.1)),((),(r3.2.2.1,r3.2.2.2)))) none) none) none) none) none) none) none) none) (T (D.eq r2.1 1) (T (D.leN (N (D.app x6 ((1::([]:LI))::([]:LJ)))) 1099511627776) (some ((D.app x6 ((1::([]:LI))::([]:LJ))),((),(r2.2.2.1,r2.2.2.2)))) none) (T (D.eq r2.1 2) (some (([]:LJ),((),(r2.2.2.1,r2.2.2.2)))) (some (x6,((),(r2.2.2.1,r2.2.2.2))))))):=(jn _ _).trans (by kernel_rfl)
theorem aN.cO(k k1 j:Nat)(x0 x1 x2 x3 x4 x5 x6 x7 x8 x9):aN.L1 k k1 (j+1) x0 x1 x2 x3 x4 x5 x6 x7 x8 x9=T (D.lt x4 x1) (B (cf k x5 x6 (0::(0::(1::(2::(1::(0::([]:LI))))))) x9) fun r4=>B (gn k x2 r4.1) fun r5=>T (D.leN (N (D.app x8 (r5::([]:LI)))) 1099511627776) (aN.L1 k k1 j x0 x1 (Z .i64 (M x2 r5)) x3 (Z .i64 (A x4 1)) r4.2.2.1 r4.2.2.2 x7 (D.app x8 (r5::([]:LI))) x9) none) (T (D.leN (N (D.app x7 (x8::([]:LJ)))) 1099511627776) (aN.L0 k k1 x0 x1 x2 (Z .i64 (A x3 1)) x5 x6 (D.app x7 (x8::([]:LJ))) x9) none):=(jn _ _).trans (by kernel_rfl)
def c6:Code:=cB (cB (b9 P 92))
def c7:Code:=cC (cC (cB (cA c6)))
def c8:Code:=cB c6
def c9:Code:=cB (b9 P 30)
def c10:Code:=cA c9
def K11(k:Nat):cE (den (resTy P 30)):=mK (fC P (qF P 92) (fun z6 z7=>St.force (St.put z7 (Go.Oper.dst (u3 (Code.ops c10) 1)) (oP z6)) ((fun z8 z9=>gX (Code.ops c10) 1 (u3 (Code.ops c10) 1) z9 ((fun z10 z11=>eM P cfg (lS P cfg ext (k+1)) Option.none (Code.ops c10) [2,3] (trN 2) z11 (fun z12 z13=>JK (k+1) 30 (cB c9) (R0 30) .normal z13)) z8)) (Touch.mk [] [] [] Bool.true))))
def K12(k:Nat):cE (den (resTy P 30)):=a8 0 (JK k 92 c8 (K11 k))
def aJ(k:Nat)(a0:LI):Option LJ:=call k 30 a0
def aJ.L0(k j:Nat)(x0 x1:Int)(x2:LI)(x3:LJ):Option LJ:=LL k 92 c7 j (K12 k) [frm 32 [(0,Sl 0),(3,In x0),(4,In x1)],frm 6 [(0,Sl 0),(1,.tup []),(2,Sl 1),(3,Sl 0),(4,.tup []),(5,.tup [])]] [.row Bool.false (.int .u8) x2,Rww x3]
def aJ.J1(k k1:Nat)(x0 x1:Int)(x2:LI)(x3:LJ):Option LJ:=JJ k 92 (cB c7) (LK k 92 c7 k1 (K12 k)) [frm 32 [(0,Sl 0),(3,In x0),(4,In x1)],frm 6 [(0,Sl 0),(1,.tup []),(2,Sl 1),(3,Sl 0),(4,.tup []),(5,.tup [])]] [.row Bool.false (.int .u8) x2,Rww x3]
def aJ.J2(k:Nat)(x0:Int)(x1:LI)(x2:LJ):Option LJ:=JJ k 92 c8 (K11 k) [frm 32 [(0,Sl 0),(3,In x0)],frm 6 [(0,Sl 0),(1,.tup []),(2,Sl 1),(3,Sl 0),(4,.tup []),(5,.tup [])]] [.row Bool.false (.int .u8) x1,Rww x2]
theorem aJ.eq(k:Nat)(a0):aJ (k+2) a0=aJ.L0 k k (Z .i64 (A 26583 (O (N a0)))) 0 a0 ([]:LJ):=by kernel_rfl
theorem aJ.bp(k j:Nat)(x0 x1 x2 x3):aJ.L0 k (j+1) x0 x1 x2 x3=T (D.lt x1 (O (N x2))) (T (D.lt x1 4000) (aJ.J1 k j x0 x1 x2 x3) (aJ.J2 k x0 x2 x3)) (aJ.J2 k x0 x2 x3):=(jn _ _).trans (by kernel_rfl)
theorem aJ.fb(k k1:Nat)(x0 x1 x2 x3):aJ.J1 k k1 x0 x1 x2 x3=T (D.le 0 x1) (T (U (V x1) (N x2)) (T (U (V x1) (N x2)) (aJ.L0 k k1 (D.andI .i64 (Z .i64 (A (Z .i64 (A (Z .i64 (D.mul x0 131)) (Z .i64 (E x2 (V x1) 0)))) 7)) 1073741823) (Z .i64 (A x1 1)) x2 x3) none) none) none:=(jn _ _).trans (by kernel_rfl)
theorem aJ.kx(k:Nat)(x0 x1 x2):aJ.J2 k x0 x1 x2=B (aN (k+1) 0 x0 x1) fun r0=>some r0.1:=(jn _ _).trans (by kernel_rfl)
def cW(k:Nat)(a0 a1 a2:Int):Option Bool:=call k 97 (a0,a1,a2)
theorem cW.eq(k:Nat)(a0 a1 a2):cW (k+1) a0 a1 a2=T (D.le a1 a0) (some (D.le a0 a2)) (some false):=by kernel_rfl
def eT(k:Nat)(x0:Int):Option (Bool×PUnit):=IO_ k 120 0 0 0 [] [[In x0],[]] []
theorem eT.eq(k:Nat)(x0):eT (k+1) x0=B (cW k x0 0 9) fun r0=>some ((D.no r0),()):=by kernel_rfl
def c13:Code:=cB (b9 P 163)
def ay(k:Nat)(x0:LI):Option (Int×PUnit):=IO_ k 163 0 0 0 [Ro []] [[Sl 0,.fn 120 [] []],[Sl 0]] [Ro x0]
def ay.L0(k j:Nat)(x0 x1:Int)(x2:LI):Option (Int×PUnit):=LL k 163 (cC (cC (cB (cA c13)))) j (a8 0 (JK k 163 (cB c13) (mK (fC P (qF P 163) (fun z6 z7=>oN P 163 0 0 0 [Ro []] z6 z7))))) [frm 19 [(0,Sl 0),(1,.fn 120 [] []),(7,In x0),(8,In x1)],[Sl 0]] [Ro x2]
theorem ay.eq(k:Nat)(x0):ay (k+1) x0=ay.L0 k k (O (N x0)) 0 x0:=by kernel_rfl
theorem ay.bp(k j:Nat)(x0 x1 x2):ay.L0 k (j+1) x0 x1 x2=T (D.lt x1 x0) (T (D.le 0 x1) (T (U (V x1) (N x2)) (T (U (V x1) (N x2)) (B (eT k (E x2 (V x1) 0)) fun r0=>T r0.1 (some (x1,())) (ay.L0 k j x0 (Z .i64 (A x1 1)) x2)) none) none) none) (some ((-1:Int),())):=(jn _ _).trans (by kernel_rfl)
def bB(k:Nat)(x0:LI):Option (Bool×PUnit):=IO_ k 119 0 0 0 [Ro []] [[Sl 0,.fn 120 [] []],[Sl 0]] [Ro x0]
theorem bB.eq(k:Nat)(x0):bB (k+1) x0=B (ay k x0) fun r0=>some ((D.le 0 r0.1),()):=by kernel_rfl
def c14:Code:=cB (cB (b9 P 95))
def fc(k:Nat)(a0:LI):Option Int:=call k 95 a0
def fc.L0(k j:Nat)(x0 x1 x2:Int)(x3:LI):Option Int:=LL k 95 (cC (cC (cB (cA c14)))) j (a8 0 (JK k 95 (cB c14) (R0 95))) [frm 17 [(3,In x0),(6,Sl 0),(7,In x1),(8,In x2)]] [Ro x3]
theorem fc.eq(k:Nat)(a0):fc (k+1) a0=fc.L0 k k 0 (O (N a0)) 0 a0:=by kernel_rfl
theorem fc.bp(k j:Nat)(x0 x1 x2 x3):fc.L0 k (j+1) x0 x1 x2 x3=T (D.lt x2 x1) (T (D.le 0 x2) (T (U (V x2) (N x3)) (T (U (V x2) (N x3)) (fc.L0 k j (Z .i64 (A x0 (E x3 (V x2) 0))) x1 (Z .i64 (A x2 1)) x3) none) none) none) (some x0):=(jn _ _).trans (by kernel_rfl)
def c15:Code:=cB (cB (cB (b9 P 40)))
def c16:Code:=cC (cC (cB (cA c15)))
def K17(k:Nat):cE (den (resTy P 40)):=a8 0 (JK k 40 (cB c15) (R0 40))
def c18:Code:=cB (cB c16)
def bw(k:Nat)(a0:LJ):Option Bool:=call k 40 a0
def bw.L0(k j:Nat)(x0 x1 x2:Int)(x3:LJ):Option Bool:=LL k 40 c16 j (K17 k) [frm 38 [(0,Sl 0),(3,In x0),(9,Sl 0),(10,In x1),(11,In x2)]] [Roo x3]
def bw.J1(k k1:Nat)(x0:Int)(x1:Nat)(x2 x3:Int)(x4:LJ):Option Bool:=JJ k 40 (cB (cB (cC (cA c18)))) (a8 1 (JK k 40 (cB c18) (LK k 40 c16 k1 (K17 k)))) [frm 38 [(0,Sl 0),(3,In x0),(5,.sl 0 [(x1,0)] Option.none),(9,Sl 0),(10,In x2),(11,In x3)]] [Roo x4]
theorem bw.eq(k:Nat)(a0):bw (k+1) a0=T (D.lt 9 (O (N a0))) (some false) (bw.L0 k k 0 (O (N a0)) 0 a0):=by kernel_rfl
theorem bw.bp(k j:Nat)(x0 x1 x2 x3):bw.L0 k (j+1) x0 x1 x2 x3=T (D.lt x2 x1) (T (D.le 0 x2) (T (U (V x2) (N x3)) (T (U (V x2) (N x3)) (T (U (V x2) (N x3)) (T (D.le 0 0) (T (U (V 0) (N x3)) (T (U (V 0) (N x3)) (T (U (V 0) (N x3)) (T (D.no (D.eq (O (N (E x3 (V x2) []))) (O (N (E x3 (V 0) []))))) (some false) (T (U (V x2) (N x3)) (T (D.lt 9 (O (N (E x3 (V x2) [])))) (some false) (T (U (V x2) (N x3)) (B (bB k (E x3 (V x2) [])) fun r0=>T r0.1 (some false) (bw.J1 k j x0 (V x2) x1 x2 x3)) none)) none)) none) none) none) none) none) none) none) none) (some (D.le x0 9)):=(jn _ _).trans (by kernel_rfl)
theorem bw.fb(k k1:Nat)(x0 x1 x2 x3 x4):bw.J1 k k1 x0 x1 x2 x3 x4=T (U x1 (N x4)) (B (fc k (E x4 x1 [])) fun r1=>bw.L0 k k1 (Z .i64 (A x0 r1)) x2 (Z .i64 (A x3 1)) x4) none:=(jn _ _).trans (by kernel_rfl)
def fI(k:Nat)(a0 a1:Int):Option (Int×Int):=call k 174 (a0,a1)
theorem fI.eq(k:Nat)(a0 a1):fI (k+1) a0 a1=T (D.le 0 32) (T (D.le 0 32) (T (D.le 0 32) (T (D.le 0 32) (T (D.le 0 32) (some ((Z .u64 (A (Z .u64 (A (Z .u64 (D.mul (D.shrI .u64 a0 32) (D.shrI .u64 a1 32))) (D.shrI .u64 (Z .u64 (A (Z .u64 (D.mul (D.shrI .u64 a0 32) (D.andI .u64 a1 4294967295))) (D.shrI .u64 (Z .u64 (D.mul (D.andI .u64 a0 4294967295) (D.andI .u64 a1 4294967295))) 32))) 32))) (D.shrI .u64 (Z .u64 (A (D.andI .u64 (Z .u64 (A (Z .u64 (D.mul (D.shrI .u64 a0 32) (D.andI .u64 a1 4294967295))) (D.shrI .u64 (Z .u64 (D.mul (D.andI .u64 a0 4294967295) (D.andI .u64 a1 4294967295))) 32))) 4294967295) (Z .u64 (D.mul (D.andI .u64 a0 4294967295) (D.shrI .u64 a1 32))))) 32))),(Z .u64 (D.mul a0 a1)))) none) none) none) none) none:=by kernel_rfl
def fY(k:Nat)(a0 a1:Int):Option (Int×Int):=call k 138 (a0,a1)
theorem fY.eq(k:Nat)(a0 a1):fY (k+1) a0 a1=B (fI k a0 a1) fun r0=>some (r0.1,r0.2):=by kernel_rfl
def c19:Code:=cB (cB (b9 P 183))
def c20:Code:=cB (cB c19)
def c21:Code:=cB (cB c20)
def ar(k:Nat)(a0:List (Int×Int))(a1:Int):Option (List (Int×Int)):=call k 183 (a0,a1)
def ar.J0(k:Nat)(x0:Int)(x1:List (Int×Int)):Option (List (Int×Int)):=JJ k 183 c19 (R0 183) [frm 48 [(0,Sl 0),(1,In x0)]] [.row Bool.false (.pair (.int .i64) (.int .i64)) x1]
def ar.J1(k:Nat)(x0:Int)(x1:List (Int×Int)):Option (List (Int×Int)):=JJ k 183 c20 (R0 183) [frm 48 [(0,Sl 0),(6,.int .u64 x0)]] [.row Bool.false (.pair (.int .i64) (.int .i64)) x1]
def ar.L2(k j:Nat)(x0:Int)(x1:List (Int×Int)):Option (List (Int×Int)):=LL k 183 (cC (cC (cA c21))) j (a8 0 (JK k 183 (cB c21) (R0 183))) [frm 48 [(7,Sl 0),(8,In x0)]] [.row Bool.true (.pair (.int .i64) (.int .i64)) x1]
theorem ar.eq(k:Nat)(a0 a1):ar (k+1) a0 a1=T (D.lt a1 0) none (ar.J0 k a1 a0):=by kernel_rfl
theorem ar.fT(k:Nat)(x0 x1):ar.J0 k x0 x1=B (fY k (Z .u64 (O (N x1))) (Z .u64 x0)) fun r0=>T (D.lt 0 r0.1) none (T (D.lt 9223372036854775807 r0.2) none (ar.J1 k r0.2 x1)):=(jn _ _).trans (by kernel_rfl)
theorem ar.fb(k:Nat)(x0 x1):ar.J1 k x0 x1=T (D.le 0 (Z .i64 x0)) (T (D.le (Z .i64 x0) (Z .i64 x0)) (T (D.leN (V (Z .i64 x0)) 1099511627776) (ar.L2 k k (O (N (D.take (N (D.rep (V (Z .i64 x0)) ((0,0):Int×Int))) x1))) (D.app (D.take 0 (D.rep (V (Z .i64 x0)) ((0,0):Int×Int))) (D.app (D.take (N (D.rep (V (Z .i64 x0)) ((0,0):Int×Int))) x1) (D.drop (N (D.take (N (D.rep (V (Z .i64 x0)) ((0,0):Int×Int))) x1)) (D.rep (V (Z .i64 x0)) ((0,0):Int×Int)))))) none) none) none:=(jn _ _).trans (by kernel_rfl)
theorem ar.gB(k j:Nat)(x0 x1):ar.L2 k (j+1) x0 x1=T (D.lt x0 (O (N x1))) (T (D.le 0 x0) (T (D.leN (V x0) (N x1)) (T (D.le 0 x0) (T (D.leN (V x0) (N x1)) (ar.L2 k j (Z .i64 (A x0 (O (N (D.take (D.subN (N x1) (V x0)) (D.take (D.subN (V x0) 0) (D.drop 0 x1))))))) (D.app (D.take (D.addN (V x0) 0) x1) (D.app (D.take (D.subN (N x1) (V x0)) (D.take (D.subN (V x0) 0) (D.drop 0 x1))) (D.drop (D.addN (V x0) (N (D.take (D.subN (N x1) (V x0)) (D.take (D.subN (V x0) 0) (D.drop 0 x1))))) x1)))) none) none) none) none) (some x1):=(jn _ _).trans (by kernel_rfl)
def c22:Code:=cB (cB (b9 P 164))
def c23:Code:=cC (cC (cB (cA c22)))
def K24(k:Nat):cE (den (resTy P 164)):=a8 0 (JK k 164 (cB c22) (R0 164))
def c25:Code:=cB (cB c23)
def bJ(k:Nat)(a0:LJ):Option (List (Int×Int)):=call k 164 a0
def bJ.L0(k j:Nat)(x0 x1:Int)(x2:List (Int×Int))(x3:LJ):Option (List (Int×Int)):=LL k 164 c23 j (K24 k) [frm 36 [(3,Sl 0),(9,Sl 1),(10,In x0),(11,In x1)]] [.row Bool.true (.pair (.int .i64) (.int .i64)) x2,Roo x3]
def bJ.L1(k k1 j:Nat)(x0 x1 x2:Int)(x3:Nat)(x4 x5:Int)(x6:List (Int×Int))(x7:LJ):Option (List (Int×Int)):=LL k 164 (cC (cC (cB (cB (cC (cA c25)))))) j (a8 2 (a8 1 (JK k 164 (cB c25) (LK k 164 c23 k1 (K24 k))))) [frm 36 [(3,Sl 0),(4,In x0),(9,Sl 1),(10,In x1),(11,In x2),(16,.sl 1 [(x3,0)] Option.none),(17,In x4),(18,In x5)]] [.row Bool.true (.pair (.int .i64) (.int .i64)) x6,Roo x7]
theorem bJ.eq(k:Nat)(a0):bJ (k+1) a0=bJ.L0 k k (O (N a0)) 0 ([]:List (Int×Int)) a0:=by kernel_rfl
theorem bJ.bp(k j:Nat)(x0 x1 x2 x3):bJ.L0 k (j+1) x0 x1 x2 x3=T (D.lt x1 x0) (T (D.le 0 x1) (T (U (V x1) (N x3)) (T (U (V x1) (N x3)) (T (U (V x1) (N x3)) (bJ.L1 k j k x1 x0 x1 (V x1) (O (N (E x3 (V x1) []))) 0 x2 x3) none) none) none) none) (some x2):=(jn _ _).trans (by kernel_rfl)
theorem bJ.cO(k k1 j:Nat)(x0 x1 x2 x3 x4 x5 x6 x7):bJ.L1 k k1 (j+1) x0 x1 x2 x3 x4 x5 x6 x7=T (D.lt x5 x4) (T (U x3 (N x7)) (T (D.le 0 x5) (T (U (V x5) (N (E x7 x3 []))) (T (U x3 (N x7)) (T (U (V x5) (N (E x7 x3 []))) (B (ar k (((Z .i64 (A x0 1)),(Z .i64 (A x5 1)))::([]:List (Int×Int))) (E (E x7 x3 []) (V x5) 0)) fun r0=>T (D.leN (N (D.app x6 r0)) 1099511627776) (bJ.L1 k k1 j x0 x1 x2 x3 x4 (Z .i64 (A x5 1)) (D.app x6 r0) x7) none) none) none) none) none) none) (bJ.L0 k k1 x1 (Z .i64 (A x2 1)) x6 x7):=(jn _ _).trans (by kernel_rfl)
def c26:Code:=cB (cB (cB (b9 P 121)))
def c27:Code:=cB (b9 P 45)
def c28:Code:=cA c27
def bT(k:Nat)(a0:LJ):Option LI:=call k 45 a0
def bT.L0(k j:Nat)(x0 x1:Int)(x2:LI)(x3:List (Int×Int))(x4:LJ)(x5:LI):Option LI:=LL k 121 (cC (cC (cB (cA c26)))) j (a8 0 (JK k 121 (cB c26) (mK (fC P (qF P 121) (fun z8 z9=>St.force (St.put z9 (Go.Oper.dst (u3 (Code.ops c28) 1)) (oP z8)) ((fun z10 z11=>gX (Code.ops c28) 1 (u3 (Code.ops c28) 1) z11 ((fun z12 z13=>eM P cfg (lS P cfg ext (k+1)) Option.none (Code.ops c28) [2] (trN 2) z13 (fun z14 z15=>JK (k+1) 45 (cB c27) (R0 45) .normal z15)) z10)) (Touch.mk [] [] [] Bool.true))))))) [frm 27 [(1,In 1),(5,Sl 0),(13,Sl 1),(14,In x0),(15,In x1)],frm 5 [(0,Sl 2),(1,.tup []),(2,Sl 3),(3,Sl 2),(4,.tup [])]] [Rw x2,.row Bool.true (.pair (.int .i64) (.int .i64)) x3,Roo x4,Rw x5]
theorem bT.eq(k:Nat)(a0):bT (k+2) a0=B (bw k a0) fun r0=>T (D.no r0) (some ([]:LI)) (B (bJ k a0) fun r1=>bT.L0 k k (O (N r1)) 0 ([]:LI) r1 a0 ([]:LI)):=by kernel_rfl
theorem bT.bp(k j:Nat)(x0 x1 x2 x3 x4 x5):bT.L0 k (j+1) x0 x1 x2 x3 x4 x5=T (D.lt x1 x0) (T (D.le 0 x1) (T (U (V x1) (N x3)) (T (U (V x1) (N x3)) (T (D.le 0 1) (T (D.lt 1 (O 2)) (T (D.leN (N (D.app x2 ((E x3 (V x1) (0,0)).2::([]:LI)))) 1099511627776) (bT.L0 k j x0 (Z .i64 (A x1 1)) (D.app x2 ((E x3 (V x1) (0,0)).2::([]:LI))) x3 x4 x5) none) none) none) none) none) none) (some x2):=(jn _ _).trans (by kernel_rfl)
def c29:Code:=cB (cB (cB (b9 P 121)))
def c30:Code:=cB (b9 P 43)
def c31:Code:=cA c30
def cI(k:Nat)(a0:LJ):Option LI:=call k 43 a0
def cI.L0(k j:Nat)(x0 x1:Int)(x2:LI)(x3:List (Int×Int))(x4:LJ)(x5:LI):Option LI:=LL k 121 (cC (cC (cB (cA c29)))) j (a8 0 (JK k 121 (cB c29) (mK (fC P (qF P 121) (fun z8 z9=>St.force (St.put z9 (Go.Oper.dst (u3 (Code.ops c31) 1)) (oP z8)) ((fun z10 z11=>gX (Code.ops c31) 1 (u3 (Code.ops c31) 1) z11 ((fun z12 z13=>eM P cfg (lS P cfg ext (k+1)) Option.none (Code.ops c31) [2] (trN 2) z13 (fun z14 z15=>JK (k+1) 43 (cB c30) (R0 43) .normal z15)) z10)) (Touch.mk [] [] [] Bool.true))))))) [frm 27 [(1,In 0),(5,Sl 0),(13,Sl 1),(14,In x0),(15,In x1)],frm 5 [(0,Sl 2),(1,.tup []),(2,Sl 3),(3,Sl 2),(4,.tup [])]] [Rw x2,.row Bool.true (.pair (.int .i64) (.int .i64)) x3,Roo x4,Rw x5]
theorem cI.eq(k:Nat)(a0):cI (k+2) a0=B (bw k a0) fun r0=>T (D.no r0) (some ([]:LI)) (B (bJ k a0) fun r1=>cI.L0 k k (O (N r1)) 0 ([]:LI) r1 a0 ([]:LI)):=by kernel_rfl
theorem cI.bp(k j:Nat)(x0 x1 x2 x3 x4 x5):cI.L0 k (j+1) x0 x1 x2 x3 x4 x5=T (D.lt x1 x0) (T (D.le 0 x1) (T (U (V x1) (N x3)) (T (U (V x1) (N x3)) (T (D.le 0 0) (T (D.lt 0 (O 2)) (T (D.leN (N (D.app x2 ((E x3 (V x1) (0,0)).1::([]:LI)))) 1099511627776) (cI.L0 k j x0 (Z .i64 (A x1 1)) (D.app x2 ((E x3 (V x1) (0,0)).1::([]:LI))) x3 x4 x5) none) none) none) none) none) none) (some x2):=(jn _ _).trans (by kernel_rfl)
def cV(k:Nat)(x0 x1:Int):Option (Bool×Int):=IO_ k 180 1 0 1 [.var [In 0]] [[In x0,.pv 0 0],[.pv 0 0]] [.var [In x1]]
theorem cV.eq(k:Nat)(x0 x1):cV (k+1) x0 x1=some ((D.lt x1 x0),x1):=by kernel_rfl
def c32:Code:=cB (b9 P 163)
def an(k:Nat)(x0:Int)(x1:LI):Option (Int×Int):=IO_ k 163 1 0 1 [.var [In 0],Ro []] [[Sl 1,.fn 180 [] [.pv 0 0]],[.pv 0 0,Sl 1]] [.var [In x0],Ro x1]
def an.L0(k j:Nat)(x0 x1:Int)(x2:LI)(x3:Int):Option (Int×Int):=LL k 163 (cC (cC (cB (cA c32)))) j (a8 0 (JK k 163 (cB c32) (mK (fC P (qF P 163) (fun z6 z7=>oN P 163 1 0 1 [.var [In 0],Ro []] z6 z7))))) [frm 19 [(0,Sl 0),(1,.fn 180 [] [.pv 1 0]),(7,In x0),(8,In x1)],[.pv 1 0,Sl 0]] [Ro x2,.var [In x3]]
theorem an.eq(k:Nat)(x0 x1):an (k+1) x0 x1=an.L0 k k (O (N x1)) 0 x1 x0:=by kernel_rfl
theorem an.bp(k j:Nat)(x0 x1 x2 x3):an.L0 k (j+1) x0 x1 x2 x3=T (D.lt x1 x0) (T (D.le 0 x1) (T (U (V x1) (N x2)) (T (U (V x1) (N x2)) (B (cV k (E x2 (V x1) 0) x3) fun r0=>T r0.1 (some (x1,r0.2)) (an.L0 k j x0 (Z .i64 (A x1 1)) x2 r0.2)) none) none) none) (some ((-1:Int),x3)):=(jn _ _).trans (by kernel_rfl)
def c33:Code:=cB (b9 P 150)
def bj(k:Nat)(x0:Int)(x1:LI)(x2:LJ):Option (Int×((LI)×(LJ))):=IO_ k 150 1 0 3 [.var [Sl 1,Sl 2],Rw [],Rww []] [[.pv 0 0,In x0],[.pv 0 0,.undef,.undef]] [.var [Sl 1,Sl 2],Rw x1,Rww x2]
def bj.L0(k j:Nat)(x0 x1 x2:Int)(x3:LJ)(x4:LI):Option (Int×((LI)×(LJ))):=LL k 150 (cC (cC (cB (cA c33)))) j (a8 0 (JK k 150 (cB c33) (mK (fC P (qF P 150) (fun z6 z7=>oN P 150 1 0 3 [.var [Sl 1,Sl 2],Rw [],Rww []] z6 z7))))) [frm 60 [(0,.pv 0 0),(3,.pv 1 0),(11,Sl 2),(12,In x0),(13,In x1)],[.pv 0 0,.undef,.undef]] [.var [Sl 3,Sl 2],.var [In x2],Rww x3,Rw x4]
theorem bj.eq(k:Nat)(x0 x1 x2):bj (k+1) x0 x1 x2=bj.L0 k k (O (N x2)) 0 x0 x2 x1:=by kernel_rfl
theorem bj.bp(k j:Nat)(x0 x1 x2 x3 x4):bj.L0 k (j+1) x0 x1 x2 x3 x4=T (D.lt x1 x0) (T (D.le 0 x1) (T (U (V x1) (N x3)) (T (U (V x1) (N x3)) (T (U (V x1) (N x3)) (B (an k x2 (E x3 (V x1) [])) fun r0=>T (D.lt r0.1 0) (T (U (V x1) (N x3)) (T (D.leN (N (D.app (E x3 (V x1) []) (r0.2::([]:LI)))) 1099511627776) (T (D.le 0 x1) (T (U (V x1) (N x3)) (T (U (V x1) (N x3)) (T (D.eqP (((V x1),0)::([]:List (Nat×Nat))) (((V x1),0)::([]:List (Nat×Nat)))) (some (x1,(x4,(D.set x3 (V x1) (D.app (E x3 (V x1) []) (r0.2::([]:LI))))))) none) none) none) none) none) none) (T (U (V x1) (N x3)) (T (D.le 0 r0.1) (T (U (V r0.1) (N (E x3 (V x1) []))) (T (U (V x1) (N x3)) (T (U (V r0.1) (N (E x3 (V x1) []))) (T (U (V x1) (N x3)) (T (D.le 0 r0.1) (T (U (V r0.1) (N (E x3 (V x1) []))) (T (U (V x1) (N x3)) (T (U (V r0.1) (N (E x3 (V x1) []))) (bj.L0 k j x0 (Z .i64 (A x1 1)) (E (E x3 (V x1) []) (V r0.1) 0) (D.set x3 (V x1) (D.set (E x3 (V x1) []) (V r0.1) r0.2)) x4) none) none) none) none) none) none) none) none) none) none)) none) none) none) none) (T (D.leN (N (D.app x3 ((x2::([]:LI))::([]:LJ)))) 1099511627776) (some ((Z .i64 (M (O (N (D.app x3 ((x2::([]:LI))::([]:LJ))))) 1)),(x4,(D.app x3 ((x2::([]:LI))::([]:LJ)))))) none):=(jn _ _).trans (by kernel_rfl)
def c34:Code:=cB (cB (b9 P 101))
def c35:Code:=cC (cC (cB (cA c34)))
def K36(k:Nat):cE (den (resTy P 101)):=a8 0 (JK k 101 (cB c34) (R0 101))
def c37:Code:=cB (cB c35)
def ba(k:Nat)(a0 a1:LI):Option (((LI)×(LJ))×((LI)×(LJ))):=call k 101 (a0,a1)
def ba.L0(k j:Nat)(x0 x1:Int)(x2 x3 x4:LI)(x5:LJ)(x6:LI)(x7:LJ)(x8:LI)(x9:LJ)(x10:LI)(x11:LJ):Option (((LI)×(LJ))×((LI)×(LJ))):=LL k 101 c35 j (K36 k) [frm 50 [(1,Sl 0),(4,.pv 1 0),(5,.pv 2 0),(6,.pv 3 0),(7,.pv 4 0),(13,Sl 5),(14,In x0),(15,In x1)]] [Ro x2,.var [Sl 6,Sl 7],.var [Sl 8,Sl 9],.var [Sl 10,Sl 11],.var [Sl 12,Sl 13],Ro x3,Rw x4,Rww x5,Rw x6,Rww x7,Rw x8,Rww x9,Rw x10,Rww x11]
def ba.J1(k k1:Nat)(x0 x1 x2 x3:Int)(x4 x5 x6:LI)(x7:LJ)(x8:LI)(x9:LJ)(x10:LI)(x11:LJ)(x12:LI)(x13:LJ):Option (((LI)×(LJ))×((LI)×(LJ))):=JJ k 101 (cB (cB (cB (cC (cA c37))))) (a8 1 (JK k 101 (cB c37) (LK k 101 c35 k1 (K36 k)))) [frm 50 [(1,Sl 0),(4,.pv 1 0),(5,.pv 2 0),(6,.pv 3 0),(7,.pv 4 0),(8,In x0),(10,In x1),(13,Sl 5),(14,In x2),(15,In x3)]] [Ro x4,.var [Sl 6,Sl 7],.var [Sl 8,Sl 9],.var [Sl 10,Sl 11],.var [Sl 12,Sl 13],Ro x5,Rw x6,Rww x7,Rw x8,Rww x9,Rw x10,Rww x11,Rw x12,Rww x13]
theorem ba.eq(k:Nat)(a0 a1):ba (k+1) a0 a1=ba.L0 k k (O (N a0)) 0 a1 a0 ([]:LI) ([]:LJ) ([]:LI) ([]:LJ) ([]:LI) ([]:LJ) ([]:LI) ([]:LJ):=by kernel_rfl
theorem ba.bp(k j:Nat)(x0 x1 x2 x3 x4 x5 x6 x7 x8 x9 x10 x11):ba.L0 k (j+1) x0 x1 x2 x3 x4 x5 x6 x7 x8 x9 x10 x11=T (D.lt x1 x0) (T (D.le 0 x1) (T (U (V x1) (N x3)) (T (U (V x1) (N x3)) (B (bj k (E x3 (V x1) 0) x8 x9) fun r0=>T (D.eq r0.1 (O (N x11))) (T (D.leN (N (D.app x11 (([]:LI)::([]:LJ)))) 1099511627776) (ba.J1 k j x1 r0.1 x0 x1 x2 x3 x4 x5 x6 x7 r0.2.1 r0.2.2 x10 (D.app x11 (([]:LI)::([]:LJ)))) none) (ba.J1 k j x1 r0.1 x0 x1 x2 x3 x4 x5 x6 x7 r0.2.1 r0.2.2 x10 x11)) none) none) none) (some ((x8,x9),(x10,x11))):=(jn _ _).trans (by kernel_rfl)
theorem ba.fb(k k1:Nat)(x0 x1 x2 x3 x4 x5 x6 x7 x8 x9 x10 x11 x12 x13):ba.J1 k k1 x0 x1 x2 x3 x4 x5 x6 x7 x8 x9 x10 x11 x12 x13=T (D.le 0 x1) (T (U (V x1) (N x13)) (T (U (V x1) (N x13)) (T (D.le 0 x0) (T (U (V x0) (N x4)) (T (U (V x0) (N x4)) (T (U (V x1) (N x13)) (T (D.leN (N (D.app (E x13 (V x1) []) ((E x4 (V x0) 0)::([]:LI)))) 1099511627776) (T (D.le 0 x1) (T (U (V x1) (N x13)) (T (U (V x1) (N x13)) (T (D.eqP (((V x1),0)::([]:List (Nat×Nat))) (((V x1),0)::([]:List (Nat×Nat)))) (ba.L0 k k1 x2 (Z .i64 (A x3 1)) x4 x5 x6 x7 x8 x9 x10 x11 x12 (D.set x13 (V x1) (D.app (E x13 (V x1) []) ((E x4 (V x0) 0)::([]:LI))))) none) none) none) none) none) none) none) none) none) none) none) none:=(jn _ _).trans (by kernel_rfl)
def cY(k:Nat)(a0:LJ):Option (((LI)×(LJ))×(((LI)×(LJ))×Bool)):=call k 31 a0
theorem cY.eq(k:Nat)(a0):cY (k+1) a0=B (bw k a0) fun r0=>T (D.no r0) (some ((([]:LI),([]:LJ)),((([]:LI),([]:LJ)),false))) (B (bT k a0) fun r1=>B (cI k a0) fun r2=>B (ba k r1 r2) fun r3=>some ((r3.1.1,r3.1.2),((r3.2.1,r3.2.2),true))):=by kernel_rfl
def fg(k:Nat)(a0 a1 a2:Int):Option Bool:=call k 113 (a0,a1,a2)
theorem fg.eq(k:Nat)(a0 a1 a2):fg (k+1) a0 a1 a2=T (D.le a1 a0) (some (D.le a0 a2)) (some false):=by kernel_rfl
def c38:Code:=cB (cB (b9 P 41))
def c39:Code:=cC (cC (cB (cA c38)))
def K40(k:Nat):cE (den (resTy P 41)):=a8 0 (JK k 41 (cB c38) (R0 41))
def c41:Code:=cB c39
def bk(k:Nat)(a0:LJ):Option Bool:=call k 41 a0
def bk.L0(k j:Nat)(x0 x1:Int)(x2:LJ):Option Bool:=LL k 41 c39 j (K40 k) [frm 66 [(0,Sl 0),(3,In x0),(4,In x1)]] [Roo x2]
def bk.L1(k k1 j:Nat)(x0 x1 x2:Int)(x3:LJ):Option Bool:=LL k 41 (cC (cC (cB (cB (cC (cA c41)))))) j (a8 2 (a8 1 (JK k 41 (cB c41) (LK k 41 c39 k1 (K40 k))))) [frm 66 [(0,Sl 0),(3,In x0),(4,In x1),(5,In x2)]] [Roo x3]
theorem bk.eq(k:Nat)(a0):bk (k+1) a0=bk.L0 k k 0 0 a0:=by kernel_rfl
theorem bk.bp(k j:Nat)(x0 x1 x2):bk.L0 k (j+1) x0 x1 x2=T (D.lt x1 (O (N x2))) (T (D.le 0 x1) (T (U (V x1) (N x2)) (T (U (V x1) (N x2)) (T (U (V x1) (N x2)) (T (D.le 0 0) (T (U (V 0) (N x2)) (T (U (V 0) (N x2)) (T (U (V 0) (N x2)) (T (D.no (D.eq (O (N (E x2 (V x1) []))) (O (N (E x2 (V 0) []))))) (some false) (bk.L1 k j k x0 x1 0 x2)) none) none) none) none) none) none) none) none) (T (D.le (O (N x2)) 9) (T (D.eq (O (N x2)) 0) (some true) (T (D.le 0 0) (T (U (V 0) (N x2)) (T (U (V 0) (N x2)) (T (U (V 0) (N x2)) (some (D.le (O (N (E x2 (V 0) []))) 9)) none) none) none) none)) (some false)):=(jn _ _).trans (by kernel_rfl)
theorem bk.cO(k k1 j:Nat)(x0 x1 x2 x3):bk.L1 k k1 (j+1) x0 x1 x2 x3=T (D.le 0 x1) (T (U (V x1) (N x3)) (T (U (V x1) (N x3)) (T (U (V x1) (N x3)) (T (D.lt x2 (O (N (E x3 (V x1) [])))) (T (D.le 0 x1) (T (U (V x1) (N x3)) (T (U (V x1) (N x3)) (T (U (V x1) (N x3)) (T (D.le 0 x2) (T (U (V x2) (N (E x3 (V x1) []))) (T (U (V x1) (N x3)) (T (U (V x2) (N (E x3 (V x1) []))) (B (fg k (E (E x3 (V x1) []) (V x2) 0) 0 9) fun r0=>T (D.no r0) (some false) (T (D.le 0 x1) (T (U (V x1) (N x3)) (T (U (V x1) (N x3)) (T (U (V x1) (N x3)) (T (D.le 0 x2) (T (U (V x2) (N (E x3 (V x1) []))) (T (U (V x1) (N x3)) (T (U (V x2) (N (E x3 (V x1) []))) (T (D.lt 9 (Z .i64 (A x0 (E (E x3 (V x1) []) (V x2) 0)))) (some false) (bk.L1 k k1 j (Z .i64 (A x0 (E (E x3 (V x1) []) (V x2) 0))) x1 (Z .i64 (A x2 1)) x3)) none) none) none) none) none) none) none) none)) none) none) none) none) none) none) none) none) (bk.L0 k k1 x0 (Z .i64 (A x1 1)) x3)) none) none) none) none:=(jn _ _).trans (by kernel_rfl)
def c42:Code:=cB (cB (b9 P 104))
def c43:Code:=cC (cC (cB (cA c42)))
def K44(k:Nat):cE (den (resTy P 104)):=a8 0 (JK k 104 (cB c42) (R0 104))
def c45:Code:=cB c43
def K46(k k1:Nat):cE (den (resTy P 104)):=LK k 104 c43 k1 (K44 k)
def c47:Code:=cC (cC (cB (cC (cA c45))))
def K48(k k1:Nat):cE (den (resTy P 104)):=a8 2 (a8 1 (JK k 104 (cB c45) (K46 k k1)))
def c49:Code:=cB c47
def c50:Code:=cC (cC (cB (cC (cA c49))))
def K51(k k1 k2:Nat):cE (den (resTy P 104)):=a8 4 (a8 3 (JK k 104 (cB c49) (LK k 104 c47 k2 (K48 k k1))))
def aD(k:Nat)(a0:LJ)(a1:Bool):Option LI:=call k 104 (a0,a1)
def aD.L0(k j:Nat)(x0:Bool)(x1:Int)(x2:LJ)(x3:LI):Option LI:=LL k 104 c43 j (K44 k) [frm 52 [(0,Sl 0),(1,.bool x0),(5,Sl 1),(6,In x1)]] [Roo x2,Rw x3]
def aD.J1(k k1:Nat)(x0:Bool)(x1:Int)(x2:LJ)(x3:LI):Option LI:=JJ k 104 c45 (K46 k k1) [frm 52 [(0,Sl 0),(1,.bool x0),(5,Sl 1),(6,In x1)]] [Roo x2,Rw x3]
def aD.L2(k k1 j:Nat)(x0:Bool)(x1 x2:Int)(x3:LJ)(x4:LI):Option LI:=LL k 104 c47 j (K48 k k1) [frm 52 [(0,Sl 0),(1,.bool x0),(5,Sl 1),(6,In x1),(7,In x2)]] [Roo x3,Rw x4]
def aD.L3(k k1 k2 j:Nat)(x0:Bool)(x1 x2 x3:Int)(x4:LJ)(x5:LI):Option LI:=LL k 104 c50 j (K51 k k1 k2) [frm 52 [(0,Sl 0),(1,.bool x0),(5,Sl 1),(6,In x1),(7,In x2),(8,In x3)]] [Roo x4,Rw x5]
def aD.J4(k k1 k2 k3:Nat)(x0:Bool)(x1 x2 x3:Int)(x4:LJ)(x5:LI):Option LI:=JJ k 104 (cB (cB c50)) (LK k 104 c50 k3 (K51 k k1 k2)) [frm 52 [(0,Sl 0),(1,.bool x0),(5,Sl 1),(6,In x1),(7,In x2),(8,In x3)]] [Roo x4,Rw x5]
theorem aD.eq(k:Nat)(a0 a1):aD (k+1) a0 a1=aD.L0 k k a1 0 a0 ([]:LI):=by kernel_rfl
theorem aD.bp(k j:Nat)(x0 x1 x2 x3):aD.L0 k (j+1) x0 x1 x2 x3=T (D.lt x1 (O (N x2))) (B (bk k x2) fun r0=>T r0 (aD.J1 k j x0 x1 x2 x3) (some x3)) (some x3):=(jn _ _).trans (by kernel_rfl)
theorem aD.fb(k k1:Nat)(x0 x1 x2 x3):aD.J1 k k1 x0 x1 x2 x3=aD.L2 k k1 k x0 x1 0 x2 x3:=(jn _ _).trans (by kernel_rfl)
theorem aD.gB(k k1 j:Nat)(x0 x1 x2 x3 x4):aD.L2 k k1 (j+1) x0 x1 x2 x3 x4=T (D.le 0 x1) (T (U (V x1) (N x3)) (T (U (V x1) (N x3)) (T (U (V x1) (N x3)) (T (D.lt x2 (O (N (E x3 (V x1) [])))) (aD.L3 k k1 j k x0 x1 x2 0 x3 x4) (aD.L0 k k1 x0 (Z .i64 (A x1 1)) x3 x4)) none) none) none) none:=(jn _ _).trans (by kernel_rfl)
theorem aD.nO(k k1 k2 j:Nat)(x0 x1 x2 x3 x4 x5):aD.L3 k k1 k2 (j+1) x0 x1 x2 x3 x4 x5=T (D.le 0 x1) (T (U (V x1) (N x4)) (T (U (V x1) (N x4)) (T (U (V x1) (N x4)) (T (D.le 0 x2) (T (U (V x2) (N (E x4 (V x1) []))) (T (U (V x1) (N x4)) (T (U (V x2) (N (E x4 (V x1) []))) (T (D.lt x3 (E (E x4 (V x1) []) (V x2) 0)) (T x0 (T (D.leN (N (D.app x5 ((Z .i64 (A x1 1))::([]:LI)))) 1099511627776) (aD.J4 k k1 k2 j x0 x1 x2 x3 x4 (D.app x5 ((Z .i64 (A x1 1))::([]:LI)))) none) (T (D.leN (N (D.app x5 ((Z .i64 (A x2 1))::([]:LI)))) 1099511627776) (aD.J4 k k1 k2 j x0 x1 x2 x3 x4 (D.app x5 ((Z .i64 (A x2 1))::([]:LI)))) none)) (aD.L2 k k1 k2 x0 x1 (Z .i64 (A x2 1)) x4 x5)) none) none) none) none) none) none) none) none:=(jn _ _).trans (by kernel_rfl)
theorem aD.G5(k k1 k2 k3:Nat)(x0 x1 x2 x3 x4 x5):aD.J4 k k1 k2 k3 x0 x1 x2 x3 x4 x5=aD.L3 k k1 k2 k3 x0 x1 x2 (Z .i64 (A x3 1)) x4 x5:=(jn _ _).trans (by kernel_rfl)
def c52:Code:=cB (cB (b9 P 93))
def cJ(k:Nat)(a0:(LI)×(LJ)):Option ((LI)×(LJ)):=call k 93 a0
def cJ.L0(k j:Nat)(x0:Int)(x1:LI)(x2:LJ)(x3:LI)(x4:LJ)(x5:LI)(x6:LJ):Option ((LI)×(LJ)):=LL k 93 (cC (cC (cB (cA c52)))) j (a8 0 (JK k 93 (cB c52) (R0 93))) [frm 30 [(1,.pv 0 0),(2,.pv 1 0),(3,.pv 2 0),(4,In x0)]] [.var [Sl 3,Sl 4],.var [Sl 5,Sl 6],.var [Sl 7,Sl 8],Ro x1,Roo x2,Rw x3,Rww x4,Rw x5,Rww x6]
theorem cJ.eq(k:Nat)(a0):cJ (k+1) a0=T (D.leN (N (D.app ([]:LI) a0.1)) 1099511627776) (cJ.L0 k k 0 a0.1 a0.2 ([]:LI) ([]:LJ) (D.app ([]:LI) a0.1) ([]:LJ)) none:=by kernel_rfl
theorem cJ.bp(k j:Nat)(x0 x1 x2 x3 x4 x5 x6):cJ.L0 k (j+1) x0 x1 x2 x3 x4 x5 x6=T (D.lt x0 (O (N x2))) (T (D.le 0 x0) (T (U (V x0) (N x2)) (T (U (V x0) (N x2)) (T (U (V x0) (N x2)) (T (D.leN (N (D.app ([]:LI) (E x2 (V x0) []))) 1099511627776) (T (D.leN (N (D.app x6 ((D.app ([]:LI) (E x2 (V x0) []))::([]:LJ)))) 1099511627776) (cJ.L0 k j (Z .i64 (A x0 1)) x1 x2 x3 x4 x5 (D.app x6 ((D.app ([]:LI) (E x2 (V x0) []))::([]:LJ)))) none) none) none) none) none) none) (some (x5,x6)):=(jn _ _).trans (by kernel_rfl)
def c53:Code:=cB (cB (b9 P 152))
def c54:Code:=cC (cC (cB (cA c53)))
def K55(k:Nat):cE (den (resTy P 152)):=a8 0 (JK k 152 (cB c53) (R0 152))
def c56:Code:=cB c54
def c57:Code:=cB (cC (cA c56))
def c58:Code:=cC (cC (cA c57))
def c59:Code:=cB c57
def K60(k k1:Nat):cE (den (resTy P 152)):=a8 1 (JK k 152 (cB c56) (LK k 152 c54 k1 (K55 k)))
def K61(k k1:Nat):cE (den (resTy P 152)):=a8 2 (JK k 152 c59 (K60 k k1))
def aY(k:Nat)(a0:(LI)×(LJ))(a1:Int):Option (((LI)×(LJ))×Int):=call k 152 (a0,a1)
def aY.L0(k j:Nat)(x0 x1:Int)(x2:LI)(x3:LJ)(x4:LI)(x5:LJ):Option (((LI)×(LJ))×Int):=LL k 152 c54 j (K55 k) [frm 92 [(1,In x0),(4,.pv 0 0),(6,.pv 1 0),(7,In x1)]] [.var [Sl 2,Sl 3],.var [Sl 4,Sl 5],Rw x2,Rww x3,Rw x4,Rww x5]
def aY.L1(k k1 j:Nat)(x0 x1 x2:Int)(x3:LI)(x4:LJ)(x5:LI)(x6:LJ):Option (((LI)×(LJ))×Int):=LL k 152 c58 j (K61 k k1) [frm 92 [(1,In x0),(4,.pv 0 0),(6,.pv 1 0),(7,In x1),(8,In x2)]] [.var [Sl 2,Sl 3],.var [Sl 4,Sl 5],Rw x3,Rww x4,Rw x5,Rww x6]
def aY.J2(k k1 k2:Nat)(x0 x1 x2:Int)(x3:LI)(x4:LJ)(x5:LI)(x6:LJ):Option (((LI)×(LJ))×Int):=JJ k 152 (cB c58) (LK k 152 c58 k2 (K61 k k1)) [frm 92 [(1,In x0),(4,.pv 0 0),(6,.pv 1 0),(7,In x1),(8,In x2)]] [.var [Sl 2,Sl 3],.var [Sl 4,Sl 5],Rw x3,Rww x4,Rw x5,Rww x6]
def aY.J3(k k1:Nat)(x0 x1 x2:Int)(x3:LI)(x4:LJ)(x5:LI)(x6:LJ):Option (((LI)×(LJ))×Int):=JJ k 152 c59 (K60 k k1) [frm 92 [(1,In x0),(4,.pv 0 0),(6,.pv 1 0),(7,In x1),(8,In x2)]] [.var [Sl 2,Sl 3],.var [Sl 4,Sl 5],Rw x3,Rww x4,Rw x5,Rww x6]
theorem aY.eq(k:Nat)(a0 a1):aY (k+1) a0 a1=B (cJ k (a0.1,a0.2)) fun r0=>aY.L0 k k a1 0 ([]:LI) ([]:LJ) r0.1 r0.2:=by kernel_rfl
theorem aY.bp(k j:Nat)(x0 x1 x2 x3 x4 x5):aY.L0 k (j+1) x0 x1 x2 x3 x4 x5=T (D.lt x1 (O (N x5))) (aY.L1 k j k x0 x1 0 x2 x3 x4 x5) (T (D.leN (N (D.app x5 ((x0::([]:LI))::([]:LJ)))) 1099511627776) (some ((x4,(D.app x5 ((x0::([]:LI))::([]:LJ)))),(Z .i64 (M (O (N (D.app x5 ((x0::([]:LI))::([]:LJ))))) 1)))) none):=(jn _ _).trans (by kernel_rfl)
theorem aY.cO(k k1 j:Nat)(x0 x1 x2 x3 x4 x5 x6):aY.L1 k k1 (j+1) x0 x1 x2 x3 x4 x5 x6=T (D.le 0 x1) (T (U (V x1) (N x6)) (T (U (V x1) (N x6)) (T (U (V x1) (N x6)) (T (D.lt x2 (O (N (E x6 (V x1) [])))) (T (D.le 0 x1) (T (U (V x1) (N x6)) (T (U (V x1) (N x6)) (T (U (V x1) (N x6)) (T (D.le 0 x2) (T (U (V x2) (N (E x6 (V x1) []))) (T (U (V x1) (N x6)) (T (U (V x2) (N (E x6 (V x1) []))) (T (D.le (E (E x6 (V x1) []) (V x2) 0) x0) (aY.J2 k k1 j x0 x1 x2 x3 x4 x5 x6) (aY.J3 k k1 x0 x1 x2 x3 x4 x5 x6)) none) none) none) none) none) none) none) none) (aY.J3 k k1 x0 x1 x2 x3 x4 x5 x6)) none) none) none) none:=(jn _ _).trans (by kernel_rfl)
theorem aY.kx(k k1 k2:Nat)(x0 x1 x2 x3 x4 x5 x6):aY.J2 k k1 k2 x0 x1 x2 x3 x4 x5 x6=aY.L1 k k1 k2 x0 x1 (Z .i64 (A x2 1)) x3 x4 x5 x6:=(jn _ _).trans (by kernel_rfl)
theorem aY.sC(k k1:Nat)(x0 x1 x2 x3 x4 x5 x6):aY.J3 k k1 x0 x1 x2 x3 x4 x5 x6=T (D.le 0 x1) (T (U (V x1) (N x6)) (T (U (V x1) (N x6)) (T (U (V x1) (N x6)) (T (D.eq x2 (O (N (E x6 (V x1) [])))) (T (D.le 0 x1) (T (U (V x1) (N x6)) (T (U (V x1) (N x6)) (T (U (V x1) (N x6)) (T (D.leN (N (D.app (E x6 (V x1) []) (x0::([]:LI)))) 1099511627776) (T (D.le 0 x1) (T (U (V x1) (N x6)) (T (U (V x1) (N x6)) (T (D.eqP (((V x1),0)::([]:List (Nat×Nat))) (((V x1),0)::([]:List (Nat×Nat)))) (some ((x5,(D.set x6 (V x1) (D.app (E x6 (V x1) []) (x0::([]:LI))))),x1)) none) none) none) none) none) none) none) none) none) (T (D.le 0 x1) (T (U (V x1) (N x6)) (T (U (V x1) (N x6)) (T (U (V x1) (N x6)) (T (D.le 0 x2) (T (U (V x2) (N (E x6 (V x1) []))) (T (U (V x1) (N x6)) (T (U (V x2) (N (E x6 (V x1) []))) (T (D.le 0 x1) (T (U (V x1) (N x6)) (T (U (V x1) (N x6)) (T (U (V x1) (N x6)) (T (D.le 0 x2) (T (U (V x2) (N (E x6 (V x1) []))) (T (U (V x1) (N x6)) (T (U (V x2) (N (E x6 (V x1) []))) (aY.L0 k k1 (E (E x6 (V x1) []) (V x2) 0) (Z .i64 (A x1 1)) x3 x4 x5 (D.set x6 (V x1) (D.set (E x6 (V x1) []) (V x2) x0))) none) none) none) none) none) none) none) none) none) none) none) none) none) none) none) none)) none) none) none) none:=(jn _ _).trans (by kernel_rfl)
def c62:Code:=cB (cB (cB (b9 P 105)))
def c63:Code:=cC (cC (cB (cA c62)))
def K64(k:Nat):cE (den (resTy P 105)):=a8 0 (JK k 105 (cB c62) (R0 105))
def c65:Code:=cB c63
def bV(k:Nat)(a0:LI):Option (((LI)×(LJ))×((LI)×(LJ))):=call k 105 a0
def bV.L0(k j:Nat)(x0:Int)(x1 x2:LI)(x3:LJ)(x4:LI)(x5:LJ)(x6:LI)(x7:LJ)(x8:LI)(x9:LJ):Option (((LI)×(LJ))×((LI)×(LJ))):=LL k 105 c63 j (K64 k) [frm 53 [(0,Sl 0),(2,.pv 1 0),(3,.pv 2 0),(4,.pv 3 0),(5,.pv 4 0),(6,In x0)]] [Ro x1,.var [Sl 5,Sl 6],.var [Sl 7,Sl 8],.var [Sl 9,Sl 10],.var [Sl 11,Sl 12],Rw x2,Rww x3,Rw x4,Rww x5,Rw x6,Rww x7,Rw x8,Rww x9]
def bV.J1(k k1:Nat)(x0 x1:Int)(x2 x3:LI)(x4:LJ)(x5:LI)(x6:LJ)(x7:LI)(x8:LJ)(x9:LI)(x10:LJ):Option (((LI)×(LJ))×((LI)×(LJ))):=JJ k 105 (cB (cB (cB (cC (cA c65))))) (a8 1 (JK k 105 (cB c65) (LK k 105 c63 k1 (K64 k)))) [frm 53 [(0,Sl 0),(2,.pv 1 0),(3,.pv 2 0),(4,.pv 3 0),(5,.pv 4 0),(6,In x0),(8,In x1)]] [Ro x2,.var [Sl 5,Sl 6],.var [Sl 7,Sl 8],.var [Sl 9,Sl 10],.var [Sl 11,Sl 12],Rw x3,Rww x4,Rw x5,Rww x6,Rw x7,Rww x8,Rw x9,Rww x10]
theorem bV.eq(k:Nat)(a0):bV (k+1) a0=bV.L0 k k 0 a0 ([]:LI) ([]:LJ) ([]:LI) ([]:LJ) ([]:LI) ([]:LJ) ([]:LI) ([]:LJ):=by kernel_rfl
theorem bV.bp(k j:Nat)(x0 x1 x2 x3 x4 x5 x6 x7 x8 x9):bV.L0 k (j+1) x0 x1 x2 x3 x4 x5 x6 x7 x8 x9=T (D.lt x0 (O (N x1))) (T (D.le 0 x0) (T (U (V x0) (N x1)) (T (U (V x0) (N x1)) (B (aY k (x6,x7) (E x1 (V x0) 0)) fun r0=>T (D.eq r0.2 (O (N x9))) (T (D.leN (N (D.app x9 (([]:LI)::([]:LJ)))) 1099511627776) (bV.J1 k j x0 r0.2 x1 x2 x3 x4 x5 r0.1.1 r0.1.2 x8 (D.app x9 (([]:LI)::([]:LJ)))) none) (bV.J1 k j x0 r0.2 x1 x2 x3 x4 x5 r0.1.1 r0.1.2 x8 x9)) none) none) none) (some ((x6,x7),(x8,x9))):=(jn _ _).trans (by kernel_rfl)
theorem bV.fb(k k1:Nat)(x0 x1 x2 x3 x4 x5 x6 x7 x8 x9 x10):bV.J1 k k1 x0 x1 x2 x3 x4 x5 x6 x7 x8 x9 x10=T (D.le 0 x1) (T (U (V x1) (N x10)) (T (U (V x1) (N x10)) (T (U (V x1) (N x10)) (T (D.leN (N (D.app (E x10 (V x1) []) ((Z .i64 (A x0 1))::([]:LI)))) 1099511627776) (T (D.le 0 x1) (T (U (V x1) (N x10)) (T (U (V x1) (N x10)) (T (D.eqP (((V x1),0)::([]:List (Nat×Nat))) (((V x1),0)::([]:List (Nat×Nat)))) (bV.L0 k k1 (Z .i64 (A x0 1)) x2 x3 x4 x5 x6 x7 x8 x9 (D.set x10 (V x1) (D.app (E x10 (V x1) []) ((Z .i64 (A x0 1))::([]:LI))))) none) none) none) none) none) none) none) none) none:=(jn _ _).trans (by kernel_rfl)
def c66:Code:=cB (cB (cB (cB (b9 P 32))))
def c67:Code:=cC (cC (cB (cA c66)))
def K68(k:Nat):cE (den (resTy P 32)):=a8 0 (JK k 32 (cB c66) (R0 32))
def c69:Code:=cB c67
def aX(k:Nat)(a0:LJ):Option (((LI)×(LJ))×(((LI)×(LJ))×Bool)):=call k 32 a0
def aX.L0(k j:Nat)(x0:Int)(x1 x2:LI)(x3:LJ)(x4:LI)(x5:LJ)(x6:LI)(x7:LJ)(x8:LI)(x9:LJ):Option (((LI)×(LJ))×(((LI)×(LJ))×Bool)):=LL k 32 c67 j (K68 k) [frm 61 [(2,.pv 0 0),(3,.pv 1 0),(5,Sl 2),(6,.pv 3 0),(7,.pv 4 0),(8,In x0)]] [.var [Sl 5,Sl 6],.var [Sl 7,Sl 8],Rw x1,.var [Sl 9,Sl 10],.var [Sl 11,Sl 12],Rw x2,Rww x3,Rw x4,Rww x5,Rw x6,Rww x7,Rw x8,Rww x9]
def aX.L1(k k1 j:Nat)(x0 x1:Int)(x2 x3:LI)(x4:LJ)(x5:LI)(x6:LJ)(x7:LI)(x8:LJ)(x9:LI)(x10:LJ):Option (((LI)×(LJ))×(((LI)×(LJ))×Bool)):=LL k 32 (cC (cC (cB (cC (cA c69))))) j (a8 2 (a8 1 (JK k 32 (cB c69) (LK k 32 c67 k1 (K68 k))))) [frm 61 [(2,.pv 0 0),(3,.pv 1 0),(5,Sl 2),(6,.pv 3 0),(7,.pv 4 0),(8,In x0),(9,In x1)]] [.var [Sl 5,Sl 6],.var [Sl 7,Sl 8],Rw x2,.var [Sl 9,Sl 10],.var [Sl 11,Sl 12],Rw x3,Rww x4,Rw x5,Rww x6,Rw x7,Rww x8,Rw x9,Rww x10]
theorem aX.eq(k:Nat)(a0):aX (k+1) a0=B (bk k a0) fun r0=>T (D.no r0) (some ((([]:LI),([]:LJ)),((([]:LI),([]:LJ)),false))) (B (aD k a0 true) fun r1=>B (aD k a0 false) fun r2=>B (bV k r2) fun r3=>aX.L0 k k 0 r1 ([]:LI) ([]:LJ) ([]:LI) ([]:LJ) r3.1.1 r3.1.2 r3.2.1 r3.2.2):=by kernel_rfl
theorem aX.bp(k j:Nat)(x0 x1 x2 x3 x4 x5 x6 x7 x8 x9):aX.L0 k (j+1) x0 x1 x2 x3 x4 x5 x6 x7 x8 x9=T (D.lt x0 (O (N x9))) (aX.L1 k j k x0 0 x1 x2 x3 x4 x5 x6 x7 x8 x9) (some ((x6,x7),((x8,x9),true))):=(jn _ _).trans (by kernel_rfl)
theorem aX.cO(k k1 j:Nat)(x0 x1 x2 x3 x4 x5 x6 x7 x8 x9 x10):aX.L1 k k1 (j+1) x0 x1 x2 x3 x4 x5 x6 x7 x8 x9 x10=T (D.le 0 x0) (T (U (V x0) (N x10)) (T (U (V x0) (N x10)) (T (U (V x0) (N x10)) (T (D.lt x1 (O (N (E x10 (V x0) [])))) (T (D.le 0 x0) (T (U (V x0) (N x10)) (T (U (V x0) (N x10)) (T (D.le 0 x0) (T (U (V x0) (N x10)) (T (U (V x0) (N x10)) (T (U (V x0) (N x10)) (T (D.le 0 x1) (T (U (V x1) (N (E x10 (V x0) []))) (T (U (V x0) (N x10)) (T (U (V x1) (N (E x10 (V x0) []))) (T (D.le 0 (Z .i64 (M (E (E x10 (V x0) []) (V x1) 0) 1))) (T (U (V (Z .i64 (M (E (E x10 (V x0) []) (V x1) 0) 1))) (N x2)) (T (U (V (Z .i64 (M (E (E x10 (V x0) []) (V x1) 0) 1))) (N x2)) (T (U (V x0) (N x10)) (T (D.le 0 x1) (T (U (V x1) (N (E x10 (V x0) []))) (T (U (V x0) (N x10)) (T (U (V x1) (N (E x10 (V x0) []))) (aX.L1 k k1 j x0 (Z .i64 (A x1 1)) x2 x3 x4 x5 x6 x7 x8 x9 (D.set x10 (V x0) (D.set (E x10 (V x0) []) (V x1) (E x2 (V (Z .i64 (M (E (E x10 (V x0) []) (V x1) 0) 1))) 0)))) none) none) none) none) none) none) none) none) none) none) none) none) none) none) none) none) none) none) none) (aX.L0 k k1 (Z .i64 (A x0 1)) x2 x3 x4 x5 x6 x7 x8 x9 x10)) none) none) none) none:=(jn _ _).trans (by kernel_rfl)
def dI(k:Nat)(x0 x1 x2:Int)(x3:LI):Option (Bool×(PUnit×(Int×Int))):=IO_ k 106 1 0 1 [.var [Sl 1,In 0,In 0],.row Bool.false (.int .u8) []] [[.pv 0 0,In x0],[.pv 0 0,Sl 1]] [.var [Sl 1,In x1,In x2],.row Bool.false (.int .u8) x3]
theorem dI.eq(k:Nat)(x0 x1 x2 x3):dI (k+1) x0 x1 x2 x3=B (bz k x0 x1 x2 x3) fun r0=>some ((D.eq r0.1 0),((),(r0.2.2.1,r0.2.2.2))):=by kernel_rfl
def c70:Code:=cB (cB (cB (b9 P 181)))
def c71:Code:=cC (cC (cB (cA c70)))
def K72(k:Nat):cE (den (resTy P 181)):=a8 0 (JK k 181 (cB c70) (R0 181))
def c73:Code:=cB c71
def cp(k:Nat)(a0 a1:Int):Option LJ:=call k 181 (a0,a1)
def cp.L0(k j:Nat)(x0 x1:Int)(x2:LJ):Option LJ:=LL k 181 c71 j (K72 k) [frm 45 [(0,In x0),(5,Sl 0),(6,In x1)]] [Rww x2]
def cp.L1(k k1 j:Nat)(x0 x1 x2:Int)(x3 x4:LJ):Option LJ:=LL k 181 (cC (cC (cB (cB (cC (cA c73)))))) j (a8 2 (a8 1 (JK k 181 (cB c73) (LK k 181 c71 k1 (K72 k))))) [frm 45 [(0,In x0),(5,Sl 0),(6,In x1),(7,Sl 1),(8,In x2)]] [Rww x3,Rww x4]
theorem cp.eq(k:Nat)(a0 a1):cp (k+1) a0 a1=T (D.eq a0 0) (T (D.leN (N (D.app ([]:LJ) (([]:LI)::([]:LJ)))) 1099511627776) (some (D.app ([]:LJ) (([]:LI)::([]:LJ)))) none) (B (gn k a0 a1) fun r0=>cp.L0 k k a0 r0 ([]:LJ)):=by kernel_rfl
theorem cp.bp(k j:Nat)(x0 x1 x2):cp.L0 k (j+1) x0 x1 x2=T (D.le 1 x1) (B (cp k (Z .i64 (M x0 x1)) x1) fun r1=>cp.L1 k j k x0 x1 0 x2 r1) (some x2):=(jn _ _).trans (by kernel_rfl)
theorem cp.cO(k k1 j:Nat)(x0 x1 x2 x3 x4):cp.L1 k k1 (j+1) x0 x1 x2 x3 x4=T (D.lt x2 (O (N x4))) (T (D.le 0 x2) (T (U (V x2) (N x4)) (T (U (V x2) (N x4)) (T (U (V x2) (N x4)) (T (D.leN (N (D.app (x1::([]:LI)) (E x4 (V x2) []))) 1099511627776) (T (D.leN (N (D.app x3 ((D.app (x1::([]:LI)) (E x4 (V x2) []))::([]:LJ)))) 1099511627776) (cp.L1 k k1 j x0 x1 (Z .i64 (A x2 1)) (D.app x3 ((D.app (x1::([]:LI)) (E x4 (V x2) []))::([]:LJ))) x4) none) none) none) none) none) none) (cp.L0 k k1 x0 (Z .i64 (M x1 1)) x3):=(jn _ _).trans (by kernel_rfl)
def dw(k:Nat)(x0 x1 x2:Int)(x3:LI):Option ((LI)×(PUnit×(Int×Int))):=IO_ k 154 1 0 1 [.var [Sl 1,In 0,In 0],.row Bool.false (.int .u8) []] [[.pv 0 0,In x0],[.pv 0 0,Sl 1]] [.var [Sl 1,In x1,In x2],.row Bool.false (.int .u8) x3]
theorem dw.eq(k:Nat)(x0 x1 x2 x3):dw (k+1) x0 x1 x2 x3=B (bz k (Z .i64 (A x0 1)) x1 x2 x3) fun r0=>B (cp k r0.1 x0) fun r1=>B (bz k (O (N r1)) r0.2.2.1 r0.2.2.2 x3) fun r2=>T (D.le 0 r2.1) (T (U (V r2.1) (N r1)) (T (U (V r2.1) (N r1)) (T (U (V r2.1) (N r1)) (some ((E r1 (V r2.1) []),((),(r2.2.2.1,r2.2.2.2)))) none) none) none) none:=by kernel_rfl
def dD(k:Nat)(a0:LI)(a1:Int):Option Int:=call k 134 (a0,a1)
def dD.J0(k:Nat)(x0:Int)(x1:LI):Option Int:=JJ k 134 (cB (cB (b9 P 134))) (R0 134) [frm 17 [(0,Sl 0),(1,In x0)]] [Ro x1]
theorem dD.eq(k:Nat)(a0 a1):dD (k+1) a0 a1=T (D.lt a1 0) (some 0) (T (D.le (O (N a0)) a1) (some 0) (dD.J0 k a1 a0)):=by kernel_rfl
theorem dD.fT(k:Nat)(x0 x1):dD.J0 k x0 x1=T (D.le 0 x0) (T (U (V x0) (N x1)) (T (U (V x0) (N x1)) (some (E x1 (V x0) 0)) none) none) none:=(jn _ _).trans (by kernel_rfl)
def c74:Code:=cB (cB (b9 P 135))
def bL(k:Nat)(a0:(LI)×(LJ))(a1 a2:Int):Option Int:=call k 135 (a0,a1,a2)
def bL.J0(k:Nat)(x0 x1:Int)(x2:LI)(x3:LJ):Option Int:=JJ k 135 c74 (R0 135) [frm 43 [(1,In x0),(2,In x1),(3,.pv 0 0)]] [.var [Sl 1,Sl 2],Ro x2,Roo x3]
def bL.J1(k:Nat)(x0 x1:Int)(x2:LI)(x3:LJ):Option Int:=JJ k 135 (cB (cB c74)) (R0 135) [frm 43 [(1,In x0),(3,.pv 0 0),(7,In x1)]] [.var [Sl 1,Sl 2],Ro x2,Roo x3]
theorem bL.eq(k:Nat)(a0 a1 a2):bL (k+1) a0 a1 a2=T (D.lt a1 0) (some 0) (T (D.le (O (N a0.2)) a1) (some 0) (bL.J0 k a1 a2 a0.1 a0.2)):=by kernel_rfl
theorem bL.fT(k:Nat)(x0 x1 x2 x3):bL.J0 k x0 x1 x2 x3=B (dD k x2 x0) fun r0=>T (D.lt (Z .i64 (M x1 r0)) 0) (some 0) (T (D.le 0 x0) (T (U (V x0) (N x3)) (T (U (V x0) (N x3)) (T (U (V x0) (N x3)) (T (D.le (O (N (E x3 (V x0) []))) (Z .i64 (M x1 r0))) (some 0) (bL.J1 k x0 (Z .i64 (M x1 r0)) x2 x3)) none) none) none) none):=(jn _ _).trans (by kernel_rfl)
theorem bL.fb(k:Nat)(x0 x1 x2 x3):bL.J1 k x0 x1 x2 x3=T (D.le 0 x0) (T (U (V x0) (N x3)) (T (U (V x0) (N x3)) (T (U (V x0) (N x3)) (T (D.le 0 x1) (T (U (V x1) (N (E x3 (V x0) []))) (T (U (V x0) (N x3)) (T (U (V x1) (N (E x3 (V x0) []))) (some (E (E x3 (V x0) []) (V x1) 0)) none) none) none) none) none) none) none) none:=(jn _ _).trans (by kernel_rfl)
def iu(k:Nat)(a0 a1:Int):Option Int:=call k 160 (a0,a1)
theorem iu.eq(k:Nat)(a0 a1):iu (k+1) a0 a1=T (D.lt a1 a0) (some a0) (some a1):=by kernel_rfl
def jK(k:Nat)(a0:Bool):Option Int:=call k 140 a0
theorem jK.eq(k:Nat)(a0):jK (k+1) a0=T a0 (some 1) (some 0):=by kernel_rfl
def c75:Code:=cB (cB (b9 P 153))
def c76:Code:=cC (cC (cB (cA c75)))
def K77(k:Nat):cE (((LI)×(LJ))×(PUnit×(Int×Int))):=a8 0 (JK k 153 (cB c75) (mK (fC P (qF P 153) (fun z6 z7=>oN P 153 1 0 1 [.var [Sl 3,In 0,In 0],Ro [],Ro [],.row Bool.false (.int .u8) []] z6 z7))))
def c78:Code:=cB c76
def c79:Code:=cB (cB (cC (cA c78)))
def aS(k:Nat)(x0 x1:Int)(x2 x3 x4:LI):Option (((LI)×(LJ))×(PUnit×(Int×Int))):=IO_ k 153 1 0 1 [.var [Sl 3,In 0,In 0],Ro [],Ro [],.row Bool.false (.int .u8) []] [[.pv 0 0,.agg [Sl 1,Sl 2]],frm 4 [(0,.pv 0 0),(1,Sl 1),(2,Sl 2),(3,Sl 3)]] [.var [Sl 3,In x0,In x1],Ro x2,Ro x3,.row Bool.false (.int .u8) x4]
def aS.L0(k j:Nat)(x0 x1 x2:Int)(x3 x4 x5 x6:LI)(x7:LJ)(x8:LI)(x9:LJ):Option (((LI)×(LJ))×(PUnit×(Int×Int))):=LL k 153 c76 j (K77 k) [frm 64 [(0,.pv 0 0),(3,.pv 1 0),(4,.pv 2 0),(5,.pv 3 0),(6,In x0)],frm 4 [(0,.pv 0 0),(1,Sl 4),(2,Sl 5),(3,Sl 6)]] [.var [Sl 6,In x1,In x2],.var [Sl 4,Sl 5],.var [Sl 7,Sl 8],.var [Sl 9,Sl 10],Ro x3,Ro x4,.row Bool.false (.int .u8) x5,Rw x6,Rww x7,Rw x8,Rww x9]
def aS.L1(k k1 j:Nat)(x0 x1 x2 x3 x4:Int)(x5 x6 x7 x8 x9:LI)(x10:LJ)(x11:LI)(x12:LJ):Option (((LI)×(LJ))×(PUnit×(Int×Int))):=LL k 153 (cC (cC (cB (cA c79)))) j (a8 2 (JK k 153 (cB c79) (a8 1 (JK k 153 (cB c78) (LK k 153 c76 k1 (K77 k)))))) [frm 64 [(0,.pv 0 0),(3,.pv 1 0),(4,.pv 2 0),(5,.pv 3 0),(6,In x0),(7,Sl 4),(8,In x1),(9,In x2)],frm 4 [(0,.pv 0 0),(1,Sl 5),(2,Sl 6),(3,Sl 7)]] [.var [Sl 7,In x3,In x4],.var [Sl 5,Sl 6],.var [Sl 8,Sl 9],.var [Sl 10,Sl 11],Rw x5,Ro x6,Ro x7,.row Bool.false (.int .u8) x8,Rw x9,Rww x10,Rw x11,Rww x12]
theorem aS.eq(k:Nat)(x0 x1 x2 x3 x4):aS (k+1) x0 x1 x2 x3 x4=T (D.leN (N (D.app ([]:LI) x3)) 1099511627776) (aS.L0 k k 0 x0 x1 x2 x3 x4 ([]:LI) ([]:LJ) (D.app ([]:LI) x3) ([]:LJ)) none:=by kernel_rfl
theorem aS.bp(k j:Nat)(x0 x1 x2 x3 x4 x5 x6 x7 x8 x9):aS.L0 k (j+1) x0 x1 x2 x3 x4 x5 x6 x7 x8 x9=T (D.lt x0 (O (N x3))) (B (dD k x4 x0) fun r0=>aS.L1 k j k x0 1 r0 x1 x2 ([]:LI) x3 x4 x5 x6 x7 x8 x9) (some ((x8,x9),((),(x1,x2)))):=(jn _ _).trans (by kernel_rfl)
theorem aS.cO(k k1 j:Nat)(x0 x1 x2 x3 x4 x5 x6 x7 x8 x9 x10 x11 x12):aS.L1 k k1 (j+1) x0 x1 x2 x3 x4 x5 x6 x7 x8 x9 x10 x11 x12=T (D.le 0 x0) (T (U (V x0) (N x6)) (T (U (V x0) (N x6)) (T (D.lt x2 (E x6 (V x0) 0)) (B (bL k (x11,x12) (Z .i64 (M x0 1)) x2) fun r1=>B (iu k x1 (Z .i64 (A r1 1))) fun r2=>B (dI k 3 x3 x4 x8) fun r3=>B (jK k r3.1) fun r4=>B (bz k 2 r3.2.2.1 r3.2.2.2 x8) fun r5=>B (gn k (Z .i64 (A r2 (Z .i64 (D.mul r4 r5.1)))) 9) fun r6=>T (D.leN (N (D.app x5 (r6::([]:LI)))) 1099511627776) (aS.L1 k k1 j x0 r6 (Z .i64 (A x2 1)) r5.2.2.1 r5.2.2.2 (D.app x5 (r6::([]:LI))) x6 x7 x8 x9 x10 x11 x12) none) (T (D.leN (N (D.app x12 (x5::([]:LJ)))) 1099511627776) (aS.L0 k k1 (Z .i64 (A x0 1)) x3 x4 x6 x7 x8 x9 x10 x11 (D.app x12 (x5::([]:LJ)))) none)) none) none) none:=(jn _ _).trans (by kernel_rfl)
def c80:Code:=cB (cB (b9 P 144))
def c81:Code:=cC (cC (cB (cA c80)))
def K82(k:Nat):cE (den (resTy P 144)):=a8 0 (JK k 144 (cB c80) (R0 144))
def c83:Code:=cB c81
def bg(k:Nat)(a0:LI):Option Bool:=call k 144 a0
def bg.L0(k j:Nat)(x0 x1:Int)(x2:LI):Option Bool:=LL k 144 c81 j (K82 k) [frm 41 [(0,Sl 0),(3,In x0),(4,In x1)]] [Ro x2]
def bg.J1(k k1:Nat)(x0 x1:Int)(x2:LI):Option Bool:=JJ k 144 (cB (cC (cA c83))) (a8 1 (JK k 144 (cB c83) (LK k 144 c81 k1 (K82 k)))) [frm 41 [(0,Sl 0),(3,In x0),(4,In x1)]] [Ro x2]
theorem bg.eq(k:Nat)(a0):bg (k+1) a0=bg.L0 k k 0 0 a0:=by kernel_rfl
theorem bg.bp(k j:Nat)(x0 x1 x2):bg.L0 k (j+1) x0 x1 x2=T (D.lt x1 (O (N x2))) (T (D.le 0 x1) (T (U (V x1) (N x2)) (T (U (V x1) (N x2)) (B (fg k (E x2 (V x1) 0) 1 9) fun r0=>T (D.no r0) (some false) (T (D.lt 0 x1) (T (D.le 0 x1) (T (U (V x1) (N x2)) (T (U (V x1) (N x2)) (T (D.le 0 (Z .i64 (M x1 1))) (T (U (V (Z .i64 (M x1 1))) (N x2)) (T (U (V (Z .i64 (M x1 1))) (N x2)) (T (D.lt (E x2 (V (Z .i64 (M x1 1))) 0) (E x2 (V x1) 0)) (some false) (bg.J1 k j x0 x1 x2)) none) none) none) none) none) none) (bg.J1 k j x0 x1 x2))) none) none) none) (some true):=(jn _ _).trans (by kernel_rfl)
theorem bg.fb(k k1:Nat)(x0 x1 x2):bg.J1 k k1 x0 x1 x2=T (D.le 0 x1) (T (U (V x1) (N x2)) (T (U (V x1) (N x2)) (T (D.lt 9 (Z .i64 (A x0 (E x2 (V x1) 0)))) (some false) (bg.L0 k k1 (Z .i64 (A x0 (E x2 (V x1) 0))) (Z .i64 (A x1 1)) x2)) none) none) none:=(jn _ _).trans (by kernel_rfl)
def c84:Code:=cB (cB (b9 P 178))
def b7(k:Nat)(a0 a1:LI):Option Bool:=call k 178 (a0,a1)
def b7.J0(k:Nat)(x0 x1:LI):Option Bool:=JJ k 178 c84 (R0 178) [frm 36 [(0,Sl 0),(1,Sl 1)]] [Ro x0,Ro x1]
def b7.L1(k j:Nat)(x0:Int)(x1 x2:LI):Option Bool:=LL k 178 (cC (cC (cB (cA c84)))) j (a8 0 (JK k 178 (cB c84) (R0 178))) [frm 36 [(0,Sl 0),(1,Sl 1),(5,In x0)]] [Ro x1,Ro x2]
theorem b7.eq(k:Nat)(a0 a1):b7 (k+1) a0 a1=B (bg k a0) fun r0=>T (D.no r0) (some false) (B (bg k a1) fun r1=>T (D.no r1) (some false) (T (D.lt (O (N a1)) (O (N a0))) (some false) (b7.J0 k a0 a1))):=by kernel_rfl
theorem b7.fT(k:Nat)(x0 x1):b7.J0 k x0 x1=b7.L1 k k 0 x0 x1:=(jn _ _).trans (by kernel_rfl)
theorem b7.cO(k j:Nat)(x0 x1 x2):b7.L1 k (j+1) x0 x1 x2=T (D.lt x0 (O (N x1))) (T (D.le 0 x0) (T (U (V x0) (N x1)) (T (U (V x0) (N x1)) (T (D.le 0 x0) (T (U (V x0) (N x2)) (T (U (V x0) (N x2)) (T (D.lt (E x2 (V x0) 0) (E x1 (V x0) 0)) (some false) (b7.L1 k j (Z .i64 (A x0 1)) x1 x2)) none) none) none) none) none) none) (some true):=(jn _ _).trans (by kernel_rfl)
def iq(k:Nat)(a0:(LI)×(LI)):Option Bool:=call k 147 a0
theorem iq.eq(k:Nat)(a0):iq (k+1) a0=B (b7 k a0.2 a0.1) fun r0=>some r0:=by kernel_rfl
def c85:Code:=cB (cB (cB (b9 P 87)))
def bG(k:Nat)(a0:(LI)×(LJ)):Option (((LI)×(LI))×Bool):=call k 87 a0
def bG.J0(k:Nat)(x0:LI)(x1:LJ)(x2 x3 x4 x5:LI):Option (((LI)×(LI))×Bool):=JJ k 87 c85 (R0 87) [frm 59 [(1,.pv 0 0),(2,.pv 1 0),(4,.pv 2 0)]] [.var [Sl 3,Sl 4],.var [Sl 5,Sl 6],.var [Sl 7,Sl 8],Ro x0,Roo x1,Rw x2,Rw x3,Rw x4,Rw x5]
def bG.L1(k j:Nat)(x0:Int)(x1:LI)(x2:LJ)(x3 x4 x5 x6:LI):Option (((LI)×(LI))×Bool):=LL k 87 (cC (cC (cB (cA c85)))) j (a8 0 (JK k 87 (cB c85) (R0 87))) [frm 59 [(1,.pv 0 0),(2,.pv 1 0),(4,.pv 2 0),(5,In x0)]] [.var [Sl 3,Sl 4],.var [Sl 5,Sl 6],.var [Sl 7,Sl 8],Ro x1,Roo x2,Rw x3,Rw x4,Rw x5,Rw x6]
theorem bG.eq(k:Nat)(a0):bG (k+1) a0=T (D.leN (N (D.app ([]:LI) a0.1)) 1099511627776) (B (bg k a0.1) fun r0=>T (D.no r0) (some ((([]:LI),([]:LI)),false)) (T (D.lt (O (N a0.2)) (O (N a0.1))) (some ((([]:LI),([]:LI)),false)) (T (D.lt 9 (O (N a0.2))) (some ((([]:LI),([]:LI)),false)) (bG.J0 k a0.1 a0.2 ([]:LI) ([]:LI) ([]:LI) (D.app ([]:LI) a0.1))))) none:=by kernel_rfl
theorem bG.fT(k:Nat)(x0 x1 x2 x3 x4 x5):bG.J0 k x0 x1 x2 x3 x4 x5=bG.L1 k k 0 x0 x1 x2 x3 x4 x5:=(jn _ _).trans (by kernel_rfl)
theorem bG.cO(k j:Nat)(x0 x1 x2 x3 x4 x5 x6):bG.L1 k (j+1) x0 x1 x2 x3 x4 x5 x6=T (D.lt x0 (O (N x2))) (B (dD k x1 x0) fun r1=>T (D.le 0 x0) (T (U (V x0) (N x2)) (T (U (V x0) (N x2)) (T (U (V x0) (N x2)) (T (D.leN (N (D.app x5 ((Z .i64 (A r1 (O (N (E x2 (V x0) [])))))::([]:LI)))) 1099511627776) (bG.L1 k j (Z .i64 (A x0 1)) x1 x2 x3 x4 (D.app x5 ((Z .i64 (A r1 (O (N (E x2 (V x0) [])))))::([]:LI))) x6) none) none) none) none) none) (B (iq k (x5,x6)) fun r2=>T (D.no r2) (some ((([]:LI),([]:LI)),false)) (some ((x5,x6),true))):=(jn _ _).trans (by kernel_rfl)
def c86:Code:=cB (cB (cB (b9 P 61)))
def c87:Code:=cC (cC (cB (cA c86)))
def K88(k:Nat):cE (den (resTy P 61)):=a8 0 (JK k 61 (cB c86) (R0 61))
def c89:Code:=cB c87
def c90:Code:=cC (cC (cB (cC (cA c89))))
def K91(k k1:Nat):cE (den (resTy P 61)):=a8 2 (a8 1 (JK k 61 (cB c89) (LK k 61 c87 k1 (K88 k))))
def c92:Code:=cB c90
def c93:Code:=cB c92
def K94(k k1 k2:Nat):cE (den (resTy P 61)):=LK k 61 c90 k2 (K91 k k1)
def aE(k:Nat)(a0:(LI)×(LJ)):Option Bool:=call k 61 a0
def aE.L0(k j:Nat)(x0:Int)(x1:LI)(x2:LJ)(x3 x4:LI):Option Bool:=LL k 61 c87 j (K88 k) [frm 64 [(1,.pv 0 0),(3,.pv 1 0),(5,In x0)]] [.var [Sl 2,Sl 3],.var [Sl 4,Sl 5],Ro x1,Roo x2,Rw x3,Rw x4]
def aE.L1(k k1 j:Nat)(x0 x1:Int)(x2:LI)(x3:LJ)(x4 x5:LI):Option Bool:=LL k 61 c90 j (K91 k k1) [frm 64 [(1,.pv 0 0),(3,.pv 1 0),(5,In x0),(6,In x1)]] [.var [Sl 2,Sl 3],.var [Sl 4,Sl 5],Ro x2,Roo x3,Rw x4,Rw x5]
def aE.J2(k k1 k2:Nat)(x0 x1 x2 x3:Int)(x4:LI)(x5:LJ)(x6 x7:LI):Option Bool:=JJ k 61 (cB (cB (cB (cC (cA c92))))) (a8 3 (JK k 61 c93 (K94 k k1 k2))) [frm 64 [(1,.pv 0 0),(3,.pv 1 0),(5,In x0),(6,In x1),(7,In x2),(8,In x3)]] [.var [Sl 2,Sl 3],.var [Sl 4,Sl 5],Ro x4,Roo x5,Rw x6,Rw x7]
def aE.J3(k k1 k2:Nat)(x0 x1:Int)(x2:LI)(x3:LJ)(x4 x5:LI):Option Bool:=JJ k 61 c93 (K94 k k1 k2) [frm 64 [(1,.pv 0 0),(3,.pv 1 0),(5,In x0),(6,In x1)]] [.var [Sl 2,Sl 3],.var [Sl 4,Sl 5],Ro x2,Roo x3,Rw x4,Rw x5]
theorem aE.eq(k:Nat)(a0):aE (k+1) a0=B (bG k (a0.1,a0.2)) fun r0=>T (D.no r0.2) (some false) (aE.L0 k k 0 a0.1 a0.2 r0.1.1 r0.1.2):=by kernel_rfl
theorem aE.bp(k j:Nat)(x0 x1 x2 x3 x4):aE.L0 k (j+1) x0 x1 x2 x3 x4=T (D.lt x0 (O (N x3))) (B (dD k x4 x0) fun r1=>aE.L1 k j k x0 r1 x1 x2 x3 x4) (some true):=(jn _ _).trans (by kernel_rfl)
theorem aE.cO(k k1 j:Nat)(x0 x1 x2 x3 x4 x5):aE.L1 k k1 (j+1) x0 x1 x2 x3 x4 x5=T (D.le 0 x0) (T (U (V x0) (N x4)) (T (U (V x0) (N x4)) (T (D.lt x1 (E x4 (V x0) 0)) (B (bL k (x2,x3) x0 x1) fun r2=>T (D.lt 0 x1) (B (bL k (x2,x3) x0 (Z .i64 (M x1 1))) fun r3=>aE.J2 k k1 j x0 x1 r2 r3 x2 x3 x4 x5) (aE.J2 k k1 j x0 x1 r2 0 x2 x3 x4 x5)) (aE.L0 k k1 (Z .i64 (A x0 1)) x2 x3 x4 x5)) none) none) none:=(jn _ _).trans (by kernel_rfl)
theorem aE.kx(k k1 k2:Nat)(x0 x1 x2 x3 x4 x5 x6 x7):aE.J2 k k1 k2 x0 x1 x2 x3 x4 x5 x6 x7=B (fg k x2 1 9) fun r4=>T (D.no r4) (some false) (T (D.lt x2 x3) (some false) (B (bL k (x4,x5) (Z .i64 (M x0 1)) x1) fun r5=>T (D.le x2 r5) (some false) (aE.J3 k k1 k2 x0 x1 x4 x5 x6 x7))):=(jn _ _).trans (by kernel_rfl)
theorem aE.sC(k k1 k2:Nat)(x0 x1 x2 x3 x4 x5):aE.J3 k k1 k2 x0 x1 x2 x3 x4 x5=aE.L1 k k1 k2 x0 (Z .i64 (A x1 1)) x2 x3 x4 x5:=(jn _ _).trans (by kernel_rfl)
def eA(k:Nat)(x0 x1 x2:Int)(x3:LI):Option (((LI)×(LJ))×(PUnit×(Int×Int))):=IO_ k 107 1 0 1 [.var [Sl 1,In 0,In 0],.row Bool.false (.int .u8) []] [[.pv 0 0,In x0],[.pv 0 0,Sl 1]] [.var [Sl 1,In x1,In x2],.row Bool.false (.int .u8) x3]
theorem eA.eq(k:Nat)(x0 x1 x2 x3):eA (k+1) x0 x1 x2 x3=B (dw k x0 x1 x2 x3) fun r0=>B (aS k r0.2.2.1 r0.2.2.2 r0.1 ([]:LI) x3) fun r1=>B (aE k (r1.1.1,r1.1.2)) fun r2=>T (D.no r2) (some ((([]:LI),((1::(2::(2::([]:LI))))::((3::([]:LI))::([]:LJ)))),((),(r1.2.2.1,r1.2.2.2)))) (some ((r1.1.1,r1.1.2),((),(r1.2.2.1,r1.2.2.2)))):=by kernel_rfl
def c95:Code:=cB (cB (b9 P 92))
def c96:Code:=cC (cC (cB (cA c95)))
def c97:Code:=cB c95
def c98:Code:=cB (b9 P 33)
def c99:Code:=cA c98
def IU:Code:=cB c98
def H3(k:Nat):cE (den (resTy P 33)):=mK (fC P (qF P 92) (fun z6 z7=>St.force (St.put z7 (Go.Oper.dst (u3 (Code.ops c99) 1)) (oP z6)) ((fun z8 z9=>gX (Code.ops c99) 1 (u3 (Code.ops c99) 1) z9 ((fun z10 z11=>eM P cfg (lS P cfg ext (k+1)) Option.none (Code.ops c99) [2] (trN 2) z11 (fun z12 z13=>JK (k+1) 33 IU (R0 33) .normal z13)) z8)) (Touch.mk [] [] [] Bool.true))))
def Im(k:Nat):cE (den (resTy P 33)):=a8 0 (JK k 92 c97 (H3 k))
def au(k:Nat)(a0:LI):Option (((LI)×(LJ))×(((LI)×(LJ))×(Int×Int))):=call k 33 a0
def au.L0(k j:Nat)(x0 x1 x2 x3:Int)(x4 x5:LI)(x6:LJ)(x7:LI)(x8:LJ):Option (((LI)×(LJ))×(((LI)×(LJ))×(Int×Int))):=LL k 92 c96 j (Im k) [frm 32 [(0,Sl 0),(3,In x0),(4,In x1)],frm 33 [(0,Sl 0),(1,.tup []),(2,.pv 1 0),(3,.pv 2 0),(4,In x2),(5,In x3),(6,.tup []),(7,.tup []),(8,.tup []),(9,.tup []),(10,.tup []),(11,Sl 0),(12,.tup []),(13,.tup []),(14,.tup []),(15,.tup []),(16,.tup []),(17,.tup []),(18,.tup []),(19,.tup []),(20,.tup []),(21,.tup []),(22,.tup []),(23,.tup []),(24,.tup []),(25,.tup []),(26,.tup []),(27,.tup []),(28,.tup []),(29,.tup []),(30,.tup []),(31,.tup []),(32,.tup [])]] [.row Bool.false (.int .u8) x4,.var [Sl 3,Sl 4],.var [Sl 5,Sl 6],Rw x5,Rww x6,Rw x7,Rww x8]
def au.J1(k k1:Nat)(x0 x1 x2 x3:Int)(x4 x5:LI)(x6:LJ)(x7:LI)(x8:LJ):Option (((LI)×(LJ))×(((LI)×(LJ))×(Int×Int))):=JJ k 92 (cB c96) (LK k 92 c96 k1 (Im k)) [frm 32 [(0,Sl 0),(3,In x0),(4,In x1)],frm 33 [(0,Sl 0),(1,.tup []),(2,.pv 1 0),(3,.pv 2 0),(4,In x2),(5,In x3),(6,.tup []),(7,.tup []),(8,.tup []),(9,.tup []),(10,.tup []),(11,Sl 0),(12,.tup []),(13,.tup []),(14,.tup []),(15,.tup []),(16,.tup []),(17,.tup []),(18,.tup []),(19,.tup []),(20,.tup []),(21,.tup []),(22,.tup []),(23,.tup []),(24,.tup []),(25,.tup []),(26,.tup []),(27,.tup []),(28,.tup []),(29,.tup []),(30,.tup []),(31,.tup []),(32,.tup [])]] [.row Bool.false (.int .u8) x4,.var [Sl 3,Sl 4],.var [Sl 5,Sl 6],Rw x5,Rww x6,Rw x7,Rww x8]
def au.J2(k:Nat)(x0 x1 x2:Int)(x3 x4:LI)(x5:LJ)(x6:LI)(x7:LJ):Option (((LI)×(LJ))×(((LI)×(LJ))×(Int×Int))):=JJ k 92 c97 (H3 k) [frm 32 [(0,Sl 0),(3,In x0)],frm 33 [(0,Sl 0),(1,.tup []),(2,.pv 1 0),(3,.pv 2 0),(4,In x1),(5,In x2),(6,.tup []),(7,.tup []),(8,.tup []),(9,.tup []),(10,.tup []),(11,Sl 0),(12,.tup []),(13,.tup []),(14,.tup []),(15,.tup []),(16,.tup []),(17,.tup []),(18,.tup []),(19,.tup []),(20,.tup []),(21,.tup []),(22,.tup []),(23,.tup []),(24,.tup []),(25,.tup []),(26,.tup []),(27,.tup []),(28,.tup []),(29,.tup []),(30,.tup []),(31,.tup []),(32,.tup [])]] [.row Bool.false (.int .u8) x3,.var [Sl 3,Sl 4],.var [Sl 5,Sl 6],Rw x4,Rww x5,Rw x6,Rww x7]
def au.J3(k:Nat)(x0 x1:Int)(x2:LI)(x3:LJ)(x4:LI)(x5:LJ)(x6 x7:LI)(x8:LJ)(x9:LI)(x10:LJ):Option (((LI)×(LJ))×(((LI)×(LJ))×(Int×Int))):=JJ (k+1) 33 (cB (cB IU)) (R0 33) [frm 33 [(2,.pv 0 0),(3,.pv 1 0),(6,.pv 2 0),(7,.pv 3 0),(8,.pv 4 0)]] [.var [Sl 5,Sl 6],.var [Sl 7,Sl 8],.var [Sl 9,In x0,In x1],.var [Sl 10,Sl 11],.var [Sl 12,Sl 13],Rw x2,Rww x3,Rw x4,Rww x5,.row Bool.false (.int .u8) x6,Rw x7,Rww x8,Rw x9,Rww x10]
theorem au.eq(k:Nat)(a0):au (k+2) a0=au.L0 k k (Z .i64 (A 26583 (O (N a0)))) 0 0 0 a0 ([]:LI) ([]:LJ) ([]:LI) ([]:LJ):=by kernel_rfl
theorem au.bp(k j:Nat)(x0 x1 x2 x3 x4 x5 x6 x7 x8):au.L0 k (j+1) x0 x1 x2 x3 x4 x5 x6 x7 x8=T (D.lt x1 (O (N x4))) (T (D.lt x1 4000) (au.J1 k j x0 x1 x2 x3 x4 x5 x6 x7 x8) (au.J2 k x0 x2 x3 x4 x5 x6 x7 x8)) (au.J2 k x0 x2 x3 x4 x5 x6 x7 x8):=(jn _ _).trans (by kernel_rfl)
theorem au.fb(k k1:Nat)(x0 x1 x2 x3 x4 x5 x6 x7 x8):au.J1 k k1 x0 x1 x2 x3 x4 x5 x6 x7 x8=T (D.le 0 x1) (T (U (V x1) (N x4)) (T (U (V x1) (N x4)) (au.L0 k k1 (D.andI .i64 (Z .i64 (A (Z .i64 (A (Z .i64 (D.mul x0 131)) (Z .i64 (E x4 (V x1) 0)))) 7)) 1073741823) (Z .i64 (A x1 1)) x2 x3 x4 x5 x6 x7 x8) none) none) none:=(jn _ _).trans (by kernel_rfl)
theorem au.kx(k:Nat)(x0 x1 x2 x3 x4 x5 x6 x7):au.J2 k x0 x1 x2 x3 x4 x5 x6 x7=B (aN (k+1) 0 x0 x3) fun r0=>B (aX (k+1) r0.1) fun r1=>B (dI (k+1) 8 r0.2.2.1 r0.2.2.2 x3) fun r2=>T r2.1 (B (eA (k+1) 6 r2.2.2.1 r2.2.2.2 x3) fun r3=>au.J3 k r3.2.2.1 r3.2.2.2 x4 x5 x6 x7 x3 r1.1.1 r1.1.2 r3.1.1 r3.1.2) (au.J3 k r2.2.2.1 r2.2.2.2 x4 x5 x6 x7 x3 r1.1.1 r1.1.2 r1.2.1.1 r1.2.1.2):=(jn _ _).trans (by kernel_rfl)
theorem au.sC(k:Nat)(x0 x1 x2 x3 x4 x5 x6 x7 x8 x9 x10):au.J3 k x0 x1 x2 x3 x4 x5 x6 x7 x8 x9 x10=B (cf (k+1) x0 x1 (4::(5::(9::(2::(0::(10::([]:LI))))))) x6) fun r4=>B (cf (k+1) r4.2.2.1 r4.2.2.2 (4::(5::(9::(2::(0::(10::([]:LI))))))) x6) fun r5=>some ((x7,x8),((x9,x10),(r4.1,r5.1))):=(jn _ _).trans (by kernel_rfl)
def Ii:Code:=cB (cB (b9 P 142))
def He:Code:=cC (cC (cB (cA Ii)))
def Jf(k:Nat):cE (den (resTy P 142)):=a8 0 (JK k 142 (cB Ii) (R0 142))
def Jd:Code:=cB (cB He)
def bh(k:Nat)(a0:LI):Option Bool:=call k 142 a0
def bh.L0(k j:Nat)(x0 x1 x2:Int)(x3:LI):Option Bool:=LL k 142 He j (Jf k) [frm 35 [(0,Sl 0),(3,In x0),(6,Sl 0),(7,In x1),(8,In x2)]] [Ro x3]
def bh.J1(k k1:Nat)(x0 x1 x2 x3:Int)(x4:LI):Option Bool:=JJ k 142 (cB (cB (cC (cA Jd)))) (a8 1 (JK k 142 (cB Jd) (LK k 142 He k1 (Jf k)))) [frm 35 [(0,Sl 0),(3,In x0),(5,In x1),(6,Sl 0),(7,In x2),(8,In x3)]] [Ro x4]
theorem bh.eq(k:Nat)(a0):bh (k+1) a0=bh.L0 k k 0 (O (N a0)) 0 a0:=by kernel_rfl
theorem bh.bp(k j:Nat)(x0 x1 x2 x3):bh.L0 k (j+1) x0 x1 x2 x3=T (D.lt x2 x1) (T (D.le 0 x2) (T (U (V x2) (N x3)) (T (U (V x2) (N x3)) (B (cW k (E x3 (V x2) 0) 1 9) fun r0=>T (D.no r0) (some false) (T (D.lt 0 x2) (T (D.le 0 (Z .i64 (M x2 1))) (T (U (V (Z .i64 (M x2 1))) (N x3)) (T (U (V (Z .i64 (M x2 1))) (N x3)) (T (D.lt (E x3 (V (Z .i64 (M x2 1))) 0) (E x3 (V x2) 0)) (some false) (bh.J1 k j x0 (E x3 (V x2) 0) x1 x2 x3)) none) none) none) (bh.J1 k j x0 (E x3 (V x2) 0) x1 x2 x3))) none) none) none) (some true):=(jn _ _).trans (by kernel_rfl)
theorem bh.fb(k k1:Nat)(x0 x1 x2 x3 x4):bh.J1 k k1 x0 x1 x2 x3 x4=T (D.lt 9 (Z .i64 (A x0 x1))) (some false) (bh.L0 k k1 (Z .i64 (A x0 x1)) x2 (Z .i64 (A x3 1)) x4):=(jn _ _).trans (by kernel_rfl)
def cr(k:Nat)(a0:LI):Option LI:=call k 137 a0
theorem cr.eq(k:Nat)(a0):cr (k+1) a0=T (D.eqN (N a0) 0) (D.both (some ([]:LI)) (T (D.leN (N (D.app ([]:LI) a0)) 1099511627776) (some (D.app ([]:LI) a0)) none)) (T (D.leN (N (D.app ([]:LI) a0)) 1099511627776) (some (D.app ([]:LI) a0)) none):=by kernel_rfl
def iv(k:Nat)(a0:LI)(a1:Int):Option Int:=call k 99 (a0,a1)
theorem iv.eq(k:Nat)(a0 a1):iv (k+1) a0 a1=B (cW k a1 0 (Z .i64 (M (O (N a0)) 1))) fun r0=>T (D.no r0) (some 0) (T (D.le 0 a1) (T (U (V a1) (N a0)) (T (U (V a1) (N a0)) (some (E a0 (V a1) 0)) none) none) none):=by kernel_rfl
def Hg:Code:=cB (cB (b9 P 177))
def b8(k:Nat)(a0 a1:LI):Option Bool:=call k 177 (a0,a1)
def b8.J0(k:Nat)(x0 x1:LI):Option Bool:=JJ k 177 Hg (R0 177) [frm 28 [(0,Sl 0),(1,Sl 1)]] [Ro x0,Ro x1]
def b8.L1(k j:Nat)(x0 x1:Int)(x2 x3:LI):Option Bool:=LL k 177 (cC (cC (cB (cA Hg)))) j (a8 0 (JK k 177 (cB Hg) (R0 177))) [frm 28 [(1,Sl 0),(15,Sl 1),(16,In x0),(17,In x1)]] [Ro x2,Ro x3]
theorem b8.eq(k:Nat)(a0 a1):b8 (k+1) a0 a1=B (bh k a0) fun r0=>T (D.no r0) (some false) (B (bh k a1) fun r1=>T (D.no r1) (some false) (b8.J0 k a0 a1)):=by kernel_rfl
theorem b8.fT(k:Nat)(x0 x1):b8.J0 k x0 x1=b8.L1 k k (O (N x0)) 0 x1 x0:=(jn _ _).trans (by kernel_rfl)
theorem b8.cO(k j:Nat)(x0 x1 x2 x3):b8.L1 k (j+1) x0 x1 x2 x3=T (D.lt x1 x0) (T (D.le 0 x1) (T (U (V x1) (N x3)) (T (U (V x1) (N x3)) (B (iv k x2 x1) fun r2=>T (D.lt r2 (E x3 (V x1) 0)) (some false) (b8.L1 k j x0 (Z .i64 (A x1 1)) x2 x3)) none) none) none) (some true):=(jn _ _).trans (by kernel_rfl)
def im(k:Nat)(a0:(LI)×(LI)):Option Bool:=call k 146 a0
theorem im.eq(k:Nat)(a0):im (k+1) a0=B (b8 k a0.2 a0.1) fun r0=>some r0:=by kernel_rfl
def Jr:Code:=cB (cB (b9 P 85))
def IA:Code:=cB Jr
def bR(k:Nat)(a0:(LI)×(LJ)):Option (((LI)×(LI))×Bool):=call k 85 a0
def bR.J0(k:Nat)(x0:LI)(x1:LJ)(x2 x3:LI):Option (((LI)×(LI))×Bool):=JJ k 85 Jr (R0 85) [frm 51 [(1,.pv 0 0),(2,.pv 1 0)]] [.var [Sl 2,Sl 3],.var [Sl 4,Sl 5],Ro x0,Roo x1,Rw x2,Rw x3]
def bR.L1(k j:Nat)(x0 x1:Int)(x2:LJ)(x3 x4 x5 x6 x7:LI):Option (((LI)×(LI))×Bool):=LL k 85 (cC (cC (cB (cA IA)))) j (a8 0 (JK k 85 (cB IA) (R0 85))) [frm 51 [(1,.pv 0 0),(2,.pv 1 0),(4,.pv 2 0),(26,Sl 3),(27,In x0),(28,In x1)]] [.var [Sl 4,Sl 3],.var [Sl 5,Sl 6],.var [Sl 7,Sl 8],Roo x2,Ro x3,Rw x4,Rw x5,Rw x6,Rw x7]
theorem bR.eq(k:Nat)(a0):bR (k+1) a0=B (bh k a0.1) fun r0=>T (D.no r0) (some ((([]:LI),([]:LI)),false)) (T (D.lt (O (N a0.2)) (O (N a0.1))) (some ((([]:LI),([]:LI)),false)) (bR.J0 k a0.1 a0.2 ([]:LI) ([]:LI))):=by kernel_rfl
theorem bR.fT(k:Nat)(x0 x1 x2 x3):bR.J0 k x0 x1 x2 x3=B (cr k x0) fun r1=>bR.L1 k k (O (N x1)) 0 x1 x0 x2 x3 ([]:LI) r1:=(jn _ _).trans (by kernel_rfl)
theorem bR.cO(k j:Nat)(x0 x1 x2 x3 x4 x5 x6 x7):bR.L1 k (j+1) x0 x1 x2 x3 x4 x5 x6 x7=T (D.lt x1 x0) (T (D.le 0 x1) (T (U (V x1) (N x2)) (T (U (V x1) (N x2)) (B (iv k x3 x1) fun r2=>T (U (V x1) (N x2)) (T (D.leN (N (D.app x6 ((Z .i64 (A r2 (O (N (E x2 (V x1) [])))))::([]:LI)))) 1099511627776) (bR.L1 k j x0 (Z .i64 (A x1 1)) x2 x3 x4 x5 (D.app x6 ((Z .i64 (A r2 (O (N (E x2 (V x1) [])))))::([]:LI))) x7) none) none) none) none) none) (B (im k (x6,x7)) fun r3=>T (D.no r3) (some ((([]:LI),([]:LI)),false)) (some ((x6,x7),true))):=(jn _ _).trans (by kernel_rfl)
def dK(k:Nat)(a0:(LI)×(LJ))(a1 a2:Int):Option Int:=call k 98 (a0,a1,a2)
theorem dK.eq(k:Nat)(a0 a1 a2):dK (k+1) a0 a1 a2=B (cW k a1 0 (Z .i64 (M (O (N a0.2)) 1))) fun r0=>T (D.no r0) (some 0) (T (D.le 0 a1) (T (U (V a1) (N a0.2)) (T (U (V a1) (N a0.2)) (B (iv k a0.1 a1) fun r1=>T (U (V a1) (N a0.2)) (B (iv k (E a0.2 (V a1) []) (Z .i64 (M a2 r1))) fun r2=>some r2) none) none) none) none):=by kernel_rfl
def IE:Code:=cB (cB (b9 P 27))
def G8:Code:=cC (cC (cB (cA IE)))
def Jn(k:Nat):cE (den (resTy P 27)):=a8 0 (JK k 27 (cB IE) (R0 27))
def IV:Code:=cB (cB G8)
def Hc:Code:=cC (cC (cB (cB (cC (cA IV)))))
def Jq(k k1:Nat):cE (den (resTy P 27)):=a8 2 (a8 1 (JK k 27 (cB IV) (LK k 27 G8 k1 (Jn k))))
def aK(k:Nat)(a0:(LI)×(LJ)):Option Bool:=call k 27 a0
def aK.L0(k j:Nat)(x0 x1:Int)(x2:LJ)(x3:LI):Option Bool:=LL k 27 G8 j (Jn k) [frm 67 [(1,.pv 0 0),(17,Sl 1),(18,In x0),(19,In x1)]] [.var [Sl 2,Sl 1],Roo x2,Ro x3]
def aK.L1(k k1 j:Nat)(x0:Int)(x1:Nat)(x2 x3:Int)(x4:Nat)(x5 x6:Int)(x7:LJ)(x8:LI):Option Bool:=LL k 27 Hc j (Jq k k1) [frm 67 [(1,.pv 0 0),(5,In x0),(6,.sl 1 [(x1,0)] Option.none),(17,Sl 1),(18,In x2),(19,In x3),(24,.sl 1 [(x4,0)] Option.none),(25,In x5),(26,In x6)]] [.var [Sl 2,Sl 1],Roo x7,Ro x8]
def aK.J2(k k1 k2:Nat)(x0:Int)(x1:Nat)(x2 x3:Int)(x4:Nat)(x5 x6:Int)(x7:LJ)(x8:LI):Option Bool:=JJ k 27 (cB (cB (cB Hc))) (LK k 27 Hc k2 (Jq k k1)) [frm 67 [(1,.pv 0 0),(5,In x0),(6,.sl 1 [(x1,0)] Option.none),(17,Sl 1),(18,In x2),(19,In x3),(24,.sl 1 [(x4,0)] Option.none),(25,In x5),(26,In x6)]] [.var [Sl 2,Sl 1],Roo x7,Ro x8]
theorem aK.eq(k:Nat)(a0):aK (k+1) a0=B (bR k (a0.1,a0.2)) fun r0=>T (D.no r0.2) (some false) (aK.L0 k k (O (N a0.2)) 0 a0.2 a0.1):=by kernel_rfl
theorem aK.bp(k j:Nat)(x0 x1 x2 x3):aK.L0 k (j+1) x0 x1 x2 x3=T (D.lt x1 x0) (T (D.le 0 x1) (T (U (V x1) (N x2)) (T (U (V x1) (N x2)) (T (U (V x1) (N x2)) (aK.L1 k j k x1 (V x1) x0 x1 (V x1) (O (N (E x2 (V x1) []))) 0 x2 x3) none) none) none) none) (some true):=(jn _ _).trans (by kernel_rfl)
theorem aK.cO(k k1 j:Nat)(x0 x1 x2 x3 x4 x5 x6 x7 x8):aK.L1 k k1 (j+1) x0 x1 x2 x3 x4 x5 x6 x7 x8=T (D.lt x6 x5) (T (U x4 (N x7)) (T (D.le 0 x6) (T (U (V x6) (N (E x7 x4 []))) (T (U x4 (N x7)) (T (U (V x6) (N (E x7 x4 []))) (B (cW k (E (E x7 x4 []) (V x6) 0) 1 9) fun r1=>T (D.no r1) (some false) (T (D.lt 0 x6) (T (U x1 (N x7)) (T (D.le 0 (Z .i64 (M x6 1))) (T (U (V (Z .i64 (M x6 1))) (N (E x7 x1 []))) (T (U x1 (N x7)) (T (U (V (Z .i64 (M x6 1))) (N (E x7 x1 []))) (T (D.lt (E (E x7 x4 []) (V x6) 0) (E (E x7 x1 []) (V (Z .i64 (M x6 1))) 0)) (some false) (T (D.lt 0 x0) (B (iv k x8 x0) fun r2=>B (dK k (x8,x7) (Z .i64 (M x0 1)) (Z .i64 (A r2 x6))) fun r3=>T (D.le (E (E x7 x4 []) (V x6) 0) r3) (some false) (aK.J2 k k1 j x0 x1 x2 x3 x4 x5 x6 x7 x8)) (aK.J2 k k1 j x0 x1 x2 x3 x4 x5 x6 x7 x8))) none) none) none) none) none) (T (D.lt 0 x0) (B (iv k x8 x0) fun r4=>B (dK k (x8,x7) (Z .i64 (M x0 1)) (Z .i64 (A r4 x6))) fun r5=>T (D.le (E (E x7 x4 []) (V x6) 0) r5) (some false) (aK.J2 k k1 j x0 x1 x2 x3 x4 x5 x6 x7 x8)) (aK.J2 k k1 j x0 x1 x2 x3 x4 x5 x6 x7 x8)))) none) none) none) none) none) (aK.L0 k k1 x2 (Z .i64 (A x3 1)) x7 x8):=(jn _ _).trans (by kernel_rfl)
theorem aK.kx(k k1 k2:Nat)(x0 x1 x2 x3 x4 x5 x6 x7 x8):aK.J2 k k1 k2 x0 x1 x2 x3 x4 x5 x6 x7 x8=aK.L1 k k1 k2 x0 x1 x2 x3 x4 x5 (Z .i64 (A x6 1)) x7 x8:=(jn _ _).trans (by kernel_rfl)
def fQ(k:Nat)(a0:(LI)×(LJ)):Option Bool:=call k 64 a0
theorem fQ.eq(k:Nat)(a0):fQ (k+1) a0=T (D.eq (O (N a0.1)) 0) (B (aK k (a0.1,a0.2)) fun r0=>some r0) (some false):=by kernel_rfl
def Jw:Code:=cB (cB (b9 P 170))
def bo(k:Nat)(a0 a1:LI):Option Bool:=call k 170 (a0,a1)
def bo.L0(k j:Nat)(x0 x1:Int)(x2 x3:LI):Option Bool:=LL k 170 (cC (cC (cB (cA Jw)))) j (a8 0 (JK k 170 (cB Jw) (R0 170))) [frm 26 [(0,Sl 0),(1,Sl 1),(12,In x0),(13,In x1)]] [Ro x2,Ro x3]
theorem bo.eq(k:Nat)(a0 a1):bo (k+1) a0 a1=T (D.no (D.eq (O (N a0)) (O (N a1)))) (some false) (bo.L0 k k (O (N a0)) 0 a0 a1):=by kernel_rfl
theorem bo.bp(k j:Nat)(x0 x1 x2 x3):bo.L0 k (j+1) x0 x1 x2 x3=T (D.lt x1 x0) (T (D.le 0 x1) (T (U (V x1) (N x2)) (T (U (V x1) (N x2)) (T (D.le 0 x1) (T (U (V x1) (N x3)) (T (U (V x1) (N x3)) (T (D.no (D.eq (E x2 (V x1) 0) (E x3 (V x1) 0))) (some false) (bo.L0 k j x0 (Z .i64 (A x1 1)) x2 x3)) none) none) none) none) none) none) (some true):=(jn _ _).trans (by kernel_rfl)
def fK(k:Nat)(a0 a1:(LI)×(LI)):Option Bool:=call k 155 (a0,a1)
theorem fK.eq(k:Nat)(a0 a1):fK (k+1) a0 a1=B (bo k a0.1 a1.1) fun r0=>T r0 (B (bo k a0.2 a1.2) fun r1=>some r1) (some false):=by kernel_rfl
def eU(k:Nat)(a0 a1:(LI)×(LJ)):Option Bool:=call k 109 (a0,a1)
theorem eU.eq(k:Nat)(a0 a1):eU (k+1) a0 a1=B (bR k (a0.1,a0.2)) fun r0=>B (bR k (a1.1,a1.2)) fun r1=>B (fK k (r0.1.1,r0.1.2) (r1.1.1,r1.1.2)) fun r2=>some r2:=by kernel_rfl
def Jl:Code:=cB (cB (b9 P 133))
def G7:Code:=cC (cC (cB (cA Jl)))
def Hu:Code:=cB Jl
def IY(k:Nat):cE (den (resTy P 133)):=a8 0 (JK (k+1) 133 Hu (R0 133))
def Gb:Code:=cA Hu
def HM:Code:=cB Hu
def Ir:Code:=cC (cC (cB (cA HM)))
def Ix(k:Nat):cE (den (resTy P 133)):=a8 2 (JK (k+1) 133 (cB HM) (R0 133))
def ak(k:Nat)(a0:LJ):Option LI:=call k 133 a0
def ak.L0(k j:Nat)(x0 x1 x2:Int)(x3:LJ):Option LI:=LL (k+1) 133 G7 j (IY k) [frm 36 [(0,Sl 0),(3,In x0),(9,Sl 0),(10,In x1),(11,In x2)]] [Roo x3]
def ak.J1(k k1:Nat)(x0 x1 x2:Int)(x3:LJ):Option LI:=JJ (k+1) 133 (cB (cB (cB G7))) (LK (k+1) 133 G7 k1 (IY k)) [frm 36 [(0,Sl 0),(3,In x0),(9,Sl 0),(10,In x1),(11,In x2)]] [Roo x3]
def ak.J2(k:Nat)(x0 x1 x2 x3:Int)(x4:Bool)(x5:Int)(x6:LJ):Option LI:=JJ k 172 (cB (cB (b9 P 172))) (mK (fC P (qF P 172) (fun z1 z2=>St.force (St.put z2 (Go.Oper.dst (u3 (Code.ops Gb) 1)) (oP z1)) ((fun z3 z4=>gX (Code.ops Gb) 1 (u3 (Code.ops Gb) 1) z4 ((fun z5 z6=>eM P cfg (lS P cfg ext (k+1)) Option.none (Code.ops Gb) [2] (trN 2) z6 (fun z7 z8=>JK (k+1) 133 HM (R0 133) .normal z8)) z3)) (Touch.mk [] [] [] Bool.true))))) [frm 27 [(0,.nilS),(1,In x0)],frm 36 [(0,Sl 0),(3,In x1),(9,Sl 0),(10,In x2),(11,In x3),(12,.bool x4),(23,In x5)]] [Roo x6]
def ak.L3(k j x0 x1:Nat)(x2 x3:Int)(x4:LI)(x5:LJ):Option LI:=LL (k+1) 133 Ir j (Ix k) [frm 36 [(6,.sl 0 [] (Option.some (x0,x1))),(25,Sl 1),(26,In x2),(27,In x3)]] [Rw x4,Roo x5]
def ak.L4(k j:Nat)(x0 x1:Int)(x2:LI)(x3:LJ):Option LI:=LL (k+1) 133 Ir j (Ix k) [frm 36 [(6,Sl 0),(25,Sl 1),(26,In x0),(27,In x1)]] [Rw x2,Roo x3]
theorem ak.eq(k:Nat)(a0):ak (k+2) a0=ak.L0 k (k+1) 0 (O (N a0)) 0 a0:=by kernel_rfl
theorem ak.bp(k j:Nat)(x0 x1 x2 x3):ak.L0 k (j+1) x0 x1 x2 x3=T (D.lt x2 x1) (T (D.le 0 x2) (T (U (V x2) (N x3)) (T (U (V x2) (N x3)) (T (U (V x2) (N x3)) (T (D.lt (Z .i64 (A x0 (O (N (E x3 (V x2) []))))) 0) none (ak.J1 k j (Z .i64 (A x0 (O (N (E x3 (V x2) []))))) x1 x2 x3)) none) none) none) none) (T (D.lt x0 0) none (ak.J2 k x0 x0 x1 x2 (D.lt x2 x1) x0 x3)):=(jn _ _).trans (by kernel_rfl)
theorem ak.fb(k k1:Nat)(x0 x1 x2 x3):ak.J1 k k1 x0 x1 x2 x3=ak.L0 k k1 x0 x1 (Z .i64 (A x2 1)) x3:=(jn _ _).trans (by kernel_rfl)
theorem ak.kx(k:Nat)(x0 x1 x2 x3 x4 x5 x6):ak.J2 k x0 x1 x2 x3 x4 x5 x6=T (D.lt 0 (Z .i64 (M x0 (Z .i64 (M 0 0))))) (T (D.le 0 0) (T (D.leN (V 0) 0) (T (D.le 1 (Z .i64 (M x0 (Z .i64 (M 0 0))))) (T (D.leN (V (Z .i64 (M x0 (Z .i64 (M 0 0))))) 1099511627776) (T (D.le 0 0) (T (D.leN (V 0) (N (D.rep (V (Z .i64 (M x0 (Z .i64 (M 0 0))))) (0:Int)))) (ak.L3 k (k+1) 0 (D.subN (V 0) 0) (O (N x6)) 0 (D.rep (V (Z .i64 (M x0 (Z .i64 (M 0 0))))) (0:Int)) x6) none) none) none) none) none) none) (ak.L4 k (k+1) (O (N x6)) 0 ([]:LI) x6):=(jn _ _).trans (by kernel_rfl)
theorem ak.nO(k j:Nat)(x0 x1 x2 x3 x4 x5):ak.L3 k (j+1) x0 x1 x2 x3 x4 x5=T (D.lt x3 x2) (T (D.le 0 x3) (T (U (V x3) (N x5)) (T (U (V x3) (N x5)) (T (U (V x3) (N x5)) (T (D.leN (N (D.app (D.take x1 (D.drop x0 x4)) (E x5 (V x3) []))) 1099511627776) (ak.L4 k j x2 (Z .i64 (A x3 1)) (D.app (D.take x1 (D.drop x0 x4)) (E x5 (V x3) [])) x5) none) none) none) none) none) (some (D.take x1 (D.drop x0 x4))):=(jn _ _).trans (by kernel_rfl)
theorem ak.wI(k j:Nat)(x0 x1 x2 x3):ak.L4 k (j+1) x0 x1 x2 x3=T (D.lt x1 x0) (T (D.le 0 x1) (T (U (V x1) (N x3)) (T (U (V x1) (N x3)) (T (U (V x1) (N x3)) (T (D.leN (N (D.app x2 (E x3 (V x1) []))) 1099511627776) (ak.L4 k j x0 (Z .i64 (A x1 1)) (D.app x2 (E x3 (V x1) [])) x3) none) none) none) none) none) (some x2):=(jn _ _).trans (by kernel_rfl)
def I5:Code:=cB (cB (b9 P 156))
def HO:Code:=cC (cC (cB (cA I5)))
def Iu(k:Nat):cE (den (resTy P 156)):=a8 0 (JK k 156 (cB I5) (R0 156))
def II:Code:=cB (cB HO)
def Is:Code:=cB (cC (cA II))
def bS(k:Nat)(a0:LI):Option LI:=call k 156 a0
def bS.L0(k j:Nat)(x0 x1:Int)(x2 x3:LI):Option LI:=LL k 156 HO j (Iu k) [frm 29 [(3,Sl 0),(7,Sl 1),(8,In x0),(9,In x1)]] [Rw x2,Ro x3]
def bS.L1(k k1 j:Nat)(x0 x1 x2:Int)(x3 x4:LI):Option LI:=LL k 156 (cC (cC (cA Is))) j (a8 2 (JK k 156 (cB Is) (a8 1 (JK k 156 (cB II) (LK k 156 HO k1 (Iu k)))))) [frm 29 [(3,Sl 0),(5,In x0),(7,Sl 1),(8,In x1),(9,In x2)]] [Rw x3,Ro x4]
theorem bS.eq(k:Nat)(a0):bS (k+1) a0=bS.L0 k k (O (N a0)) 0 ([]:LI) a0:=by kernel_rfl
theorem bS.bp(k j:Nat)(x0 x1 x2 x3):bS.L0 k (j+1) x0 x1 x2 x3=T (D.lt x1 x0) (T (D.le 0 x1) (T (U (V x1) (N x3)) (T (U (V x1) (N x3)) (bS.L1 k j k (E x3 (V x1) 0) x0 x1 x2 x3) none) none) none) (some x2):=(jn _ _).trans (by kernel_rfl)
theorem bS.cO(k k1 j:Nat)(x0 x1 x2 x3 x4):bS.L1 k k1 (j+1) x0 x1 x2 x3 x4=T (D.lt (O (N x3)) x0) (T (D.leN (N (D.app x3 (0::([]:LI)))) 1099511627776) (bS.L1 k k1 j x0 x1 x2 (D.app x3 (0::([]:LI))) x4) none) (T (D.le 0 (Z .i64 (M x0 1))) (T (U (V (Z .i64 (M x0 1))) (N x3)) (T (U (V (Z .i64 (M x0 1))) (N x3)) (T (D.le 0 (Z .i64 (M x0 1))) (T (U (V (Z .i64 (M x0 1))) (N x3)) (T (U (V (Z .i64 (M x0 1))) (N x3)) (bS.L0 k k1 x1 (Z .i64 (A x2 1)) (D.set x3 (V (Z .i64 (M x0 1))) (Z .i64 (A (E x3 (V (Z .i64 (M x0 1))) 0) 1))) x4) none) none) none) none) none) none):=(jn _ _).trans (by kernel_rfl)
def fp(k:Nat)(a0:(LI)×(LJ)):Option LI:=call k 110 a0
theorem fp.eq(k:Nat)(a0):fp (k+1) a0=B (aK k (a0.1,a0.2)) fun r0=>T (D.no r0) (some ([]:LI)) (B (ak k a0.2) fun r1=>B (bS k r1) fun r2=>some r2):=by kernel_rfl
def Jv:Code:=cB (cB (b9 P 66))
def bO(k:Nat)(a0:(LI)×(LJ)):Option ((LI)×(LJ)):=call k 66 a0
def bO.L0(k j:Nat)(x0 x1:Int)(x2:LJ)(x3:LI)(x4:LJ)(x5:LI)(x6:LJ):Option ((LI)×(LJ)):=LL k 66 (cC (cC (cB (cA Jv)))) j (a8 0 (JK k 66 (cB Jv) (R0 66))) [frm 26 [(2,.pv 0 0),(3,.pv 1 0),(11,Sl 2),(12,In x0),(13,In x1)]] [.var [Sl 3,Sl 4],.var [Sl 5,Sl 6],Roo x2,Rw x3,Rww x4,Rw x5,Rww x6]
theorem bO.eq(k:Nat)(a0):bO (k+1) a0=B (cr k a0.1) fun r0=>bO.L0 k k (O (N a0.2)) 0 a0.2 ([]:LI) ([]:LJ) r0 ([]:LJ):=by kernel_rfl
theorem bO.bp(k j:Nat)(x0 x1 x2 x3 x4 x5 x6):bO.L0 k (j+1) x0 x1 x2 x3 x4 x5 x6=T (D.lt x1 x0) (T (D.le 0 x1) (T (U (V x1) (N x2)) (T (U (V x1) (N x2)) (T (U (V x1) (N x2)) (B (cr k (E x2 (V x1) [])) fun r1=>T (D.leN (N (D.app x6 (r1::([]:LJ)))) 1099511627776) (bO.L0 k j x0 (Z .i64 (A x1 1)) x2 x3 x4 x5 (D.app x6 (r1::([]:LJ)))) none) none) none) none) none) (some (x5,x6)):=(jn _ _).trans (by kernel_rfl)
def ID:Code:=cB (cB (b9 P 157))
def HI:Code:=cC (cC (cB (cA ID)))
def Ic(k:Nat):cE (den (resTy P 157)):=a8 0 (JK k 157 (cB ID) (R0 157))
def bW(k:Nat)(a0:(LI)×(LJ)):Option Int:=call k 157 a0
def bW.L0(k j:Nat)(x0 x1 x2:Int)(x3:LJ)(x4:LI):Option Int:=LL k 157 HI j (Ic k) [frm 52 [(1,.pv 0 0),(3,In x0),(10,Sl 1),(11,In x1),(12,In x2)]] [.var [Sl 2,Sl 1],Roo x3,Ro x4]
def bW.J1(k k1:Nat)(x0 x1 x2:Int)(x3:LJ)(x4:LI):Option Int:=JJ k 157 (cB (cB (cB HI))) (LK k 157 HI k1 (Ic k)) [frm 52 [(1,.pv 0 0),(3,In x0),(10,Sl 1),(11,In x1),(12,In x2)]] [.var [Sl 2,Sl 1],Roo x3,Ro x4]
theorem bW.eq(k:Nat)(a0):bW (k+1) a0=bW.L0 k k 0 (O (N a0.2)) 0 a0.2 a0.1:=by kernel_rfl
theorem bW.bp(k j:Nat)(x0 x1 x2 x3 x4):bW.L0 k (j+1) x0 x1 x2 x3 x4=T (D.lt x2 x1) (T (D.le 0 x2) (T (U (V x2) (N x3)) (T (U (V x2) (N x3)) (T (D.le 0 x0) (T (U (V x0) (N x3)) (T (U (V x0) (N x3)) (T (U (V x2) (N x3)) (T (U (V x2) (N x3)) (T (D.le 0 (Z .i64 (M (O (N (E x3 (V x2) []))) 1))) (T (U (V (Z .i64 (M (O (N (E x3 (V x2) []))) 1))) (N (E x3 (V x2) []))) (T (U (V x2) (N x3)) (T (U (V (Z .i64 (M (O (N (E x3 (V x2) []))) 1))) (N (E x3 (V x2) []))) (T (U (V x0) (N x3)) (T (U (V x0) (N x3)) (T (D.le 0 (Z .i64 (M (O (N (E x3 (V x0) []))) 1))) (T (U (V (Z .i64 (M (O (N (E x3 (V x0) []))) 1))) (N (E x3 (V x0) []))) (T (U (V x0) (N x3)) (T (U (V (Z .i64 (M (O (N (E x3 (V x0) []))) 1))) (N (E x3 (V x0) []))) (T (D.lt (E (E x3 (V x0) []) (V (Z .i64 (M (O (N (E x3 (V x0) []))) 1))) 0) (E (E x3 (V x2) []) (V (Z .i64 (M (O (N (E x3 (V x2) []))) 1))) 0)) (bW.J1 k j x2 x1 x2 x3 x4) (T (D.eq (E (E x3 (V x2) []) (V (Z .i64 (M (O (N (E x3 (V x2) []))) 1))) 0) (E (E x3 (V x0) []) (V (Z .i64 (M (O (N (E x3 (V x0) []))) 1))) 0)) (T (U (V x2) (N x3)) (T (U (V x0) (N x3)) (T (D.lt (O (N (E x3 (V x0) []))) (O (N (E x3 (V x2) [])))) (bW.J1 k j x2 x1 x2 x3 x4) (bW.J1 k j x0 x1 x2 x3 x4)) none) none) (bW.J1 k j x0 x1 x2 x3 x4))) none) none) none) none) none) none) none) none) none) none) none) none) none) none) none) none) none) none) (some x0):=(jn _ _).trans (by kernel_rfl)
theorem bW.fb(k k1:Nat)(x0 x1 x2 x3 x4):bW.J1 k k1 x0 x1 x2 x3 x4=bW.L0 k k1 x0 x1 (Z .i64 (A x2 1)) x3 x4:=(jn _ _).trans (by kernel_rfl)
def aM(k:Nat)(x0:List (Int×Int)):Option (PUnit×(List (Int×Int))):=IO_ k 159 0 1 1 [.row Bool.true (.pair (.int .i64) (.int .i64)) []] [[Sl 0],[Sl 0]] [.row Bool.true (.pair (.int .i64) (.int .i64)) x0]
def aM.L0(k j:Nat)(x0 x1:Int)(x2:List (Int×Int)):Option (PUnit×(List (Int×Int))):=LL k 159 (cC (cC (cB (b9 P 159)))) j (a8 0 (mK (fC P (qF P 159) (fun z3 z4=>oN P 159 0 1 1 [.row Bool.true (.pair (.int .i64) (.int .i64)) []] z3 z4)))) [frm 28 [(0,Sl 0),(2,In x0),(3,In x1)],[Sl 0]] [.row Bool.true (.pair (.int .i64) (.int .i64)) x2]
theorem aM.eq(k:Nat)(x0):aM (k+1) x0=aM.L0 k k 0 (Z .i64 (M (O (N x0)) 1)) x0:=by kernel_rfl
theorem aM.bp(k j:Nat)(x0 x1 x2):aM.L0 k (j+1) x0 x1 x2=T (D.lt x0 x1) (T (D.le 0 x1) (T (U (V x1) (N x2)) (T (U (V x1) (N x2)) (T (D.le 0 x0) (T (U (V x0) (N x2)) (T (U (V x0) (N x2)) (T (D.le 0 x0) (T (U (V x0) (N x2)) (T (U (V x0) (N x2)) (T (D.le 0 x1) (T (U (V x1) (N (D.set x2 (V x0) ((E x2 (V x1) (0,0)).1,(E x2 (V x1) (0,0)).2)))) (T (U (V x1) (N (D.set x2 (V x0) ((E x2 (V x1) (0,0)).1,(E x2 (V x1) (0,0)).2)))) (aM.L0 k j (Z .i64 (A x0 1)) (Z .i64 (M x1 1)) (D.set (D.set x2 (V x0) ((E x2 (V x1) (0,0)).1,(E x2 (V x1) (0,0)).2)) (V x1) ((E x2 (V x0) (0,0)).1,(E x2 (V x0) (0,0)).2))) none) none) none) none) none) none) none) none) none) none) none) none) (some ((),x2)):=(jn _ _).trans (by kernel_rfl)
def F0:Code:=cB (cB (cB (cB (cB (b9 P 158)))))
def Hm:cE (Int×((LI)×(LJ))):=mK (fC P (qF P 158) (fun z1 z2=>oN P 158 1 0 3 [.var [Sl 1,Sl 2],Rw [],Rww []] z1 z2))
def GG:Code:=cC (cC (cB (cA F0)))
def Hd(k:Nat):cE (Int×((LI)×(LJ))):=a8 0 (JK k 158 (cB F0) Hm)
def IS:Code:=cB GG
def H0:Code:=cC (cB (cC (cA IS)))
def Io:Code:=cA H0
def H6:Code:=cB H0
def HC:Code:=cB IS
def HW(k k1:Nat):cE (Int×((LI)×(LJ))):=LK k 158 GG k1 (Hd k)
def Hp(k k1:Nat):cE (Int×((LI)×(LJ))):=a8 2 (a8 1 (JK k 158 HC (HW k k1)))
def F8:Code:=cC (cC (cB (b9 P 189)))
def IZ(k k1:Nat):cE (Int×((LI)×(LJ))):=a8 0 (mK (fun z15=>Hp k k1 .normal (St.mk (List.tail (St.fr z15)) (St.rs z15))))
def ae(k:Nat)(x0:Int)(x1:LI)(x2:LJ):Option (Int×((LI)×(LJ))):=IO_ k 158 1 0 3 [.var [Sl 1,Sl 2],Rw [],Rww []] [[.pv 0 0,In x0],[.pv 0 0,.undef,.undef]] [.var [Sl 1,Sl 2],Rw x1,Rww x2]
def ae.J0(k:Nat)(x0 x1:Int)(x2 x3:Nat)(x4:LI)(x5:LJ):Option (Int×((LI)×(LJ))):=JJ k 158 F0 Hm [frm 87 [(1,In x0),(2,.pv 0 0),(6,.pv 1 0)],[.pv 2 0,.undef,.undef]] [.var [.pv 2 0],.var [In x1],.var [Sl 3,.sl 4 [] (Option.some (x2,x3))],Rw x4,Rww x5]
def ae.J1(k:Nat)(x0 x1:Int)(x2:LI)(x3:LJ):Option (Int×((LI)×(LJ))):=JJ k 158 F0 Hm [frm 87 [(1,In x0),(2,.pv 0 0),(6,.pv 1 0)],[.pv 2 0,.undef,.undef]] [.var [.pv 2 0],.var [In x1],.var [Sl 3,Sl 4],Rw x2,Rww x3]
def ae.L2(k j:Nat)(x0 x1:Int)(x2 x3:Nat)(x4:LI)(x5:LJ):Option (Int×((LI)×(LJ))):=LL k 158 GG j (Hd k) [frm 87 [(2,.pv 0 0),(6,.pv 1 0),(7,.pv 2 0)],[.pv 3 0,.undef,.undef]] [.var [.pv 3 0],.var [In x0],.var [In x1],.var [Sl 4,.sl 5 [] (Option.some (x2,x3))],Rw x4,Rww x5]
def ae.L3(k j:Nat)(x0 x1:Int)(x2:LI)(x3:LJ):Option (Int×((LI)×(LJ))):=LL k 158 GG j (Hd k) [frm 87 [(2,.pv 0 0),(6,.pv 1 0),(7,.pv 2 0)],[.pv 3 0,.undef,.undef]] [.var [.pv 3 0],.var [In x0],.var [In x1],.var [Sl 4,Sl 5],Rw x2,Rww x3]
def ae.L4(k k1 j:Nat)(x0:Int)(x1:Nat)(x2 x3:Int)(x4 x5:Nat)(x6:LJ)(x7:LI):Option (Int×((LI)×(LJ))):=D.jn (fun z0=>jR (fun z1 z2=>gD P cfg (lS P cfg ext k) (pH (fun z3 z4=>X k 158 Io z3 z4) (fun z5 z6=>X k 158 H6 z5 z6) (List.toArray [69,70]) (Hp k k1)) (Go.Func.ntmps (qF P 189)) k 189 F8 z1 z2) (Cfg.loops cfg 189 (key F8)) j z0 (IZ k k1)) (St.mk [frm 19 [(1,.pv 0 0),(3,In x0)],frm 87 [(2,.pv 1 0),(6,.pv 2 0),(7,.pv 3 0),(68,.fn 189 [] [.pv 0 0])],[.pv 4 0,.undef,.undef]] [.var [.sl 5 [(x1,0)] Option.none],.var [.pv 4 0],.var [In x2],.var [In x3],.var [Sl 6,.sl 5 [] (Option.some (x4,x5))],Rww x6,Rw x7])
def ae.L5(k k1 j:Nat)(x0:Int)(x1:Nat)(x2 x3:Int)(x4:LJ)(x5:LI):Option (Int×((LI)×(LJ))):=D.jn (fun z0=>jR (fun z1 z2=>gD P cfg (lS P cfg ext k) (pH (fun z3 z4=>X k 158 Io z3 z4) (fun z5 z6=>X k 158 H6 z5 z6) (List.toArray [69,70]) (Hp k k1)) (Go.Func.ntmps (qF P 189)) k 189 F8 z1 z2) (Cfg.loops cfg 189 (key F8)) j z0 (IZ k k1)) (St.mk [frm 19 [(1,.pv 0 0),(3,In x0)],frm 87 [(2,.pv 1 0),(6,.pv 2 0),(7,.pv 3 0),(68,.fn 189 [] [.pv 0 0])],[.pv 4 0,.undef,.undef]] [.var [.sl 5 [(x1,0)] Option.none],.var [.pv 4 0],.var [In x2],.var [In x3],.var [Sl 6,Sl 5],Rww x4,Rw x5])
def ae.J6(k k1:Nat)(x0 x1:Int)(x2 x3:Nat)(x4:LI)(x5:LJ):Option (Int×((LI)×(LJ))):=JJ k 158 HC (HW k k1) [frm 87 [(2,.pv 0 0),(6,.pv 1 0),(7,.pv 2 0)],[.pv 3 0,.undef,.undef]] [.var [.pv 3 0],.var [In x0],.var [In x1],.var [Sl 4,.sl 5 [] (Option.some (x2,x3))],Rw x4,Rww x5]
def ae.J7(k k1:Nat)(x0 x1:Int)(x2:LI)(x3:LJ):Option (Int×((LI)×(LJ))):=JJ k 158 HC (HW k k1) [frm 87 [(2,.pv 0 0),(6,.pv 1 0),(7,.pv 2 0)],[.pv 3 0,.undef,.undef]] [.var [.pv 3 0],.var [In x0],.var [In x1],.var [Sl 4,Sl 5],Rw x2,Rww x3]
theorem ae.eq(k:Nat)(x0 x1 x2):ae (k+1) x0 x1 x2=T (D.le 0 x0) (T (U (V x0) (N x2)) (T (U (V x0) (N x2)) (T (U (V x0) (N x2)) (T (D.le 0 x0) (T (U (V x0) (N x2)) (T (U (V x0) (N x2)) (T (U (V x0) (N x2)) (T (D.le 0 (Z .i64 (M (O (N (E x2 (V x0) []))) 1))) (T (U (V (Z .i64 (M (O (N (E x2 (V x0) []))) 1))) (N (E x2 (V x0) []))) (T (U (V x0) (N x2)) (T (U (V (Z .i64 (M (O (N (E x2 (V x0) []))) 1))) (N (E x2 (V x0) []))) (T (D.le 0 x0) (T (U (V x0) (N x2)) (T (U (V x0) (N x2)) (T (U (V x0) (N x2)) (T (D.le 0 (Z .i64 (M (O (N (E x2 (V x0) []))) 1))) (T (D.leN (V (Z .i64 (M (O (N (E x2 (V x0) []))) 1))) (N (E x2 (V x0) []))) (T (D.le 0 x0) (T (U (V x0) (N x2)) (T (U (V x0) (N x2)) (T (U (V x0) (N x2)) (T (D.eqP (((V x0),0)::([]:List (Nat×Nat))) (((V x0),0)::([]:List (Nat×Nat)))) (T (D.eq (Z .i64 (M (O (N (E x2 (V x0) []))) 1)) 0) (T (D.le 0 x0) (T (D.leN (V x0) (N (D.set x2 (V x0) (D.take (D.subN (V (Z .i64 (M (O (N (E x2 (V x0) []))) 1))) 0) (D.drop 0 (E x2 (V x0) [])))))) (ae.J0 k x0 (E (E x2 (V x0) []) (V (Z .i64 (M (O (N (E x2 (V x0) []))) 1))) 0) 0 (D.subN (V x0) 0) x1 (D.set x2 (V x0) (D.take (D.subN (V (Z .i64 (M (O (N (E x2 (V x0) []))) 1))) 0) (D.drop 0 (E x2 (V x0) []))))) none) none) (ae.J1 k x0 (E (E x2 (V x0) []) (V (Z .i64 (M (O (N (E x2 (V x0) []))) 1))) 0) x1 (D.set x2 (V x0) (D.take (D.subN (V (Z .i64 (M (O (N (E x2 (V x0) []))) 1))) 0) (D.drop 0 (E x2 (V x0) [])))))) none) none) none) none) none) none) none) none) none) none) none) none) none) none) none) none) none) none) none) none) none) none) none:=by kernel_rfl
theorem ae.fT(k:Nat)(x0 x1 x2 x3 x4 x5):ae.J0 k x0 x1 x2 x3 x4 x5=ae.L2 k k x1 (Z .i64 (M x0 1)) x2 x3 x4 x5:=(jn _ _).trans (by kernel_rfl)
theorem ae.fb(k:Nat)(x0 x1 x2 x3):ae.J1 k x0 x1 x2 x3=ae.L3 k k x1 (Z .i64 (M x0 1)) x2 x3:=(jn _ _).trans (by kernel_rfl)
theorem ae.gB(k j:Nat)(x0 x1 x2 x3 x4 x5):ae.L2 k (j+1) x0 x1 x2 x3 x4 x5=T (D.le 0 x1) (T (D.le 0 x1) (T (U (V x1) x3) (T (U (D.addN x2 (V x1)) (N x5)) (T (U (D.addN x2 (V x1)) (N x5)) (ae.L4 k j k (Z .i64 (M (O (N (E x5 (D.addN x2 (V x1)) []))) 1)) (D.addN x2 (V x1)) x0 x1 x2 x3 x5 x4) none) none) none) none) (some (x0,(x4,(D.take x3 (D.drop x2 x5))))):=(jn _ _).trans (by kernel_rfl)
theorem ae.nO(k j:Nat)(x0 x1 x2 x3):ae.L3 k (j+1) x0 x1 x2 x3=T (D.le 0 x1) (T (D.le 0 x1) (T (U (V x1) (N x3)) (T (U (V x1) (N x3)) (T (U (V x1) (N x3)) (ae.L5 k j k (Z .i64 (M (O (N (E x3 (V x1) []))) 1)) (V x1) x0 x1 x3 x2) none) none) none) none) (some (x0,(x2,x3))):=(jn _ _).trans (by kernel_rfl)
theorem ae.wI(k k1 j:Nat)(x0 x1 x2 x3 x4 x5 x6 x7):ae.L4 k k1 (j+1) x0 x1 x2 x3 x4 x5 x6 x7=T (D.le 0 x0) (T (U x1 (N x6)) (T (D.le 0 x0) (T (U (V x0) (N (E x6 x1 []))) (T (U x1 (N x6)) (T (U (V x0) (N (E x6 x1 []))) (T (D.lt (E (E x6 x1 []) (V x0) 0) x2) (T (D.le 0 x3) (T (U (V x3) x5) (T (U (D.addN x4 (V x3)) (N x6)) (T (U (D.addN x4 (V x3)) (N x6)) (T (D.le 0 x0) (T (U (V x0) (N (E x6 (D.addN x4 (V x3)) []))) (T (U (D.addN x4 (V x3)) (N x6)) (T (U (V x0) (N (E x6 (D.addN x4 (V x3)) []))) (ae.J6 k k1 (E (E x6 x1 []) (V x0) 0) x3 x4 x5 x7 (D.set x6 (D.addN x4 (V x3)) (D.set (E x6 (D.addN x4 (V x3)) []) (V x0) x2))) none) none) none) none) none) none) none) none) (ae.L4 k k1 j (Z .i64 (M x0 1)) x1 x2 x3 x4 x5 x6 x7)) none) none) none) none) none) (ae.J6 k k1 x2 x3 x4 x5 x7 x6):=(jn _ _).trans (by kernel_rfl)
theorem ae.C3(k k1 j:Nat)(x0 x1 x2 x3 x4 x5):ae.L5 k k1 (j+1) x0 x1 x2 x3 x4 x5=T (D.le 0 x0) (T (U x1 (N x4)) (T (D.le 0 x0) (T (U (V x0) (N (E x4 x1 []))) (T (U x1 (N x4)) (T (U (V x0) (N (E x4 x1 []))) (T (D.lt (E (E x4 x1 []) (V x0) 0) x2) (T (D.le 0 x3) (T (U (V x3) (N x4)) (T (U (V x3) (N x4)) (T (U (V x3) (N x4)) (T (D.le 0 x0) (T (U (V x0) (N (E x4 (V x3) []))) (T (U (V x3) (N x4)) (T (U (V x0) (N (E x4 (V x3) []))) (ae.J7 k k1 (E (E x4 x1 []) (V x0) 0) x3 x5 (D.set x4 (V x3) (D.set (E x4 (V x3) []) (V x0) x2))) none) none) none) none) none) none) none) none) (ae.L5 k k1 j (Z .i64 (M x0 1)) x1 x2 x3 x4 x5)) none) none) none) none) none) (ae.J7 k k1 x2 x3 x5 x4):=(jn _ _).trans (by kernel_rfl)
theorem ae.G4(k k1:Nat)(x0 x1 x2 x3 x4 x5):ae.J6 k k1 x0 x1 x2 x3 x4 x5=ae.L2 k k1 x0 (Z .i64 (M x1 1)) x2 x3 x4 x5:=(jn _ _).trans (by kernel_rfl)
theorem ae.GS(k k1:Nat)(x0 x1 x2 x3):ae.J7 k k1 x0 x1 x2 x3=ae.L3 k k1 x0 (Z .i64 (M x1 1)) x2 x3:=(jn _ _).trans (by kernel_rfl)
def Iq:Code:=cB (cB (cB (b9 P 111)))
def F1:Code:=cC (cC (cA Iq))
def HL(k:Nat):cE (den (resTy P 111)):=a8 0 (JK k 111 (cB Iq) (R0 111))
def Iv:Code:=cB (cB (cB (cB (cB (cC (cB F1))))))
def I4(k k1:Nat):cE (den (resTy P 111)):=a8 1 (LK k 111 F1 k1 (HL k))
def aR(k:Nat)(a0 a1:(LI)×(LJ)):Option (List (Int×Int)):=call k 111 (a0,a1)
def aR.L0(k j:Nat)(x0:List (Int×Int))(x1:LI)(x2:LJ)(x3:LI)(x4:LJ):Option (List (Int×Int)):=LL k 111 F1 j (HL k) [frm 63 [(2,.pv 0 0),(3,.pv 1 0),(5,Sl 2)]] [.var [Sl 3,Sl 4],.var [Sl 5,Sl 6],.row Bool.true (.pair (.int .i64) (.int .i64)) x0,Rw x1,Rww x2,Rw x3,Rww x4]
def aR.J1(k k1:Nat)(x0 x1:Int)(x2 x3:Nat)(x4:List (Int×Int))(x5:LI)(x6:LJ)(x7:LI)(x8:LJ):Option (List (Int×Int)):=JJ k 111 Iv (I4 k k1) [frm 63 [(2,.pv 0 0),(3,.pv 1 0),(5,Sl 2),(6,In x0),(8,In x1)]] [.var [Sl 3,Sl 4],.var [Sl 5,.sl 6 [] (Option.some (x2,x3))],.row Bool.true (.pair (.int .i64) (.int .i64)) x4,Rw x5,Rww x6,Rw x7,Rww x8]
def aR.J2(k k1:Nat)(x0 x1:Int)(x2:List (Int×Int))(x3:LI)(x4:LJ)(x5:LI)(x6:LJ):Option (List (Int×Int)):=JJ k 111 Iv (I4 k k1) [frm 63 [(2,.pv 0 0),(3,.pv 1 0),(5,Sl 2),(6,In x0),(8,In x1)]] [.var [Sl 3,Sl 4],.var [Sl 5,Sl 6],.row Bool.true (.pair (.int .i64) (.int .i64)) x2,Rw x3,Rww x4,Rw x5,Rww x6]
def aR.L3(k j x0 x1:Nat)(x2:List (Int×Int))(x3:LI)(x4:LJ)(x5:LI)(x6:LJ):Option (List (Int×Int)):=LL k 111 F1 j (HL k) [frm 63 [(2,.pv 0 0),(3,.pv 1 0),(5,Sl 2)]] [.var [Sl 3,Sl 4],.var [Sl 5,.sl 6 [] (Option.some (x0,x1))],.row Bool.true (.pair (.int .i64) (.int .i64)) x2,Rw x3,Rww x4,Rw x5,Rww x6]
theorem aR.eq(k:Nat)(a0 a1):aR (k+1) a0 a1=B (bO k (a0.1,a0.2)) fun r0=>B (bO k (a1.1,a1.2)) fun r1=>aR.L0 k k ([]:List (Int×Int)) r0.1 r0.2 r1.1 r1.2:=by kernel_rfl
theorem aR.bp(k j:Nat)(x0 x1 x2 x3 x4):aR.L0 k (j+1) x0 x1 x2 x3 x4=T (D.lt 0 (O (N x4))) (B (bW k (x3,x4)) fun r2=>T (D.le 0 r2) (T (U (V r2) (N x4)) (T (U (V r2) (N x4)) (T (U (V r2) (N x4)) (T (D.le 0 r2) (T (U (V r2) (N x4)) (T (U (V r2) (N x4)) (T (U (V r2) (N x4)) (T (D.le 0 (Z .i64 (M (O (N (E x4 (V r2) []))) 1))) (T (U (V (Z .i64 (M (O (N (E x4 (V r2) []))) 1))) (N (E x4 (V r2) []))) (T (U (V r2) (N x4)) (T (U (V (Z .i64 (M (O (N (E x4 (V r2) []))) 1))) (N (E x4 (V r2) []))) (T (D.le 0 r2) (T (U (V r2) (N x4)) (T (U (V r2) (N x4)) (T (U (V r2) (N x4)) (T (D.le 0 (Z .i64 (M (O (N (E x4 (V r2) []))) 1))) (T (D.leN (V (Z .i64 (M (O (N (E x4 (V r2) []))) 1))) (N (E x4 (V r2) []))) (T (D.le 0 r2) (T (U (V r2) (N x4)) (T (U (V r2) (N x4)) (T (U (V r2) (N x4)) (T (D.eqP (((V r2),0)::([]:List (Nat×Nat))) (((V r2),0)::([]:List (Nat×Nat)))) (T (D.eq (Z .i64 (M (O (N (E x4 (V r2) []))) 1)) 0) (T (D.le 0 r2) (T (D.leN (V r2) (N (D.set x4 (V r2) (D.take (D.subN (V (Z .i64 (M (O (N (E x4 (V r2) []))) 1))) 0) (D.drop 0 (E x4 (V r2) [])))))) (aR.J1 k j r2 (E (E x4 (V r2) []) (V (Z .i64 (M (O (N (E x4 (V r2) []))) 1))) 0) 0 (D.subN (V r2) 0) x0 x1 x2 x3 (D.set x4 (V r2) (D.take (D.subN (V (Z .i64 (M (O (N (E x4 (V r2) []))) 1))) 0) (D.drop 0 (E x4 (V r2) []))))) none) none) (aR.J2 k j r2 (E (E x4 (V r2) []) (V (Z .i64 (M (O (N (E x4 (V r2) []))) 1))) 0) x0 x1 x2 x3 (D.set x4 (V r2) (D.take (D.subN (V (Z .i64 (M (O (N (E x4 (V r2) []))) 1))) 0) (D.drop 0 (E x4 (V r2) [])))))) none) none) none) none) none) none) none) none) none) none) none) none) none) none) none) none) none) none) none) none) none) none) none) (B (aM k x0) fun r3=>some r3.2):=(jn _ _).trans (by kernel_rfl)
theorem aR.fb(k k1:Nat)(x0 x1 x2 x3 x4 x5 x6 x7 x8):aR.J1 k k1 x0 x1 x2 x3 x4 x5 x6 x7 x8=B (ae k x0 x5 x6) fun r4=>T (D.leN (N (D.app x4 ((x1,r4.1)::([]:List (Int×Int))))) 1099511627776) (aR.L3 k k1 x2 x3 (D.app x4 ((x1,r4.1)::([]:List (Int×Int)))) r4.2.1 r4.2.2 x7 x8) none:=(jn _ _).trans (by kernel_rfl)
theorem aR.kx(k k1:Nat)(x0 x1 x2 x3 x4 x5 x6):aR.J2 k k1 x0 x1 x2 x3 x4 x5 x6=B (ae k x0 x3 x4) fun r5=>T (D.leN (N (D.app x2 ((x1,r5.1)::([]:List (Int×Int))))) 1099511627776) (aR.L0 k k1 (D.app x2 ((x1,r5.1)::([]:List (Int×Int)))) r5.2.1 r5.2.2 x5 x6) none:=(jn _ _).trans (by kernel_rfl)
theorem aR.nO(k j:Nat)(x0 x1 x2 x3 x4 x5 x6):aR.L3 k (j+1) x0 x1 x2 x3 x4 x5 x6=T (D.lt 0 (O x1)) (B (bW k (x5,(D.take x1 (D.drop x0 x6)))) fun r6=>T (D.le 0 r6) (T (U (V r6) x1) (T (U (D.addN x0 (V r6)) (N x6)) (T (U (D.addN x0 (V r6)) (N x6)) (T (D.le 0 r6) (T (U (V r6) x1) (T (U (D.addN x0 (V r6)) (N x6)) (T (U (D.addN x0 (V r6)) (N x6)) (T (D.le 0 (Z .i64 (M (O (N (E x6 (D.addN x0 (V r6)) []))) 1))) (T (U (V (Z .i64 (M (O (N (E x6 (D.addN x0 (V r6)) []))) 1))) (N (E x6 (D.addN x0 (V r6)) []))) (T (U (D.addN x0 (V r6)) (N x6)) (T (U (V (Z .i64 (M (O (N (E x6 (D.addN x0 (V r6)) []))) 1))) (N (E x6 (D.addN x0 (V r6)) []))) (T (D.le 0 r6) (T (U (V r6) x1) (T (U (D.addN x0 (V r6)) (N x6)) (T (U (D.addN x0 (V r6)) (N x6)) (T (D.le 0 (Z .i64 (M (O (N (E x6 (D.addN x0 (V r6)) []))) 1))) (T (D.leN (V (Z .i64 (M (O (N (E x6 (D.addN x0 (V r6)) []))) 1))) (N (E x6 (D.addN x0 (V r6)) []))) (T (D.le 0 r6) (T (U (V r6) x1) (T (U (D.addN x0 (V r6)) (N x6)) (T (U (D.addN x0 (V r6)) (N x6)) (T (D.eqP (((D.addN x0 (V r6)),0)::([]:List (Nat×Nat))) (((D.addN x0 (V r6)),0)::([]:List (Nat×Nat)))) (T (D.eq (Z .i64 (M (O (N (E x6 (D.addN x0 (V r6)) []))) 1)) 0) (T (D.le 0 r6) (T (D.leN (V r6) x1) (aR.J1 k j r6 (E (E x6 (D.addN x0 (V r6)) []) (V (Z .i64 (M (O (N (E x6 (D.addN x0 (V r6)) []))) 1))) 0) (D.addN x0 0) (D.subN (V r6) 0) x2 x3 x4 x5 (D.set x6 (D.addN x0 (V r6)) (D.take (D.subN (V (Z .i64 (M (O (N (E x6 (D.addN x0 (V r6)) []))) 1))) 0) (D.drop 0 (E x6 (D.addN x0 (V r6)) []))))) none) none) (aR.J1 k j r6 (E (E x6 (D.addN x0 (V r6)) []) (V (Z .i64 (M (O (N (E x6 (D.addN x0 (V r6)) []))) 1))) 0) x0 x1 x2 x3 x4 x5 (D.set x6 (D.addN x0 (V r6)) (D.take (D.subN (V (Z .i64 (M (O (N (E x6 (D.addN x0 (V r6)) []))) 1))) 0) (D.drop 0 (E x6 (D.addN x0 (V r6)) [])))))) none) none) none) none) none) none) none) none) none) none) none) none) none) none) none) none) none) none) none) none) none) none) none) (B (aM k x2) fun r7=>some r7.2):=(jn _ _).trans (by kernel_rfl)
def Js:Code:=cB (cB (b9 P 34))
def IW:Code:=cB Js
def Ht:Code:=cB IW
def aH(k:Nat)(a0 a1:(LI)×(LJ))(a2 a3:Int):Option ((LJ)×Bool):=call k 34 (a0,a1,a2,a3)
def aH.J0(k:Nat)(x0 x1:Int)(x2:LI)(x3:LJ)(x4:LI)(x5:LJ):Option ((LJ)×Bool):=JJ k 34 Js (R0 34) [frm 88 [(2,In x0),(3,In x1),(4,.pv 0 0),(5,.pv 1 0)]] [.var [Sl 2,Sl 3],.var [Sl 4,Sl 5],Ro x2,Roo x3,Ro x4,Roo x5]
def aH.L1(k j:Nat)(x0 x1 x2:Int)(x3:LJ)(x4:LI)(x5:LJ)(x6:LI)(x7:LJ):Option ((LJ)×Bool):=LL k 34 (cC (cC (cB (cA IW)))) j (a8 0 (JK k 34 Ht (R0 34))) [frm 88 [(3,In x0),(4,.pv 0 0),(5,.pv 1 0),(10,Sl 2),(55,In x1),(56,In x2)]] [.var [Sl 3,Sl 4],.var [Sl 5,Sl 6],Rww x3,Ro x4,Roo x5,Ro x6,Roo x7]
def aH.L2(k j:Nat)(x0 x1:Int)(x2:LJ)(x3:List (Int×Int)):Option ((LJ)×Bool):=LL k 34 (cC (cC (cB (cA Ht)))) j (a8 2 (JK k 34 (cB Ht) (R0 34))) [frm 88 [(10,Sl 0),(67,Sl 1),(68,In x0),(69,In x1)]] [Rww x2,.row Bool.true (.pair (.int .i64) (.int .i64)) x3]
theorem aH.eq(k:Nat)(a0 a1 a2 a3):aH (k+1) a0 a1 a2 a3=B (fQ k (a0.1,a0.2)) fun r0=>T (D.no r0) (some (([]:LJ),false)) (B (fQ k (a1.1,a1.2)) fun r1=>T (D.no r1) (some (([]:LJ),false)) (B (eU k (a0.1,a0.2) (a1.1,a1.2)) fun r2=>T (D.no r2) (some (([]:LJ),false)) (B (cW k a2 1 9) fun r3=>T (D.no r3) (some (([]:LJ),false)) (B (cW k a3 1 9) fun r4=>T (D.no r4) (some (([]:LJ),false)) (B (fp k (a1.1,a1.2)) fun r5=>T (D.lt a2 (O (N r5))) (some (([]:LJ),false)) (B (fp k (a0.1,a0.2)) fun r6=>T (D.lt a3 (O (N r6))) (some (([]:LJ),false)) (aH.J0 k a2 a3 a0.1 a0.2 a1.1 a1.2))))))):=by kernel_rfl
theorem aH.fT(k:Nat)(x0 x1 x2 x3 x4 x5):aH.J0 k x0 x1 x2 x3 x4 x5=T (D.le 0 x0) (T (D.le x0 x0) (T (D.leN (V x0) 1099511627776) (aH.L1 k k x1 (O (N (D.rep (V x0) ([]:LI)))) 0 (D.rep (V x0) ([]:LI)) x2 x3 x4 x5) none) none) none:=(jn _ _).trans (by kernel_rfl)
theorem aH.cO(k j:Nat)(x0 x1 x2 x3 x4 x5 x6 x7):aH.L1 k (j+1) x0 x1 x2 x3 x4 x5 x6 x7=T (D.lt x2 x1) (T (D.le 0 x0) (T (D.le x0 x0) (T (D.leN (V x0) 1099511627776) (T (D.le 0 x2) (T (U (V x2) (N x3)) (T (U (V x2) (N x3)) (aH.L1 k j x0 x1 (Z .i64 (A x2 1)) (D.set x3 (V x2) (D.rep (V x0) (0:Int))) x4 x5 x6 x7) none) none) none) none) none) none) (B (aR k (x4,x5) (x6,x7)) fun r7=>aH.L2 k k (O (N r7)) 0 x3 r7):=(jn _ _).trans (by kernel_rfl)
theorem aH.gB(k j:Nat)(x0 x1 x2 x3):aH.L2 k (j+1) x0 x1 x2 x3=T (D.lt x1 x0) (T (D.le 0 x1) (T (U (V x1) (N x3)) (T (U (V x1) (N x3)) (T (D.le 0 0) (T (D.lt 0 (O 2)) (T (D.le 0 (Z .i64 (M (E x3 (V x1) (0,0)).1 1))) (T (U (V (Z .i64 (M (E x3 (V x1) (0,0)).1 1))) (N x2)) (T (U (V (Z .i64 (M (E x3 (V x1) (0,0)).1 1))) (N x2)) (T (D.le 0 1) (T (D.lt 1 (O 2)) (T (U (V (Z .i64 (M (E x3 (V x1) (0,0)).1 1))) (N x2)) (T (D.le 0 (Z .i64 (M (E x3 (V x1) (0,0)).2 1))) (T (U (V (Z .i64 (M (E x3 (V x1) (0,0)).2 1))) (N (E x2 (V (Z .i64 (M (E x3 (V x1) (0,0)).1 1))) []))) (T (U (V (Z .i64 (M (E x3 (V x1) (0,0)).1 1))) (N x2)) (T (U (V (Z .i64 (M (E x3 (V x1) (0,0)).2 1))) (N (E x2 (V (Z .i64 (M (E x3 (V x1) (0,0)).1 1))) []))) (T (U (V (Z .i64 (M (E x3 (V x1) (0,0)).1 1))) (N x2)) (T (D.le 0 (Z .i64 (M (E x3 (V x1) (0,0)).2 1))) (T (U (V (Z .i64 (M (E x3 (V x1) (0,0)).2 1))) (N (E x2 (V (Z .i64 (M (E x3 (V x1) (0,0)).1 1))) []))) (T (U (V (Z .i64 (M (E x3 (V x1) (0,0)).1 1))) (N x2)) (T (U (V (Z .i64 (M (E x3 (V x1) (0,0)).2 1))) (N (E x2 (V (Z .i64 (M (E x3 (V x1) (0,0)).1 1))) []))) (aH.L2 k j x0 (Z .i64 (A x1 1)) (D.set x2 (V (Z .i64 (M (E x3 (V x1) (0,0)).1 1))) (D.set (E x2 (V (Z .i64 (M (E x3 (V x1) (0,0)).1 1))) []) (V (Z .i64 (M (E x3 (V x1) (0,0)).2 1))) (Z .i64 (A (E (E x2 (V (Z .i64 (M (E x3 (V x1) (0,0)).1 1))) []) (V (Z .i64 (M (E x3 (V x1) (0,0)).2 1))) 0) 1)))) x3) none) none) none) none) none) none) none) none) none) none) none) none) none) none) none) none) none) none) none) none) (some (x2,true)):=(jn _ _).trans (by kernel_rfl)
def dQ(k:Nat)(a0:(LI)×(LJ)):Option Bool:=call k 60 a0
theorem dQ.eq(k:Nat)(a0):dQ (k+1) a0=B (aE k (a0.1,a0.2)) fun r0=>T r0 (some (D.eq (O (N a0.1)) 0)) (some false):=by kernel_rfl
def IC:Code:=cB (cB (b9 P 94))
def ct(k:Nat)(a0 a1:LI):Option Bool:=call k 94 (a0,a1)
def ct.L0(k j:Nat)(x0:Int)(x1 x2:LI):Option Bool:=LL k 94 (cC (cC (cB (cA IC)))) j (a8 0 (JK k 94 (cB IC) (R0 94))) [frm 26 [(0,Sl 0),(1,Sl 1),(5,In x0)]] [Ro x1,Ro x2]
theorem ct.eq(k:Nat)(a0 a1):ct (k+1) a0 a1=T (D.no (D.eq (O (N a0)) (O (N a1)))) (some false) (ct.L0 k k 0 a0 a1):=by kernel_rfl
theorem ct.bp(k j:Nat)(x0 x1 x2):ct.L0 k (j+1) x0 x1 x2=T (D.lt x0 (O (N x1))) (T (D.le 0 x0) (T (U (V x0) (N x1)) (T (U (V x0) (N x1)) (T (D.le 0 x0) (T (U (V x0) (N x2)) (T (U (V x0) (N x2)) (T (D.no (D.eq (E x1 (V x0) 0) (E x2 (V x0) 0))) (some false) (ct.L0 k j (Z .i64 (A x0 1)) x1 x2)) none) none) none) none) none) none) (some true):=(jn _ _).trans (by kernel_rfl)
def ed(k:Nat)(a0 a1:(LI)×(LI)):Option Bool:=call k 112 (a0,a1)
theorem ed.eq(k:Nat)(a0 a1):ed (k+1) a0 a1=B (ct k a0.1 a1.1) fun r0=>T r0 (B (ct k a0.2 a1.2) fun r1=>some r1) (some false):=by kernel_rfl
def Iw:Code:=cB (cB (b9 P 115))
def bQ(k:Nat)(a0:(LI)×(LJ)):Option LI:=call k 115 a0
def bQ.L0(k j:Nat)(x0:Int)(x1 x2:LI)(x3:LJ):Option LI:=LL k 115 (cC (cC (cB (cA Iw)))) j (a8 0 (JK k 115 (cB Iw) (R0 115))) [frm 21 [(1,.pv 0 0),(3,Sl 1),(4,In x0)]] [.var [Sl 2,Sl 3],Rw x1,Ro x2,Roo x3]
theorem bQ.eq(k:Nat)(a0):bQ (k+1) a0=bQ.L0 k k 0 ([]:LI) a0.1 a0.2:=by kernel_rfl
theorem bQ.bp(k j:Nat)(x0 x1 x2 x3):bQ.L0 k (j+1) x0 x1 x2 x3=T (D.lt x0 (O (N x3))) (T (D.le 0 x0) (T (U (V x0) (N x3)) (T (U (V x0) (N x3)) (T (U (V x0) (N x3)) (T (D.leN (N (D.app x1 (E x3 (V x0) []))) 1099511627776) (bQ.L0 k j (Z .i64 (A x0 1)) (D.app x1 (E x3 (V x0) [])) x2 x3) none) none) none) none) none) (some x1):=(jn _ _).trans (by kernel_rfl)
def Ib:Code:=cB (cB (b9 P 114))
def cF(k:Nat)(a0:LI):Option Int:=call k 114 a0
def cF.L0(k j:Nat)(x0 x1:Int)(x2:LI):Option Int:=LL k 114 (cC (cC (cB (cA Ib)))) j (a8 0 (JK k 114 (cB Ib) (R0 114))) [frm 18 [(0,Sl 0),(3,In x0),(4,In x1)]] [Ro x2]
theorem cF.eq(k:Nat)(a0):cF (k+1) a0=cF.L0 k k 0 0 a0:=by kernel_rfl
theorem cF.bp(k j:Nat)(x0 x1 x2):cF.L0 k (j+1) x0 x1 x2=T (D.lt x1 (O (N x2))) (T (D.le 0 x1) (T (U (V x1) (N x2)) (T (U (V x1) (N x2)) (B (iu k x0 (E x2 (V x1) 0)) fun r0=>cF.L0 k j r0 (Z .i64 (A x1 1)) x2) none) none) none) (some x0):=(jn _ _).trans (by kernel_rfl)
def I6:Code:=cB (cB (cB (cB (cB (b9 P 116)))))
def HJ:Code:=cC (cC (cB (cA I6)))
def H4(k:Nat):cE (den (resTy P 116)):=a8 0 (JK k 116 (cB I6) (R0 116))
def IG:Code:=cB HJ
def HA:Code:=cC (cC (cB (cC (cA IG))))
def Jz(k k1:Nat):cE (den (resTy P 116)):=a8 2 (a8 1 (JK k 116 (cB IG) (LK k 116 HJ k1 (H4 k))))
def IB:Code:=cB HA
def Hf:Code:=cC (cC (cB (cC (cA IB))))
def I1(k k1 k2:Nat):cE (den (resTy P 116)):=a8 4 (a8 3 (JK k 116 (cB IB) (LK k 116 HA k2 (Jz k k1))))
def ah(k:Nat)(a0:(LI)×(LJ)):Option (((LI)×(LJ))×Bool):=call k 116 a0
def ah.L0(k j:Nat)(x0 x1:Int)(x2:LI)(x3:LJ)(x4:LI)(x5:LJ)(x6:LI)(x7:LJ)(x8 x9:LI):Option (((LI)×(LJ))×Bool):=LL k 116 HJ j (H4 k) [frm 59 [(1,.pv 0 0),(2,.pv 1 0),(4,.pv 2 0),(5,.pv 3 0),(7,In x0),(8,In x1)]] [.var [Sl 4,Sl 5],.var [Sl 6,Sl 7],.var [Sl 8,Sl 9],.var [Sl 10,Sl 11],Ro x2,Roo x3,Rw x4,Rww x5,Rw x6,Rww x7,Rw x8,Rw x9]
def ah.L1(k k1 j:Nat)(x0 x1 x2:Int)(x3:LI)(x4:LJ)(x5:LI)(x6:LJ)(x7:LI)(x8:LJ)(x9 x10:LI):Option (((LI)×(LJ))×Bool):=LL k 116 HA j (Jz k k1) [frm 59 [(1,.pv 0 0),(2,.pv 1 0),(4,.pv 2 0),(5,.pv 3 0),(7,In x0),(8,In x1),(9,In x2)]] [.var [Sl 4,Sl 5],.var [Sl 6,Sl 7],.var [Sl 8,Sl 9],.var [Sl 10,Sl 11],Ro x3,Roo x4,Rw x5,Rww x6,Rw x7,Rww x8,Rw x9,Rw x10]
def ah.L2(k k1 k2 j:Nat)(x0 x1 x2 x3:Int)(x4:LI)(x5:LJ)(x6:LI)(x7:LJ)(x8:LI)(x9:LJ)(x10 x11:LI):Option (((LI)×(LJ))×Bool):=LL k 116 Hf j (I1 k k1 k2) [frm 59 [(1,.pv 0 0),(2,.pv 1 0),(4,.pv 2 0),(5,.pv 3 0),(7,In x0),(8,In x1),(9,In x2),(10,In x3)]] [.var [Sl 4,Sl 5],.var [Sl 6,Sl 7],.var [Sl 8,Sl 9],.var [Sl 10,Sl 11],Ro x4,Roo x5,Rw x6,Rww x7,Rw x8,Rww x9,Rw x10,Rw x11]
def ah.J3(k k1 k2 k3:Nat)(x0 x1 x2 x3:Int)(x4:LI)(x5:LJ)(x6:LI)(x7:LJ)(x8:LI)(x9:LJ)(x10 x11:LI):Option (((LI)×(LJ))×Bool):=JJ k 116 (cB (cB Hf)) (LK k 116 Hf k3 (I1 k k1 k2)) [frm 59 [(1,.pv 0 0),(2,.pv 1 0),(4,.pv 2 0),(5,.pv 3 0),(7,In x0),(8,In x1),(9,In x2),(10,In x3)]] [.var [Sl 4,Sl 5],.var [Sl 6,Sl 7],.var [Sl 8,Sl 9],.var [Sl 10,Sl 11],Ro x4,Roo x5,Rw x6,Rww x7,Rw x8,Rww x9,Rw x10,Rw x11]
theorem ah.eq(k:Nat)(a0):ah (k+1) a0=B (aE k (a0.1,a0.2)) fun r0=>T (D.no r0) (some ((([]:LI),([]:LJ)),false)) (B (cJ k (a0.1,a0.2)) fun r1=>B (bG k (a0.1,a0.2)) fun r2=>ah.L0 k k 0 1 a0.1 a0.2 ([]:LI) ([]:LJ) r1.1 r1.2 r2.1.1 r2.1.2):=by kernel_rfl
theorem ah.bp(k j:Nat)(x0 x1 x2 x3 x4 x5 x6 x7 x8 x9):ah.L0 k (j+1) x0 x1 x2 x3 x4 x5 x6 x7 x8 x9=T (D.le x1 9) (ah.L1 k j k x0 x1 0 x2 x3 x4 x5 x6 x7 x8 x9) (some ((x6,x7),true)):=(jn _ _).trans (by kernel_rfl)
theorem ah.cO(k k1 j:Nat)(x0 x1 x2 x3 x4 x5 x6 x7 x8 x9 x10):ah.L1 k k1 (j+1) x0 x1 x2 x3 x4 x5 x6 x7 x8 x9 x10=T (D.lt x2 9) (ah.L2 k k1 j k x0 x1 x2 0 x3 x4 x5 x6 x7 x8 x9 x10) (ah.L0 k k1 x0 (Z .i64 (A x1 1)) x3 x4 x5 x6 x7 x8 x9 x10):=(jn _ _).trans (by kernel_rfl)
theorem ah.gB(k k1 k2 j:Nat)(x0 x1 x2 x3 x4 x5 x6 x7 x8 x9 x10 x11):ah.L2 k k1 k2 (j+1) x0 x1 x2 x3 x4 x5 x6 x7 x8 x9 x10 x11=T (D.lt x3 (O (N x10))) (B (bL k (x4,x5) x3 x2) fun r3=>T (D.eq r3 x1) (T (D.le 0 x3) (T (U (V x3) (N x9)) (T (U (V x3) (N x9)) (B (dD k x11 x3) fun r4=>T (U (V x3) (N x9)) (T (D.le 0 (Z .i64 (M x2 r4))) (T (U (V (Z .i64 (M x2 r4))) (N (E x9 (V x3) []))) (T (U (V x3) (N x9)) (T (U (V (Z .i64 (M x2 r4))) (N (E x9 (V x3) []))) (ah.J3 k k1 k2 j (Z .i64 (A x0 1)) x1 x2 x3 x4 x5 x6 x7 x8 (D.set x9 (V x3) (D.set (E x9 (V x3) []) (V (Z .i64 (M x2 r4))) (Z .i64 (A x0 1)))) x10 x11) none) none) none) none) none) none) none) none) (ah.J3 k k1 k2 j x0 x1 x2 x3 x4 x5 x6 x7 x8 x9 x10 x11)) (ah.L1 k k1 k2 x0 x1 (Z .i64 (A x2 1)) x4 x5 x6 x7 x8 x9 x10 x11):=(jn _ _).trans (by kernel_rfl)
theorem ah.sC(k k1 k2 k3:Nat)(x0 x1 x2 x3 x4 x5 x6 x7 x8 x9 x10 x11):ah.J3 k k1 k2 k3 x0 x1 x2 x3 x4 x5 x6 x7 x8 x9 x10 x11=ah.L2 k k1 k2 k3 x0 x1 x2 (Z .i64 (A x3 1)) x4 x5 x6 x7 x8 x9 x10 x11:=(jn _ _).trans (by kernel_rfl)
def IL:Code:=cB (cB (cB (cB (b9 P 127))))
def HD:Code:=cC (cC (cB (cA IL)))
def I7(k:Nat):cE (den (resTy P 127)):=a8 0 (JK k 127 (cB IL) (R0 127))
def Jk:Code:=cB HD
def bD(k:Nat)(a0:(LI)×(LJ)):Option Bool:=call k 127 a0
def bD.L0(k j:Nat)(x0:Int)(x1:LI)(x2:List Bool):Option Bool:=LL k 127 HD j (I7 k) [frm 40 [(3,Sl 0),(4,Sl 1),(5,In x0)]] [Rw x1,.row Bool.true .bool x2]
def bD.J1(k k1:Nat)(x0:Int)(x1:LI)(x2:List Bool):Option Bool:=JJ k 127 (cB (cC (cA Jk))) (a8 1 (JK k 127 (cB Jk) (LK k 127 HD k1 (I7 k)))) [frm 40 [(3,Sl 0),(4,Sl 1),(5,In x0)]] [Rw x1,.row Bool.true .bool x2]
theorem bD.eq(k:Nat)(a0):bD (k+1) a0=B (aE k (a0.1,a0.2)) fun r0=>T (D.no r0) (some false) (B (bQ k (a0.1,a0.2)) fun r1=>T (D.le 0 10) (T (D.le 10 10) (T (D.leN (V 10) 1099511627776) (bD.L0 k k 0 r1 (D.rep (V 10) false)) none) none) none):=by kernel_rfl
theorem bD.bp(k j:Nat)(x0 x1 x2):bD.L0 k (j+1) x0 x1 x2=T (D.lt x0 (O (N x1))) (T (D.le 0 x0) (T (U (V x0) (N x1)) (T (U (V x0) (N x1)) (T (D.lt (O (N x1)) (E x1 (V x0) 0)) (some false) (T (D.le 0 x0) (T (U (V x0) (N x1)) (T (U (V x0) (N x1)) (T (D.le 0 (E x1 (V x0) 0)) (T (U (V (E x1 (V x0) 0)) (N x2)) (T (U (V (E x1 (V x0) 0)) (N x2)) (T (E x2 (V (E x1 (V x0) 0)) false) (some false) (bD.J1 k j x0 x1 x2)) none) none) none) none) none) none)) none) none) none) (some true):=(jn _ _).trans (by kernel_rfl)
theorem bD.fb(k k1:Nat)(x0 x1 x2):bD.J1 k k1 x0 x1 x2=T (D.le 0 x0) (T (U (V x0) (N x1)) (T (U (V x0) (N x1)) (T (D.le 0 (E x1 (V x0) 0)) (T (U (V (E x1 (V x0) 0)) (N x2)) (T (U (V (E x1 (V x0) 0)) (N x2)) (bD.L0 k k1 (Z .i64 (A x0 1)) x1 (D.set x2 (V (E x1 (V x0) 0)) true)) none) none) none) none) none) none:=(jn _ _).trans (by kernel_rfl)
def Ja:Code:=cB (cB (b9 P 96))
def dk(k:Nat)(a0:LI):Option Int:=call k 96 a0
def dk.L0(k j:Nat)(x0 x1:Int)(x2:LI):Option Int:=LL k 96 (cC (cC (cB (cA Ja)))) j (a8 0 (JK k 96 (cB Ja) (R0 96))) [frm 18 [(0,Sl 0),(3,In x0),(4,In x1)]] [Ro x2]
theorem dk.eq(k:Nat)(a0):dk (k+1) a0=dk.L0 k k 0 0 a0:=by kernel_rfl
theorem dk.bp(k j:Nat)(x0 x1 x2):dk.L0 k (j+1) x0 x1 x2=T (D.lt x1 (O (N x2))) (T (D.le 0 x1) (T (U (V x1) (N x2)) (T (U (V x1) (N x2)) (dk.L0 k j (Z .i64 (A x0 (E x2 (V x1) 0))) (Z .i64 (A x1 1)) x2) none) none) none) (some x0):=(jn _ _).trans (by kernel_rfl)
def Ik:Code:=cB (cB (b9 P 162))
def Hv:Code:=cC (cC (cB (cA Ik)))
def I0(k:Nat):cE (den (resTy P 162)):=a8 0 (JK k 162 (cB Ik) (R0 162))
def Ie:Code:=cB Hv
def bn(k:Nat)(a0:(LI)×(LJ))(a1:Int):Option Int:=call k 162 (a0,a1)
def bn.L0(k j:Nat)(x0 x1:Int)(x2:LI)(x3:LJ):Option Int:=LL k 162 Hv j (I0 k) [frm 38 [(1,In x0),(2,.pv 0 0),(5,In x1)]] [.var [Sl 1,Sl 2],Ro x2,Roo x3]
def bn.L1(k k1 j:Nat)(x0 x1 x2:Int)(x3:LI)(x4:LJ):Option Int:=LL k 162 (cC (cC (cB (cC (cA Ie))))) j (a8 2 (a8 1 (JK k 162 (cB Ie) (LK k 162 Hv k1 (I0 k))))) [frm 38 [(1,In x0),(2,.pv 0 0),(5,In x1),(6,In x2)]] [.var [Sl 1,Sl 2],Ro x3,Roo x4]
theorem bn.eq(k:Nat)(a0 a1):bn (k+1) a0 a1=B (bD k (a0.1,a0.2)) fun r0=>T (D.no r0) (some (-1)) (bn.L0 k k a1 0 a0.1 a0.2):=by kernel_rfl
theorem bn.bp(k j:Nat)(x0 x1 x2 x3):bn.L0 k (j+1) x0 x1 x2 x3=T (D.lt x1 (O (N x3))) (bn.L1 k j k x0 x1 0 x2 x3) (some (-1)):=(jn _ _).trans (by kernel_rfl)
theorem bn.cO(k k1 j:Nat)(x0 x1 x2 x3 x4):bn.L1 k k1 (j+1) x0 x1 x2 x3 x4=T (D.le 0 x1) (T (U (V x1) (N x4)) (T (U (V x1) (N x4)) (T (U (V x1) (N x4)) (T (D.lt x2 (O (N (E x4 (V x1) [])))) (T (D.le 0 x1) (T (U (V x1) (N x4)) (T (U (V x1) (N x4)) (T (U (V x1) (N x4)) (T (D.le 0 x2) (T (U (V x2) (N (E x4 (V x1) []))) (T (U (V x1) (N x4)) (T (U (V x2) (N (E x4 (V x1) []))) (T (D.eq (E (E x4 (V x1) []) (V x2) 0) x0) (some x1) (bn.L1 k k1 j x0 x1 (Z .i64 (A x2 1)) x3 x4)) none) none) none) none) none) none) none) none) (bn.L0 k k1 x0 (Z .i64 (A x1 1)) x3 x4)) none) none) none) none:=(jn _ _).trans (by kernel_rfl)
def GQ:Code:=cB (cB (cB (cB (cB (cB (b9 P 161))))))
def Gw:Code:=cC (cC (cB (cA GQ)))
def HP(k:Nat):cE (den (resTy P 161)):=a8 0 (JK k 161 (cB GQ) (R0 161))
def Jm:Code:=cB Gw
def I2:Code:=cB (cC (cA Jm))
def Jg:Code:=cC (cC (cA I2))
def Jj(k k1:Nat):cE (den (resTy P 161)):=a8 2 (JK k 161 (cB I2) (a8 1 (JK k 161 (cB Jm) (LK k 161 Gw k1 (HP k)))))
def ao(k:Nat)(a0:(LI)×(LJ))(a1:Int):Option (((LI)×(LJ))×Int):=call k 161 (a0,a1)
def ao.J0(k:Nat)(x0 x1:Int)(x2 x3:Nat)(x4:LI)(x5:LJ)(x6:LI)(x7:LJ):Option (((LI)×(LJ))×Int):=JJ k 161 GQ (R0 161) [frm 91 [(1,In x0),(4,.pv 0 0),(6,.pv 1 0),(8,In x1)]] [.var [Sl 2,Sl 3],.var [Sl 4,.sl 5 [] (Option.some (x2,x3))],Rw x4,Rww x5,Rw x6,Rww x7]
def ao.J1(k:Nat)(x0 x1:Int)(x2:LI)(x3:LJ)(x4:LI)(x5:LJ):Option (((LI)×(LJ))×Int):=JJ k 161 GQ (R0 161) [frm 91 [(1,In x0),(4,.pv 0 0),(6,.pv 1 0),(8,In x1)]] [.var [Sl 2,Sl 3],.var [Sl 4,Sl 5],Rw x2,Rww x3,Rw x4,Rww x5]
def ao.L2(k j:Nat)(x0 x1:Int)(x2 x3:Nat)(x4:LI)(x5:LJ)(x6:LI)(x7:LJ):Option (((LI)×(LJ))×Int):=LL k 161 Gw j (HP k) [frm 91 [(4,.pv 0 0),(6,.pv 1 0),(8,In x0),(9,In x1)]] [.var [Sl 2,Sl 3],.var [Sl 4,.sl 5 [] (Option.some (x2,x3))],Rw x4,Rww x5,Rw x6,Rww x7]
def ao.L3(k j:Nat)(x0 x1:Int)(x2:LI)(x3:LJ)(x4:LI)(x5:LJ):Option (((LI)×(LJ))×Int):=LL k 161 Gw j (HP k) [frm 91 [(4,.pv 0 0),(6,.pv 1 0),(8,In x0),(9,In x1)]] [.var [Sl 2,Sl 3],.var [Sl 4,Sl 5],Rw x2,Rww x3,Rw x4,Rww x5]
def ao.L4(k k1 j:Nat)(x0 x1 x2:Int)(x3 x4:Nat)(x5:LI)(x6:LJ)(x7:LI)(x8:LJ):Option (((LI)×(LJ))×Int):=LL k 161 Jg j (Jj k k1) [frm 91 [(4,.pv 0 0),(6,.pv 1 0),(8,In x0),(9,In x1),(10,In x2)]] [.var [Sl 2,Sl 3],.var [Sl 4,.sl 5 [] (Option.some (x3,x4))],Rw x5,Rww x6,Rw x7,Rww x8]
def ao.L5(k k1 j:Nat)(x0 x1 x2:Int)(x3:LI)(x4:LJ)(x5:LI)(x6:LJ):Option (((LI)×(LJ))×Int):=LL k 161 Jg j (Jj k k1) [frm 91 [(4,.pv 0 0),(6,.pv 1 0),(8,In x0),(9,In x1),(10,In x2)]] [.var [Sl 2,Sl 3],.var [Sl 4,Sl 5],Rw x3,Rww x4,Rw x5,Rww x6]
theorem ao.eq(k:Nat)(a0 a1):ao (k+1) a0 a1=B (cJ k (a0.1,a0.2)) fun r0=>T (D.le 0 a1) (T (U (V a1) (N r0.2)) (T (U (V a1) (N r0.2)) (T (U (V a1) (N r0.2)) (T (D.le 0 a1) (T (U (V a1) (N r0.2)) (T (U (V a1) (N r0.2)) (T (U (V a1) (N r0.2)) (T (D.le 0 (Z .i64 (M (O (N (E r0.2 (V a1) []))) 1))) (T (U (V (Z .i64 (M (O (N (E r0.2 (V a1) []))) 1))) (N (E r0.2 (V a1) []))) (T (U (V a1) (N r0.2)) (T (U (V (Z .i64 (M (O (N (E r0.2 (V a1) []))) 1))) (N (E r0.2 (V a1) []))) (T (D.le 0 a1) (T (U (V a1) (N r0.2)) (T (U (V a1) (N r0.2)) (T (U (V a1) (N r0.2)) (T (D.le 0 (Z .i64 (M (O (N (E r0.2 (V a1) []))) 1))) (T (D.leN (V (Z .i64 (M (O (N (E r0.2 (V a1) []))) 1))) (N (E r0.2 (V a1) []))) (T (D.le 0 a1) (T (U (V a1) (N r0.2)) (T (U (V a1) (N r0.2)) (T (U (V a1) (N r0.2)) (T (D.eqP (((V a1),0)::([]:List (Nat×Nat))) (((V a1),0)::([]:List (Nat×Nat)))) (T (D.eq (Z .i64 (M (O (N (E r0.2 (V a1) []))) 1)) 0) (T (D.le 0 a1) (T (D.leN (V a1) (N (D.set r0.2 (V a1) (D.take (D.subN (V (Z .i64 (M (O (N (E r0.2 (V a1) []))) 1))) 0) (D.drop 0 (E r0.2 (V a1) [])))))) (ao.J0 k a1 (E (E r0.2 (V a1) []) (V (Z .i64 (M (O (N (E r0.2 (V a1) []))) 1))) 0) 0 (D.subN (V a1) 0) ([]:LI) ([]:LJ) r0.1 (D.set r0.2 (V a1) (D.take (D.subN (V (Z .i64 (M (O (N (E r0.2 (V a1) []))) 1))) 0) (D.drop 0 (E r0.2 (V a1) []))))) none) none) (ao.J1 k a1 (E (E r0.2 (V a1) []) (V (Z .i64 (M (O (N (E r0.2 (V a1) []))) 1))) 0) ([]:LI) ([]:LJ) r0.1 (D.set r0.2 (V a1) (D.take (D.subN (V (Z .i64 (M (O (N (E r0.2 (V a1) []))) 1))) 0) (D.drop 0 (E r0.2 (V a1) [])))))) none) none) none) none) none) none) none) none) none) none) none) none) none) none) none) none) none) none) none) none) none) none) none:=by kernel_rfl
theorem ao.fT(k:Nat)(x0 x1 x2 x3 x4 x5 x6 x7):ao.J0 k x0 x1 x2 x3 x4 x5 x6 x7=ao.L2 k k x1 (Z .i64 (M x0 1)) x2 x3 x4 x5 x6 x7:=(jn _ _).trans (by kernel_rfl)
theorem ao.fb(k:Nat)(x0 x1 x2 x3 x4 x5):ao.J1 k x0 x1 x2 x3 x4 x5=ao.L3 k k x1 (Z .i64 (M x0 1)) x2 x3 x4 x5:=(jn _ _).trans (by kernel_rfl)
theorem ao.gB(k j:Nat)(x0 x1 x2 x3 x4 x5 x6 x7):ao.L2 k (j+1) x0 x1 x2 x3 x4 x5 x6 x7=T (D.le 0 x1) (T (D.le 0 x1) (T (U (V x1) x3) (T (U (D.addN x2 (V x1)) (N x7)) (T (U (D.addN x2 (V x1)) (N x7)) (ao.L4 k j k x0 x1 (Z .i64 (M (O (N (E x7 (D.addN x2 (V x1)) []))) 1)) x2 x3 x4 x5 x6 x7) none) none) none) none) (some ((x6,(D.take x3 (D.drop x2 x7))),x0)):=(jn _ _).trans (by kernel_rfl)
theorem ao.nO(k j:Nat)(x0 x1 x2 x3 x4 x5):ao.L3 k (j+1) x0 x1 x2 x3 x4 x5=T (D.le 0 x1) (T (D.le 0 x1) (T (U (V x1) (N x5)) (T (U (V x1) (N x5)) (T (U (V x1) (N x5)) (ao.L5 k j k x0 x1 (Z .i64 (M (O (N (E x5 (V x1) []))) 1)) x2 x3 x4 x5) none) none) none) none) (some ((x4,x5),x0)):=(jn _ _).trans (by kernel_rfl)
theorem ao.wI(k k1 j:Nat)(x0 x1 x2 x3 x4 x5 x6 x7 x8):ao.L4 k k1 (j+1) x0 x1 x2 x3 x4 x5 x6 x7 x8=T (D.le 0 x1) (T (U (V x1) x4) (T (U (D.addN x3 (V x1)) (N x8)) (T (U (D.addN x3 (V x1)) (N x8)) (T (D.le 0 x2) (T (U (V x2) (N (E x8 (D.addN x3 (V x1)) []))) (T (U (D.addN x3 (V x1)) (N x8)) (T (U (V x2) (N (E x8 (D.addN x3 (V x1)) []))) (T (D.le x0 (E (E x8 (D.addN x3 (V x1)) []) (V x2) 0)) (ao.L4 k k1 j x0 x1 (Z .i64 (M x2 1)) x3 x4 x5 x6 x7 x8) (T (D.le 0 x1) (T (U (V x1) x4) (T (U (D.addN x3 (V x1)) (N x8)) (T (U (D.addN x3 (V x1)) (N x8)) (T (D.le 0 x2) (T (U (V x2) (N (E x8 (D.addN x3 (V x1)) []))) (T (U (D.addN x3 (V x1)) (N x8)) (T (U (V x2) (N (E x8 (D.addN x3 (V x1)) []))) (T (D.le 0 x1) (T (U (V x1) x4) (T (U (D.addN x3 (V x1)) (N x8)) (T (U (D.addN x3 (V x1)) (N x8)) (T (D.le 0 x2) (T (U (V x2) (N (E x8 (D.addN x3 (V x1)) []))) (T (U (D.addN x3 (V x1)) (N x8)) (T (U (V x2) (N (E x8 (D.addN x3 (V x1)) []))) (ao.L2 k k1 (E (E x8 (D.addN x3 (V x1)) []) (V x2) 0) (Z .i64 (M x1 1)) x3 x4 x5 x6 x7 (D.set x8 (D.addN x3 (V x1)) (D.set (E x8 (D.addN x3 (V x1)) []) (V x2) x0))) none) none) none) none) none) none) none) none) none) none) none) none) none) none) none) none)) none) none) none) none) none) none) none) none:=(jn _ _).trans (by kernel_rfl)
theorem ao.C3(k k1 j:Nat)(x0 x1 x2 x3 x4 x5 x6):ao.L5 k k1 (j+1) x0 x1 x2 x3 x4 x5 x6=T (D.le 0 x1) (T (U (V x1) (N x6)) (T (U (V x1) (N x6)) (T (U (V x1) (N x6)) (T (D.le 0 x2) (T (U (V x2) (N (E x6 (V x1) []))) (T (U (V x1) (N x6)) (T (U (V x2) (N (E x6 (V x1) []))) (T (D.le x0 (E (E x6 (V x1) []) (V x2) 0)) (ao.L5 k k1 j x0 x1 (Z .i64 (M x2 1)) x3 x4 x5 x6) (T (D.le 0 x1) (T (U (V x1) (N x6)) (T (U (V x1) (N x6)) (T (U (V x1) (N x6)) (T (D.le 0 x2) (T (U (V x2) (N (E x6 (V x1) []))) (T (U (V x1) (N x6)) (T (U (V x2) (N (E x6 (V x1) []))) (T (D.le 0 x1) (T (U (V x1) (N x6)) (T (U (V x1) (N x6)) (T (U (V x1) (N x6)) (T (D.le 0 x2) (T (U (V x2) (N (E x6 (V x1) []))) (T (U (V x1) (N x6)) (T (U (V x2) (N (E x6 (V x1) []))) (ao.L3 k k1 (E (E x6 (V x1) []) (V x2) 0) (Z .i64 (M x1 1)) x3 x4 x5 (D.set x6 (V x1) (D.set (E x6 (V x1) []) (V x2) x0))) none) none) none) none) none) none) none) none) none) none) none) none) none) none) none) none)) none) none) none) none) none) none) none) none:=(jn _ _).trans (by kernel_rfl)
def Ji:Code:=cB (cB (cB (cB (b9 P 117))))
def Il:Code:=cB (cB (cB Ji))
def Iy:Code:=cC (cC (cB (cA Il)))
def JE(k:Nat):cE (den (resTy P 117)):=a8 0 (JK k 117 (cB Il) (R0 117))
def aW(k:Nat)(a0 a1:(LI)×(LJ)):Option ((LI)×Bool):=call k 117 (a0,a1)
def aW.J0(k:Nat)(x0:LI)(x1:LJ)(x2:LI)(x3:LJ)(x4 x5:LI):Option ((LI)×Bool):=JJ k 117 Ji (R0 117) [frm 80 [(2,.pv 0 0),(3,.pv 1 0),(6,.pv 2 0)]] [.var [Sl 3,Sl 4],.var [Sl 5,Sl 6],.var [Sl 7,Sl 8],Ro x0,Roo x1,Ro x2,Roo x3,Rw x4,Rw x5]
def aW.L1(k j:Nat)(x0:Int)(x1 x2:LI)(x3:LJ)(x4:LI)(x5:LJ):Option ((LI)×Bool):=LL k 117 Iy j (JE k) [frm 80 [(3,.pv 0 0),(11,Sl 1),(12,.pv 2 0),(13,In x0)]] [.var [Sl 3,Sl 4],Rw x1,.var [Sl 5,Sl 6],Ro x2,Roo x3,Ro x4,Roo x5]
def aW.L2(k j:Nat)(x0:Int)(x1 x2:LI)(x3:LJ)(x4:LI)(x5:LJ):Option ((LI)×Bool):=LL k 117 Iy j (JE k) [frm 80 [(3,.pv 0 0),(11,Sl 1),(12,.pv 2 0),(13,In x0)]] [.var [Sl 3,Sl 4],Rw x1,.var [Sl 5,Sl 6],Ro x2,Roo x3,Rw x4,Rww x5]
theorem aW.eq(k:Nat)(a0 a1):aW (k+1) a0 a1=B (bG k (a0.1,a0.2)) fun r0=>B (bG k (a1.1,a1.2)) fun r1=>T (D.no r0.2) (some (([]:LI),false)) (T (D.no r1.2) (some (([]:LI),false)) (B (dQ k (a0.1,a0.2)) fun r2=>T (D.no r2) (some (([]:LI),false)) (B (dQ k (a1.1,a1.2)) fun r3=>T (D.no r3) (some (([]:LI),false)) (B (bD k (a1.1,a1.2)) fun r4=>T (D.no r4) (some (([]:LI),false)) (B (ed k (r0.1.1,r0.1.2) (r1.1.1,r1.1.2)) fun r5=>T (D.no r5) (some (([]:LI),false)) (aW.J0 k a0.1 a0.2 a1.1 a1.2 r0.1.1 r0.1.2)))))):=by kernel_rfl
theorem aW.fT(k:Nat)(x0 x1 x2 x3 x4 x5):aW.J0 k x0 x1 x2 x3 x4 x5=B (dk k x4) fun r6=>T (D.le 0 r6) (T (D.le r6 r6) (T (D.leN (V r6) 1099511627776) (aW.L1 k k r6 (D.rep (V r6) (0:Int)) x2 x3 x0 x1) none) none) none:=(jn _ _).trans (by kernel_rfl)
theorem aW.cO(k j:Nat)(x0 x1 x2 x3 x4 x5):aW.L1 k (j+1) x0 x1 x2 x3 x4 x5=T (D.le 1 x0) (B (bn k (x2,x3) x0) fun r7=>B (ao k (x4,x5) r7) fun r8=>T (D.le 0 (Z .i64 (M x0 1))) (T (U (V (Z .i64 (M x0 1))) (N x1)) (T (U (V (Z .i64 (M x0 1))) (N x1)) (aW.L2 k j (Z .i64 (M x0 1)) (D.set x1 (V (Z .i64 (M x0 1))) r8.2) x2 x3 r8.1.1 r8.1.2) none) none) none) (some (x1,true)):=(jn _ _).trans (by kernel_rfl)
theorem aW.gB(k j:Nat)(x0 x1 x2 x3 x4 x5):aW.L2 k (j+1) x0 x1 x2 x3 x4 x5=T (D.le 1 x0) (B (bn k (x2,x3) x0) fun r9=>B (ao k (x4,x5) r9) fun r10=>T (D.le 0 (Z .i64 (M x0 1))) (T (U (V (Z .i64 (M x0 1))) (N x1)) (T (U (V (Z .i64 (M x0 1))) (N x1)) (aW.L2 k j (Z .i64 (M x0 1)) (D.set x1 (V (Z .i64 (M x0 1))) r10.2) x2 x3 r10.1.1 r10.1.2) none) none) none) (some (x1,true)):=(jn _ _).trans (by kernel_rfl)
def IP:Code:=cB (cB (b9 P 118))
def Hh:Code:=cC (cC (cB (cA IP)))
def Ip(k:Nat):cE (den (resTy P 118)):=a8 0 (JK k 118 (cB IP) (R0 118))
def Ig:Code:=cB Hh
def IT:Code:=cB (cC (cA Ig))
def HT:Code:=cC (cC (cA IT))
def IJ:Code:=cB IT
def JA(k k1:Nat):cE (den (resTy P 118)):=a8 1 (JK k 118 (cB Ig) (LK k 118 Hh k1 (Ip k)))
def IQ(k k1:Nat):cE (den (resTy P 118)):=a8 2 (JK k 118 IJ (JA k k1))
def aQ(k:Nat)(a0:LI):Option LI:=call k 118 a0
def aQ.L0(k j:Nat)(x0:Int)(x1 x2:LI):Option LI:=LL k 118 Hh j (Ip k) [frm 49 [(0,Sl 0),(3,Sl 1),(4,In x0)]] [Ro x1,Rw x2]
def aQ.L1(k k1 j:Nat)(x0 x1:Int)(x2 x3:LI):Option LI:=LL k 118 HT j (IQ k k1) [frm 49 [(0,Sl 0),(3,Sl 1),(4,In x0),(5,In x1)]] [Ro x2,Rw x3]
def aQ.J2(k k1 k2:Nat)(x0 x1:Int)(x2 x3:LI):Option LI:=JJ k 118 (cB HT) (LK k 118 HT k2 (IQ k k1)) [frm 49 [(0,Sl 0),(3,Sl 1),(4,In x0),(5,In x1)]] [Ro x2,Rw x3]
def aQ.J3(k k1:Nat)(x0 x1:Int)(x2 x3:LI):Option LI:=JJ k 118 IJ (JA k k1) [frm 49 [(0,Sl 0),(3,Sl 1),(4,In x0),(5,In x1)]] [Ro x2,Rw x3]
theorem aQ.eq(k:Nat)(a0):aQ (k+1) a0=aQ.L0 k k 0 a0 ([]:LI):=by kernel_rfl
theorem aQ.bp(k j:Nat)(x0 x1 x2):aQ.L0 k (j+1) x0 x1 x2=T (D.lt x0 (O (N x1))) (aQ.L1 k j k x0 (O (N x2)) x1 x2) (some x2):=(jn _ _).trans (by kernel_rfl)
theorem aQ.cO(k k1 j:Nat)(x0 x1 x2 x3):aQ.L1 k k1 (j+1) x0 x1 x2 x3=T (D.lt 0 x1) (T (D.le 0 (Z .i64 (M x1 1))) (T (U (V (Z .i64 (M x1 1))) (N x3)) (T (U (V (Z .i64 (M x1 1))) (N x3)) (T (D.le 0 x0) (T (U (V x0) (N x2)) (T (U (V x0) (N x2)) (T (D.lt (E x2 (V x0) 0) (E x3 (V (Z .i64 (M x1 1))) 0)) (aQ.J2 k k1 j x0 x1 x2 x3) (aQ.J3 k k1 x0 x1 x2 x3)) none) none) none) none) none) none) (aQ.J3 k k1 x0 x1 x2 x3):=(jn _ _).trans (by kernel_rfl)
theorem aQ.kx(k k1 k2:Nat)(x0 x1 x2 x3):aQ.J2 k k1 k2 x0 x1 x2 x3=aQ.L1 k k1 k2 x0 (Z .i64 (M x1 1)) x2 x3:=(jn _ _).trans (by kernel_rfl)
theorem aQ.sC(k k1:Nat)(x0 x1 x2 x3):aQ.J3 k k1 x0 x1 x2 x3=T (D.le 0 x1) (T (D.leN (V x1) (N x3)) (T (D.leN (N (D.app ([]:LI) (D.take (D.subN (N x3) (V x1)) (D.drop (V x1) x3)))) 1099511627776) (T (D.le 0 x1) (T (D.leN (V x1) (N x3)) (T (D.le 0 x0) (T (U (V x0) (N x2)) (T (U (V x0) (N x2)) (T (D.leN (N (D.app (D.take (D.subN (V x1) 0) (D.drop 0 x3)) ((E x2 (V x0) 0)::([]:LI)))) 1099511627776) (T (D.leN (N (D.app (D.app (D.take (D.subN (V x1) 0) (D.drop 0 x3)) ((E x2 (V x0) 0)::([]:LI))) (D.app ([]:LI) (D.take (D.subN (N x3) (V x1)) (D.drop (V x1) x3))))) 1099511627776) (aQ.L0 k k1 (Z .i64 (A x0 1)) x2 (D.app (D.app (D.take (D.subN (V x1) 0) (D.drop 0 x3)) ((E x2 (V x0) 0)::([]:LI))) (D.app ([]:LI) (D.take (D.subN (N x3) (V x1)) (D.drop (V x1) x3))))) none) none) none) none) none) none) none) none) none) none:=(jn _ _).trans (by kernel_rfl)
def H8:Code:=cB (cB (cB (cB (b9 P 35))))
def Jo:Code:=cB (cB (cB (cB H8)))
def Hj:Code:=cB Jo
def aL(k:Nat)(a0 a1:(LI)×(LJ))(a2 a3:Int):Option ((LJ)×Bool):=call k 35 (a0,a1,a2,a3)
def aL.J0(k:Nat)(x0 x1:Int)(x2:LI)(x3:LJ)(x4:LI)(x5:LJ):Option ((LJ)×Bool):=JJ k 35 H8 (R0 35) [frm 141 [(2,In x0),(3,In x1),(4,.pv 0 0),(5,.pv 1 0)]] [.var [Sl 2,Sl 3],.var [Sl 4,Sl 5],Ro x2,Roo x3,Ro x4,Roo x5]
def aL.L1(k j:Nat)(x0 x1 x2:Int)(x3 x4:LI)(x5:LJ):Option ((LJ)×Bool):=LL k 35 (cC (cC (cB (cA Jo)))) j (a8 0 (JK k 35 Hj (R0 35))) [frm 141 [(2,In x0),(3,In x1),(16,Sl 0),(18,Sl 1),(19,Sl 2),(20,In x2)]] [Rw x3,Rw x4,Rww x5]
def aL.L2(k j:Nat)(x0:Int)(x1 x2:LI)(x3:LJ):Option ((LJ)×Bool):=LL k 35 (cC (cC (cB (cA Hj)))) j (a8 2 (JK k 35 (cB Hj) (R0 35))) [frm 141 [(16,Sl 0),(18,Sl 1),(19,Sl 2),(21,In x0)]] [Rw x1,Rw x2,Rww x3]
theorem aL.eq(k:Nat)(a0 a1 a2 a3):aL (k+1) a0 a1 a2 a3=B (bG k (a0.1,a0.2)) fun r0=>B (bG k (a1.1,a1.2)) fun r1=>T (D.no r0.2) (some (([]:LJ),false)) (T (D.no r1.2) (some (([]:LJ),false)) (B (dQ k (a0.1,a0.2)) fun r2=>T (D.no r2) (some (([]:LJ),false)) (B (dQ k (a1.1,a1.2)) fun r3=>T (D.no r3) (some (([]:LJ),false)) (B (ed k (r0.1.1,r0.1.2) (r1.1.1,r1.1.2)) fun r4=>T (D.no r4) (some (([]:LJ),false)) (B (fg k a2 1 9) fun r5=>T (D.no r5) (some (([]:LJ),false)) (B (fg k a3 1 9) fun r6=>T (D.no r6) (some (([]:LJ),false)) (B (bQ k (a1.1,a1.2)) fun r7=>B (cF k r7) fun r8=>T (D.lt a2 r8) (some (([]:LJ),false)) (B (bQ k (a0.1,a0.2)) fun r9=>B (cF k r9) fun r10=>T (D.lt a3 r10) (some (([]:LJ),false)) (aL.J0 k a2 a3 a0.1 a0.2 a1.1 a1.2))))))))):=by kernel_rfl
theorem aL.fT(k:Nat)(x0 x1 x2 x3 x4 x5):aL.J0 k x0 x1 x2 x3 x4 x5=B (ah k (x4,x5)) fun r11=>B (aW k (x2,x3) (r11.1.1,r11.1.2)) fun r12=>B (bQ k (x4,x5)) fun r13=>B (aQ k r13) fun r14=>aL.L1 k k x0 x1 0 r12.1 r14 ([]:LJ):=(jn _ _).trans (by kernel_rfl)
theorem aL.cO(k j:Nat)(x0 x1 x2 x3 x4 x5):aL.L1 k (j+1) x0 x1 x2 x3 x4 x5=T (D.lt x2 x0) (T (D.le 0 x1) (T (D.le x1 x1) (T (D.leN (V x1) 1099511627776) (T (D.leN (N (D.app x5 ((D.rep (V x1) (0:Int))::([]:LJ)))) 1099511627776) (aL.L1 k j x0 x1 (Z .i64 (A x2 1)) x3 x4 (D.app x5 ((D.rep (V x1) (0:Int))::([]:LJ)))) none) none) none) none) (aL.L2 k k 0 x3 x4 x5):=(jn _ _).trans (by kernel_rfl)
theorem aL.gB(k j:Nat)(x0 x1 x2 x3):aL.L2 k (j+1) x0 x1 x2 x3=T (D.lt x0 (O (N x1))) (T (D.le 0 x0) (T (U (V x0) (N x2)) (T (U (V x0) (N x2)) (T (D.le 0 (Z .i64 (M (E x2 (V x0) 0) 1))) (T (U (V (Z .i64 (M (E x2 (V x0) 0) 1))) (N x3)) (T (U (V (Z .i64 (M (E x2 (V x0) 0) 1))) (N x3)) (T (D.le 0 x0) (T (U (V x0) (N x1)) (T (U (V x0) (N x1)) (T (D.le 0 x0) (T (U (V x0) (N x2)) (T (U (V x0) (N x2)) (T (D.le 0 (Z .i64 (M (E x2 (V x0) 0) 1))) (T (U (V (Z .i64 (M (E x2 (V x0) 0) 1))) (N x3)) (T (U (V (Z .i64 (M (E x2 (V x0) 0) 1))) (N x3)) (T (D.le 0 x0) (T (U (V x0) (N x1)) (T (U (V x0) (N x1)) (T (U (V (Z .i64 (M (E x2 (V x0) 0) 1))) (N x3)) (T (D.le 0 (Z .i64 (M (E x1 (V x0) 0) 1))) (T (U (V (Z .i64 (M (E x1 (V x0) 0) 1))) (N (E x3 (V (Z .i64 (M (E x2 (V x0) 0) 1))) []))) (T (U (V (Z .i64 (M (E x2 (V x0) 0) 1))) (N x3)) (T (U (V (Z .i64 (M (E x1 (V x0) 0) 1))) (N (E x3 (V (Z .i64 (M (E x2 (V x0) 0) 1))) []))) (T (U (V (Z .i64 (M (E x2 (V x0) 0) 1))) (N x3)) (T (D.le 0 (Z .i64 (M (E x1 (V x0) 0) 1))) (T (U (V (Z .i64 (M (E x1 (V x0) 0) 1))) (N (E x3 (V (Z .i64 (M (E x2 (V x0) 0) 1))) []))) (T (U (V (Z .i64 (M (E x2 (V x0) 0) 1))) (N x3)) (T (U (V (Z .i64 (M (E x1 (V x0) 0) 1))) (N (E x3 (V (Z .i64 (M (E x2 (V x0) 0) 1))) []))) (aL.L2 k j (Z .i64 (A x0 1)) x1 x2 (D.set x3 (V (Z .i64 (M (E x2 (V x0) 0) 1))) (D.set (E x3 (V (Z .i64 (M (E x2 (V x0) 0) 1))) []) (V (Z .i64 (M (E x1 (V x0) 0) 1))) (Z .i64 (A (E (E x3 (V (Z .i64 (M (E x2 (V x0) 0) 1))) []) (V (Z .i64 (M (E x1 (V x0) 0) 1))) 0) 1))))) none) none) none) none) none) none) none) none) none) none) none) none) none) none) none) none) none) none) none) none) none) none) none) none) none) none) none) none) (some (x3,true)):=(jn _ _).trans (by kernel_rfl)
def I3:Code:=cB (cB (b9 P 92))
def Hi:Code:=cC (cC (cB (cA I3)))
def Iz:Code:=cB I3
def H9:Code:=cB (b9 P 36)
def Ga:Code:=cA H9
def Ih(k:Nat):cE (den (resTy P 36)):=mK (fC P (qF P 92) (fun z6 z7=>St.force (St.put z7 (Go.Oper.dst (u3 (Code.ops Ga) 1)) (oP z6)) ((fun z8 z9=>gX (Code.ops Ga) 1 (u3 (Code.ops Ga) 1) z9 ((fun z10 z11=>eM P cfg (lS P cfg ext (k+1)) Option.none (Code.ops Ga) [2,3] (trN 2) z11 (fun z12 z13=>JK (k+1) 36 (cB H9) (R0 36) .normal z13)) z8)) (Touch.mk [] [] [] Bool.true))))
def JD(k:Nat):cE (den (resTy P 36)):=a8 0 (JK k 92 Iz (Ih k))
def aO(k:Nat)(a0:LI):Option LJ:=call k 36 a0
def aO.L0(k j:Nat)(x0 x1:Int)(x2:LI)(x3:LJ):Option LJ:=LL k 92 Hi j (JD k) [frm 32 [(0,Sl 0),(3,In x0),(4,In x1)],frm 6 [(0,Sl 0),(1,.tup []),(2,Sl 1),(3,Sl 0),(4,.tup []),(5,.tup [])]] [.row Bool.false (.int .u8) x2,Rww x3]
def aO.J1(k k1:Nat)(x0 x1:Int)(x2:LI)(x3:LJ):Option LJ:=JJ k 92 (cB Hi) (LK k 92 Hi k1 (JD k)) [frm 32 [(0,Sl 0),(3,In x0),(4,In x1)],frm 6 [(0,Sl 0),(1,.tup []),(2,Sl 1),(3,Sl 0),(4,.tup []),(5,.tup [])]] [.row Bool.false (.int .u8) x2,Rww x3]
def aO.J2(k:Nat)(x0:Int)(x1:LI)(x2:LJ):Option LJ:=JJ k 92 Iz (Ih k) [frm 32 [(0,Sl 0),(3,In x0)],frm 6 [(0,Sl 0),(1,.tup []),(2,Sl 1),(3,Sl 0),(4,.tup []),(5,.tup [])]] [.row Bool.false (.int .u8) x1,Rww x2]
theorem aO.eq(k:Nat)(a0):aO (k+2) a0=aO.L0 k k (Z .i64 (A 26583 (O (N a0)))) 0 a0 ([]:LJ):=by kernel_rfl
theorem aO.bp(k j:Nat)(x0 x1 x2 x3):aO.L0 k (j+1) x0 x1 x2 x3=T (D.lt x1 (O (N x2))) (T (D.lt x1 4000) (aO.J1 k j x0 x1 x2 x3) (aO.J2 k x0 x2 x3)) (aO.J2 k x0 x2 x3):=(jn _ _).trans (by kernel_rfl)
theorem aO.fb(k k1:Nat)(x0 x1 x2 x3):aO.J1 k k1 x0 x1 x2 x3=T (D.le 0 x1) (T (U (V x1) (N x2)) (T (U (V x1) (N x2)) (aO.L0 k k1 (D.andI .i64 (Z .i64 (A (Z .i64 (A (Z .i64 (D.mul x0 131)) (Z .i64 (E x2 (V x1) 0)))) 7)) 1073741823) (Z .i64 (A x1 1)) x2 x3) none) none) none:=(jn _ _).trans (by kernel_rfl)
theorem aO.kx(k:Nat)(x0 x1 x2):aO.J2 k x0 x1 x2=B (aN (k+1) 0 x0 x1) fun r0=>some r0.1:=(jn _ _).trans (by kernel_rfl)
def Je:Code:=cB (cB (b9 P 37))
def HZ:Code:=cB Je
def Hb:Code:=cC (cC (cB (cA HZ)))
def Jy(k:Nat):cE (den (resTy P 37)):=a8 0 (JK k 37 (cB HZ) (R0 37))
def Jc:Code:=cB (cB Hb)
def aU(k:Nat)(a0:LJ):Option ((LJ)×Bool):=call k 37 a0
def aU.J0(k:Nat)(x0:LJ):Option ((LJ)×Bool):=JJ k 37 Je (R0 37) [frm 55 [(0,Sl 0)]] [Roo x0]
def aU.L1(k j:Nat)(x0 x1:Int)(x2 x3:LJ):Option ((LJ)×Bool):=LL k 37 Hb j (Jy k) [frm 55 [(4,Sl 0),(29,Sl 1),(30,In x0),(31,In x1)]] [Rww x2,Roo x3]
def aU.L2(k k1 j:Nat)(x0 x1:Int)(x2:Nat)(x3 x4:Int)(x5 x6:LJ):Option ((LJ)×Bool):=LL k 37 (cC (cC (cB (cB (cC (cA Jc)))))) j (a8 2 (a8 1 (JK k 37 (cB Jc) (LK k 37 Hb k1 (Jy k))))) [frm 55 [(4,Sl 0),(29,Sl 1),(30,In x0),(31,In x1),(35,.sl 1 [(x2,0)] Option.none),(36,In x3),(37,In x4)]] [Rww x5,Roo x6]
theorem aU.eq(k:Nat)(a0):aU (k+1) a0=B (bw k a0) fun r0=>T (D.no r0) (some (([]:LJ),false)) (T (D.eq (O (N a0)) 0) (some (([]:LJ),false)) (T (D.le 0 0) (T (U (V 0) (N a0)) (T (U (V 0) (N a0)) (T (U (V 0) (N a0)) (T (D.eq (O (N (E a0 (V 0) []))) 0) (some (([]:LJ),false)) (aU.J0 k a0)) none) none) none) none)):=by kernel_rfl
theorem aU.fT(k:Nat)(x0):aU.J0 k x0=T (D.le 0 0) (T (U (V 0) (N x0)) (T (U (V 0) (N x0)) (T (U (V 0) (N x0)) (T (D.le 0 (O (N (E x0 (V 0) [])))) (T (D.le (O (N (E x0 (V 0) []))) (O (N (E x0 (V 0) [])))) (T (D.leN (V (O (N (E x0 (V 0) [])))) 1099511627776) (aU.L1 k k (O (N x0)) 0 (D.rep (V (O (N (E x0 (V 0) [])))) ([]:LI)) x0) none) none) none) none) none) none) none:=(jn _ _).trans (by kernel_rfl)
theorem aU.cO(k j:Nat)(x0 x1 x2 x3):aU.L1 k (j+1) x0 x1 x2 x3=T (D.lt x1 x0) (T (D.le 0 x1) (T (U (V x1) (N x3)) (T (U (V x1) (N x3)) (T (U (V x1) (N x3)) (aU.L2 k j k x0 x1 (V x1) (O (N (E x3 (V x1) []))) 0 x2 x3) none) none) none) none) (some (x2,true)):=(jn _ _).trans (by kernel_rfl)
theorem aU.gB(k k1 j:Nat)(x0 x1 x2 x3 x4 x5 x6):aU.L2 k k1 (j+1) x0 x1 x2 x3 x4 x5 x6=T (D.lt x4 x3) (T (U x2 (N x6)) (T (D.le 0 x4) (T (U (V x4) (N (E x6 x2 []))) (T (U x2 (N x6)) (T (U (V x4) (N (E x6 x2 []))) (T (D.le 0 x4) (T (U (V x4) (N x5)) (T (U (V x4) (N x5)) (T (U (V x4) (N x5)) (T (D.leN (N (D.app (E x5 (V x4) []) ((E (E x6 x2 []) (V x4) 0)::([]:LI)))) 1099511627776) (T (D.le 0 x4) (T (U (V x4) (N x5)) (T (U (V x4) (N x5)) (T (D.eqP (((V x4),0)::([]:List (Nat×Nat))) (((V x4),0)::([]:List (Nat×Nat)))) (aU.L2 k k1 j x0 x1 x2 x3 (Z .i64 (A x4 1)) (D.set x5 (V x4) (D.app (E x5 (V x4) []) ((E (E x6 x2 []) (V x4) 0)::([]:LI)))) x6) none) none) none) none) none) none) none) none) none) none) none) none) none) none) (aU.L1 k k1 x0 (Z .i64 (A x1 1)) x5 x6):=(jn _ _).trans (by kernel_rfl)
def Hz:Code:=cB (cB (cB (b9 P 38)))
def Hy:Code:=cC (cC (cB (cA Hz)))
def JC(k:Nat):cE (den (resTy P 38)):=a8 0 (JK k 38 (cB Hz) (R0 38))
def Jp:Code:=cB Hy
def Jb:Code:=cB (cC (cA Jp))
def aT(k:Nat)(a0:LJ):Option ((LJ)×Bool):=call k 38 a0
def aT.J0(k:Nat)(x0 x1:LJ):Option ((LJ)×Bool):=JJ k 38 Hz (R0 38) [frm 55 [(0,Sl 0),(4,Sl 1)]] [Roo x0,Rww x1]
def aT.L1(k j:Nat)(x0:Int)(x1 x2:LJ):Option ((LJ)×Bool):=LL k 38 Hy j (JC k) [frm 55 [(0,Sl 0),(4,Sl 1),(5,In x0)]] [Roo x1,Rww x2]
def aT.L2(k k1 j:Nat)(x0 x1:Int)(x2 x3:LJ)(x4:LI):Option ((LJ)×Bool):=LL k 38 (cC (cC (cB (cA Jb)))) j (a8 2 (JK k 38 (cB Jb) (a8 1 (JK k 38 (cB Jp) (LK k 38 Hy k1 (JC k)))))) [frm 55 [(0,Sl 0),(4,Sl 1),(5,In x0),(6,Sl 2),(7,In x1)]] [Roo x2,Rww x3,Rw x4]
theorem aT.eq(k:Nat)(a0):aT (k+1) a0=B (bk k a0) fun r0=>T (D.no r0) (some (([]:LJ),false)) (T (D.eq (O (N a0)) 0) (some (([]:LJ),false)) (T (D.le 0 0) (T (U (V 0) (N a0)) (T (U (V 0) (N a0)) (T (U (V 0) (N a0)) (T (D.eq (O (N (E a0 (V 0) []))) 0) (some (([]:LJ),false)) (aT.J0 k a0 ([]:LJ))) none) none) none) none)):=by kernel_rfl
theorem aT.fT(k:Nat)(x0 x1):aT.J0 k x0 x1=aT.L1 k k 0 x0 x1:=(jn _ _).trans (by kernel_rfl)
theorem aT.cO(k j:Nat)(x0 x1 x2):aT.L1 k (j+1) x0 x1 x2=T (D.le 0 0) (T (U (V 0) (N x1)) (T (U (V 0) (N x1)) (T (U (V 0) (N x1)) (T (D.lt x0 (O (N (E x1 (V 0) [])))) (aT.L2 k j k x0 0 x1 x2 ([]:LI)) (some (x2,true))) none) none) none) none:=(jn _ _).trans (by kernel_rfl)
theorem aT.gB(k k1 j:Nat)(x0 x1 x2 x3 x4):aT.L2 k k1 (j+1) x0 x1 x2 x3 x4=T (D.lt x1 (O (N x2))) (T (D.le 0 x1) (T (U (V x1) (N x2)) (T (U (V x1) (N x2)) (T (U (V x1) (N x2)) (T (D.le 0 x0) (T (U (V x0) (N (E x2 (V x1) []))) (T (U (V x1) (N x2)) (T (U (V x0) (N (E x2 (V x1) []))) (T (D.leN (N (D.app x4 ((E (E x2 (V x1) []) (V x0) 0)::([]:LI)))) 1099511627776) (aT.L2 k k1 j x0 (Z .i64 (A x1 1)) x2 x3 (D.app x4 ((E (E x2 (V x1) []) (V x0) 0)::([]:LI)))) none) none) none) none) none) none) none) none) none) (T (D.leN (N (D.app x3 (x4::([]:LJ)))) 1099511627776) (aT.L1 k k1 (Z .i64 (A x0 1)) x2 (D.app x3 (x4::([]:LJ)))) none):=(jn _ _).trans (by kernel_rfl)
def HX:Code:=cB (cB (b9 P 24))
def a9(k:Nat)(a0 a1:(LI)×(LJ)):Option Bool:=call k 24 (a0,a1)
def a9.J0(k:Nat)(x0:LI)(x1:LJ)(x2:LI)(x3:LJ):Option Bool:=JJ k 24 HX (R0 24) [frm 40 [(2,.pv 0 0),(3,.pv 1 0)]] [.var [Sl 2,Sl 3],.var [Sl 4,Sl 5],Ro x0,Roo x1,Ro x2,Roo x3]
def a9.L1(k j:Nat)(x0:Int)(x1:LI)(x2:LJ)(x3:LI)(x4:LJ):Option Bool:=LL k 24 (cC (cC (cB (cA HX)))) j (a8 0 (JK k 24 (cB HX) (R0 24))) [frm 40 [(2,.pv 0 0),(3,.pv 1 0),(5,In x0)]] [.var [Sl 2,Sl 3],.var [Sl 4,Sl 5],Ro x1,Roo x2,Ro x3,Roo x4]
theorem a9.eq(k:Nat)(a0 a1):a9 (k+1) a0 a1=B (ct k a0.1 a1.1) fun r0=>T (D.no r0) (some false) (T (D.no (D.eq (O (N a0.2)) (O (N a1.2)))) (some false) (a9.J0 k a0.1 a0.2 a1.1 a1.2)):=by kernel_rfl
theorem a9.fT(k:Nat)(x0 x1 x2 x3):a9.J0 k x0 x1 x2 x3=a9.L1 k k 0 x0 x1 x2 x3:=(jn _ _).trans (by kernel_rfl)
theorem a9.cO(k j:Nat)(x0 x1 x2 x3 x4):a9.L1 k (j+1) x0 x1 x2 x3 x4=T (D.lt x0 (O (N x2))) (T (D.le 0 x0) (T (U (V x0) (N x2)) (T (U (V x0) (N x2)) (T (D.le 0 x0) (T (U (V x0) (N x4)) (T (U (V x0) (N x4)) (T (U (V x0) (N x2)) (T (U (V x0) (N x4)) (B (ct k (E x2 (V x0) []) (E x4 (V x0) [])) fun r1=>T (D.no r1) (some false) (a9.L1 k j (Z .i64 (A x0 1)) x1 x2 x3 x4)) none) none) none) none) none) none) none) none) (some true):=(jn _ _).trans (by kernel_rfl)
def JG:Code:=cB (cB (b9 P 42))
def cd(k:Nat)(a0 a1:LI):Option Bool:=call k 42 (a0,a1)
def cd.L0(k j:Nat)(x0:Int)(x1 x2:LI):Option Bool:=LL k 42 (cC (cC (cB (cA JG)))) j (a8 0 (JK k 42 (cB JG) (R0 42))) [frm 26 [(0,Sl 0),(1,Sl 1),(5,In x0)]] [Ro x1,Ro x2]
theorem cd.eq(k:Nat)(a0 a1):cd (k+1) a0 a1=T (D.no (D.eq (O (N a0)) (O (N a1)))) (some false) (cd.L0 k k 0 a0 a1):=by kernel_rfl
theorem cd.bp(k j:Nat)(x0 x1 x2):cd.L0 k (j+1) x0 x1 x2=T (D.lt x0 (O (N x1))) (T (D.le 0 x0) (T (U (V x0) (N x1)) (T (U (V x0) (N x1)) (T (D.le 0 x0) (T (U (V x0) (N x2)) (T (U (V x0) (N x2)) (T (D.no (D.eq (E x1 (V x0) 0) (E x2 (V x0) 0))) (some false) (cd.L0 k j (Z .i64 (A x0 1)) x1 x2)) none) none) none) none) none) none) (some true):=(jn _ _).trans (by kernel_rfl)
def I9:Code:=cB (cB (b9 P 39))
def b6(k:Nat)(a0 a1:LJ):Option Bool:=call k 39 (a0,a1)
def b6.L0(k j:Nat)(x0:Int)(x1 x2:LJ):Option Bool:=LL k 39 (cC (cC (cB (cA I9)))) j (a8 0 (JK k 39 (cB I9) (R0 39))) [frm 27 [(0,Sl 0),(1,Sl 1),(5,In x0)]] [Roo x1,Roo x2]
theorem b6.eq(k:Nat)(a0 a1):b6 (k+1) a0 a1=T (D.no (D.eq (O (N a0)) (O (N a1)))) (some false) (b6.L0 k k 0 a0 a1):=by kernel_rfl
theorem b6.bp(k j:Nat)(x0 x1 x2):b6.L0 k (j+1) x0 x1 x2=T (D.lt x0 (O (N x1))) (T (D.le 0 x0) (T (U (V x0) (N x1)) (T (U (V x0) (N x1)) (T (D.le 0 x0) (T (U (V x0) (N x2)) (T (U (V x0) (N x2)) (T (U (V x0) (N x1)) (T (U (V x0) (N x2)) (B (cd k (E x1 (V x0) []) (E x2 (V x0) [])) fun r0=>T (D.no r0) (some false) (b6.L0 k j (Z .i64 (A x0 1)) x1 x2)) none) none) none) none) none) none) none) none) (some true):=(jn _ _).trans (by kernel_rfl)
def iy(k:Nat)(a0:LJ):Option LI:=call k 44 a0
theorem iy.eq(k:Nat)(a0):iy (k+1) a0=B (aD k a0 true) fun r0=>some r0:=by kernel_rfl
def fM(k:Nat)(a0:LJ):Option LI:=call k 46 a0
theorem fM.eq(k:Nat)(a0):fM (k+1) a0=B (aD k a0 false) fun r0=>some r0:=by kernel_rfl
def Jx:Code:=cB (cB (cB (cB (cB (cB (cB (cB (cB (cB (cB (cB (b9 P 5))))))))))))
def JB:Code:=cB Jx
def bc(k:Nat)(a0:LI):Option Bool:=call k 5 a0
def bc.J0(k:Nat)(x0 x1 x2:Bool)(x3 x4 x5 x6:LJ)(x7:LI)(x8:LJ)(x9:LI)(x10:LJ)(x11:LI)(x12:LJ)(x13:LI)(x14:LJ):Option Bool:=JJ k 5 Jx (R0 5) [frm 237 [(3,Sl 0),(4,.pv 1 0),(5,.pv 2 0),(6,.bool x0),(10,.pv 3 0),(11,.pv 4 0),(14,Sl 5),(15,.bool x1),(18,Sl 6),(19,Sl 7),(20,.bool x2)]] [Rww x3,.var [Sl 8,Sl 9],.var [Sl 10,Sl 11],.var [Sl 12,Sl 13],.var [Sl 14,Sl 15],Rww x4,Rww x5,Rww x6,Rw x7,Rww x8,Rw x9,Rww x10,Rw x11,Rww x12,Rw x13,Rww x14]
def bc.J1(k:Nat)(x0 x1:Bool)(x2 x3 x4:LJ)(x5:LI)(x6:LJ)(x7:LI)(x8:LJ):Option Bool:=JJ k 5 JB (R0 5) [frm 237 [(10,.pv 0 0),(11,.pv 1 0),(14,Sl 2),(15,.bool x0),(18,Sl 3),(19,Sl 4),(20,.bool x1)]] [.var [Sl 5,Sl 6],.var [Sl 7,Sl 8],Rww x2,Rww x3,Rww x4,Rw x5,Rww x6,Rw x7,Rww x8]
def bc.J2(k:Nat)(x0:Bool)(x1 x2:LJ):Option Bool:=JJ k 5 (cB JB) (R0 5) [frm 237 [(18,Sl 0),(19,Sl 1),(20,.bool x0)]] [Rww x1,Rww x2]
theorem bc.eq(k:Nat)(a0):bc (k+1) a0=B (mA k a0) fun r0=>T r0 (some true) (B (aJ k a0) fun r1=>B (cY k r1) fun r2=>B (aX k r1) fun r3=>B (au k a0) fun r4=>B (aH k (r4.1.1,r4.1.2) (r4.2.1.1,r4.2.1.2) r4.2.2.1 r4.2.2.2) fun r5=>B (aL k (r4.1.1,r4.1.2) (r4.2.1.1,r4.2.1.2) r4.2.2.1 r4.2.2.2) fun r6=>B (aO k a0) fun r7=>B (aU k r7) fun r8=>B (aT k r7) fun r9=>T (D.no (D.eqB r2.2.2 r3.2.2)) (some false) (B (a9 k (r2.1.1,r2.1.2) (r3.1.1,r3.1.2)) fun r10=>T (D.no r10) (some false) (B (a9 k (r2.2.1.1,r2.2.1.2) (r3.2.1.1,r3.2.1.2)) fun r11=>T (D.no r11) (some false) (T (D.no (D.eqB r5.2 r6.2)) (some false) (B (b6 k r5.1 r6.1) fun r12=>T (D.no r12) (some false) (T (D.no (D.eqB r8.2 r9.2)) (some false) (B (b6 k r8.1 r9.1) fun r13=>T (D.no r13) (some false) (B (bw k r1) fun r14=>B (bk k r1) fun r15=>T (D.no (D.eqB r14 r15)) (some false) (B (cI k r1) fun r16=>B (iy k r1) fun r17=>B (cd k r16 r17) fun r18=>T (D.no r18) (some false) (B (bT k r1) fun r19=>B (fM k r1) fun r20=>B (cd k r19 r20) fun r21=>T (D.no r21) (some false) (bc.J0 k r2.2.2 r5.2 r8.2 r1 r5.1 r7 r8.1 r2.1.1 r2.1.2 r2.2.1.1 r2.2.1.2 r4.1.1 r4.1.2 r4.2.1.1 r4.2.1.2))))))))))):=by kernel_rfl
theorem bc.fT(k:Nat)(x0 x1 x2 x3 x4 x5 x6 x7 x8 x9 x10 x11 x12 x13 x14):bc.J0 k x0 x1 x2 x3 x4 x5 x6 x7 x8 x9 x10 x11 x12 x13 x14=T x0 (T (D.lt 0 (O (N x3))) (T (D.le 0 0) (T (U (V 0) (N x3)) (T (U (V 0) (N x3)) (T (U (V 0) (N x3)) (T (D.lt 0 (O (N (E x3 (V 0) [])))) (T (D.le 0 0) (T (U (V 0) (N x3)) (T (U (V 0) (N x3)) (T (U (V 0) (N x3)) (B (aH k (x7,x8) (x9,x10) (O (N x3)) (O (N (E x3 (V 0) [])))) fun r22=>T (D.no r22.2) (some false) (B (b6 k r22.1 x3) fun r23=>T (D.no r23) (some false) (B (aK k (x7,x8)) fun r24=>T (D.no r24) (some false) (B (aK k (x9,x10)) fun r25=>T (D.no r25) (some false) (bc.J1 k x1 x2 x4 x5 x6 x11 x12 x13 x14))))) none) none) none) none) (bc.J1 k x1 x2 x4 x5 x6 x11 x12 x13 x14)) none) none) none) none) (bc.J1 k x1 x2 x4 x5 x6 x11 x12 x13 x14)) (bc.J1 k x1 x2 x4 x5 x6 x11 x12 x13 x14):=(jn _ _).trans (by kernel_rfl)
theorem bc.fb(k:Nat)(x0 x1 x2 x3 x4 x5 x6 x7 x8):bc.J1 k x0 x1 x2 x3 x4 x5 x6 x7 x8=T x0 (B (cY k x2) fun r26=>T (D.no r26.2.2) (some false) (B (a9 k (r26.1.1,r26.1.2) (x5,x6)) fun r27=>T (D.no r27) (some false) (B (a9 k (r26.2.1.1,r26.2.1.2) (x7,x8)) fun r28=>T (D.no r28) (some false) (bc.J2 k x1 x3 x4)))) (bc.J2 k x1 x3 x4):=(jn _ _).trans (by kernel_rfl)
theorem bc.kx(k:Nat)(x0 x1 x2):bc.J2 k x0 x1 x2=T (D.no x0) (some true) (B (cY k x2) fun r29=>B (cY k x1) fun r30=>T r29.2.2 (T r30.2.2 (B (a9 k (r29.1.1,r29.1.2) (r30.2.1.1,r30.2.1.2)) fun r31=>T r31 (B (a9 k (r29.2.1.1,r29.2.1.2) (r30.1.1,r30.1.2)) fun r32=>some r32) (some false)) (some false)) (some false)):=(jn _ _).trans (by kernel_rfl)
end Go.Am.Seat
