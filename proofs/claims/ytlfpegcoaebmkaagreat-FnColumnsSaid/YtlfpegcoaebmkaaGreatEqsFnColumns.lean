/- The machine's equations for the functions that the law reaches, each checked by the kernel; no conditions. -/
import Derived.Test.YtlfpegcoaebmkaaGreatCfgFnColumns
import Derived.Test.YtlfpegcoaebmkaaGreatProg
set_option linter.unusedSimpArgs false
set_option linter.unusedVariables false
set_option linter.unnecessarySimpa false
set_option linter.unusedSectionVars false
noncomputable section
namespace Go.Am.Seat
open Go Go.Am Go.Proofs
set_option linter.unusedVariables false
set_option linter.unusedSectionVars false
set_option maxRecDepth 100000
variable [D] [DJ]
abbrev LI:=List Int
abbrev LJ:=List (List Int)
abbrev P:Program:=Go.Proofs.Tryz.prog
def ext:Ext P:=fun _=>none
def X{R:Type}(k f:Nat)(c:Code):St→cy R→Option R:=exec P cfg (jH P cfg ext k) k f c
abbrev call(k f:Nat)(x:den (gC P f)):Option (den (resTy P f)):=y8 P cfg ext k f x
def R0(f:Nat):cy (den (resTy P f)):=j6 (finish P f (mD P f))
def JK{T:Type}(k f:Nat)(c:Code)(K:cy T):cy T:=pE (fun a b=>hZ (Cfg.joins cfg f (key c)) (fun s=>X k f c s b) a) K
def LK{T:Type}(k f:Nat)(c:Code)(j:Nat)(K:cy T):cy T:=pE (fun a b=>hZ (Cfg.loops cfg f (key c)) (fun s=>jA (fun x y=>X k f c x y) (Cfg.loops cfg f (key c)) j s b) a) K
def trN:Nat→List (Nat×Touch)
 |0=> []
 |n+1=>(n,gA)::trN n
def LL{T:Type}(k f:Nat)(c:Code)(j:Nat)(K:cy T)(fr:List (List AV))(rs:List aw):Option T:=D.jn (fun a=>jA (fun x y=>X k f c x y) (Cfg.loops cfg f (key c)) j a K) (St.mk fr rs)
def JJ{T:Type}(k f:Nat)(c:Code)(K:cy T)(fr:List (List AV))(rs:List aw):Option T:=D.jn (fun a=>X k f c a K) (St.mk fr rs)
abbrev IO_(k f nV nD n:Nat)(rs0:List aw)(fr:List (List AV))(rs:List aw):Option (den (resTy P f)×den (tQ nV nD n rs0)):=lG (jH P cfg ext k) f nV nD n rs0 (St.mk fr rs)
def Sl(n:Nat):AV:= .sl n [] none
def In(n:Int):AV:= .int .i64 n
def Rw(x:LI):aw:= .row Bool.true (.int .i64) x
def Rww(x:LJ):aw:= .row Bool.true (.sl (.int .i64)) x
def Ro(x:LI):aw:= .row Bool.false (.int .i64) x
def Roo(x:LJ):aw:= .row Bool.false (.sl (.int .i64)) x
open Go.Am.D renaming test → T, bnd → B, len → N, nat → V, ltN → U, rd → E, ofN → O, wrap → Z, add → A, sub → M
open Go.Am.DJ renaming jn_eq → jn
open Go.Am.Code (cA cB cC cT)
def mF(k:Nat)(a0:LI):Option Bool:=call k 6 a0
theorem mF.eq(k:Nat)(a0):mF (k+1) a0=some (D.lt 1048576 (O (N a0))):=by kernel_rfl
def de(k:Nat)(x0 x1:Int)(x2:LI):Option (Int×(PUnit×(Int×Int))):=IO_ k 137 1 0 1 [.var [Sl 1,In 0,In 0],.row Bool.false (.int .u8) []] [[.pv 0 0],[.pv 0 0,Sl 1]] [.var [Sl 1,In x0,In x1],.row Bool.false (.int .u8) x2]
theorem de.eq(k:Nat)(x0 x1 x2):de (k+1) x0 x1 x2=T (D.le 0 33) (T (D.le 0 45) (T (D.lt x0 (O (N x2))) (T (D.le 0 x0) (T (U (V x0) (N x2)) (T (U (V x0) (N x2)) (some ((D.andI .i64 (Z .i64 (A (D.andI .i64 (D.xorI .i64 (D.shrI .i64 (Z .i64 (A (Z .i64 (D.mul x1 6364136223846793005)) 1442695040888963407)) 33) (D.shrI .i64 (Z .i64 (A (Z .i64 (D.mul x1 6364136223846793005)) 1442695040888963407)) 45)) 255) (Z .i64 (E x2 (V x0) 0)))) 255),((),((Z .i64 (A x0 1)),(Z .i64 (A (Z .i64 (D.mul x1 6364136223846793005)) 1442695040888963407)))))) none) none) none) (some ((D.andI .i64 (D.xorI .i64 (D.shrI .i64 (Z .i64 (A (Z .i64 (D.mul x1 6364136223846793005)) 1442695040888963407)) 33) (D.shrI .i64 (Z .i64 (A (Z .i64 (D.mul x1 6364136223846793005)) 1442695040888963407)) 45)) 255),((),(x0,(Z .i64 (A (Z .i64 (D.mul x1 6364136223846793005)) 1442695040888963407))))))) none) none:=by kernel_rfl
def aJ(k:Nat)(x0 x1 x2:Int)(x3:LI):Option (Int×(PUnit×(Int×Int))):=IO_ k 81 1 0 1 [.var [Sl 1,In 0,In 0],.row Bool.false (.int .u8) []] [[.pv 0 0,In x0],[.pv 0 0,Sl 1]] [.var [Sl 1,In x1,In x2],.row Bool.false (.int .u8) x3]
theorem aJ.eq(k:Nat)(x0 x1 x2 x3):aJ (k+1) x0 x1 x2 x3=T (D.le x0 0) (some ((0:Int),((),(x1,x2)))) (T (D.le x0 256) (B (de k x1 x2 x3) fun r0=>T (D.no (D.eq x0 0)) (some ((D.rem r0.1 x0),((),(r0.2.2.1,r0.2.2.2)))) none) (B (de k x1 x2 x3) fun r1=>B (de k r1.2.2.1 r1.2.2.2 x3) fun r2=>B (de k r2.2.2.1 r2.2.2.2 x3) fun r3=>B (de k r3.2.2.1 r3.2.2.2 x3) fun r4=>T (D.no (D.eq x0 0)) (some ((D.rem (Z .i64 (A (Z .i64 (A (Z .i64 (A (Z .i64 (D.mul r1.1 16777216)) (Z .i64 (D.mul r2.1 65536)))) (Z .i64 (D.mul r3.1 256)))) r4.1)) x0),((),(r4.2.2.1,r4.2.2.2)))) none)):=by kernel_rfl
def c1:Code:=cB (cB (cB (bT P 154)))
def bK(k:Nat)(x0 x1 x2 x3:Int)(x4:LI):Option ((LI)×(PUnit×(Int×Int))):=IO_ k 154 1 0 1 [.var [Sl 1,In 0,In 0],.row Bool.false (.int .u8) []] [[.pv 0 0,In x0,In x1],[.pv 0 0,Sl 1]] [.var [Sl 1,In x2,In x3],.row Bool.false (.int .u8) x4]
def bK.L0(k j:Nat)(x0 x1 x2 x3 x4:Int)(x5 x6:LI):Option ((LI)×(PUnit×(Int×Int))):=LL k 154 (cC (cC (cB (cA c1)))) j (bm 0 (JK k 154 (cB c1) (j6 (ef P (mD P 154) (fun z7 z8=>nc P 154 1 0 1 [.var [Sl 1,In 0,In 0],.row Bool.false (.int .u8) []] z7 z8))))) [frm 28 [(0,.pv 0 0),(2,In x0),(7,Sl 1),(8,In x1),(9,In x2)],[.pv 0 0,Sl 2]] [.var [Sl 2,In x3,In x4],Rw x5,.row Bool.false (.int .u8) x6]
theorem bK.eq(k:Nat)(x0 x1 x2 x3 x4):bK (k+1) x0 x1 x2 x3 x4=B (aJ k (Z .i64 (A x0 1)) x2 x3 x4) fun r0=>bK.L0 k k x1 r0.1 0 r0.2.2.1 r0.2.2.2 ([]:LI) x4:=by kernel_rfl
theorem bK.bo(k j:Nat)(x0 x1 x2 x3 x4 x5 x6):bK.L0 k (j+1) x0 x1 x2 x3 x4 x5 x6=T (D.lt x2 x1) (B (aJ k x0 x3 x4 x6) fun r1=>T (D.leN (N (D.app x5 ((Z .i64 (A 1 r1.1))::([]:LI)))) 1099511627776) (bK.L0 k j x0 x1 (Z .i64 (A x2 1)) r1.2.2.1 r1.2.2.2 (D.app x5 ((Z .i64 (A 1 r1.1))::([]:LI))) x6) none) (some (x5,((),(x3,x4)))):=(jn _ _).trans (by kernel_rfl)
def cg(k:Nat)(x0 x1 x2:Int)(x3:LI):Option (Bool×(PUnit×(Int×Int))):=IO_ k 79 1 0 1 [.var [Sl 1,In 0,In 0],.row Bool.false (.int .u8) []] [[.pv 0 0,In x0],[.pv 0 0,Sl 1]] [.var [Sl 1,In x1,In x2],.row Bool.false (.int .u8) x3]
theorem cg.eq(k:Nat)(x0 x1 x2 x3):cg (k+1) x0 x1 x2 x3=B (aJ k x0 x1 x2 x3) fun r0=>some ((D.eq r0.1 0),((),(r0.2.2.1,r0.2.2.2))):=by kernel_rfl
def fW(k:Nat)(a0 a1 a2:Int):Option Bool:=call k 62 (a0,a1,a2)
theorem fW.eq(k:Nat)(a0 a1 a2):fW (k+1) a0 a1 a2=T (D.le a1 a0) (some (D.le a0 a2)) (some false):=by kernel_rfl
def c2:Code:=cB (bT P 54)
def ca(k:Nat)(a0:LI):Option Bool:=call k 54 a0
def ca.L0(k j:Nat)(x0:Int)(x1:LI):Option Bool:=LL k 54 (cC (cC (cB (cA c2)))) j (bm 0 (JK k 54 (cB c2) (R0 54))) [frm 19 [(0,Sl 0),(3,In x0)]] [Ro x1]
theorem ca.eq(k:Nat)(a0):ca (k+1) a0=ca.L0 k k 0 a0:=by kernel_rfl
theorem ca.bo(k j:Nat)(x0 x1):ca.L0 k (j+1) x0 x1=T (D.lt x0 (O (N x1))) (T (D.le 0 x0) (T (U (V x0) (N x1)) (T (U (V x0) (N x1)) (B (fW k (E x1 (V x0) 0) 1 9) fun r0=>T (D.no r0) (some false) (ca.L0 k j (Z .i64 (A x0 1)) x1)) none) none) none) (some (D.le (O (N x1)) 9)):=(jn _ _).trans (by kernel_rfl)
def fh(k:Nat)(a0:Bool):Option Int:=call k 146 a0
theorem fh.eq(k:Nat)(a0):fh (k+1) a0=T a0 (some 1) (some 0):=by kernel_rfl
def c3:Code:=cB (cB (bT P 96))
def c4:Code:=cC (cC (cB (cA c3)))
def K5(k:Nat):cy (den (resTy P 96)):=bm 0 (JK k 96 (cB c3) (R0 96))
def c6:Code:=cB c4
def K7(k k1:Nat):cy (den (resTy P 96)):=LK k 96 c4 k1 (K5 k)
def c8:Code:=cB (cC (cA c6))
def c9:Code:=cC (cC (cB (cA c8)))
def K10(k k1:Nat):cy (den (resTy P 96)):=bm 2 (JK k 96 (cB c8) (bm 1 (JK k 96 (cB c6) (K7 k k1))))
def al(k:Nat)(a0:LI):Option LI:=call k 96 a0
def al.L0(k j:Nat)(x0:Int)(x1 x2:LI):Option LI:=LL k 96 c4 j (K5 k) [frm 57 [(0,Sl 0),(3,Sl 1),(4,In x0)]] [Ro x1,Rw x2]
def al.J1(k k1:Nat)(x0:Int)(x1 x2:LI):Option LI:=JJ k 96 c6 (K7 k k1) [frm 57 [(0,Sl 0),(3,Sl 1),(4,In x0)]] [Ro x1,Rw x2]
def al.L2(k k1 j:Nat)(x0 x1 x2:Int)(x3 x4:LI):Option LI:=LL k 96 c9 j (K10 k k1) [frm 57 [(0,Sl 0),(3,Sl 1),(4,In x0),(5,In x1),(6,In x2)]] [Ro x3,Rw x4]
def al.J3(k k1 k2:Nat)(x0 x1 x2:Int)(x3 x4:LI):Option LI:=JJ k 96 (cB (cB c9)) (LK k 96 c9 k2 (K10 k k1)) [frm 57 [(0,Sl 0),(3,Sl 1),(4,In x0),(5,In x1),(6,In x2)]] [Ro x3,Rw x4]
theorem al.eq(k:Nat)(a0):al (k+1) a0=al.L0 k k 0 a0 ([]:LI):=by kernel_rfl
theorem al.bo(k j:Nat)(x0 x1 x2):al.L0 k (j+1) x0 x1 x2=T (D.lt x0 (O (N x1))) (B (ca k x1) fun r0=>T r0 (al.J1 k j x0 x1 x2) (some x2)) (some x2):=(jn _ _).trans (by kernel_rfl)
theorem al.eV(k k1:Nat)(x0 x1 x2):al.J1 k k1 x0 x1 x2=al.L2 k k1 k x0 1 0 x1 x2:=(jn _ _).trans (by kernel_rfl)
theorem al.qZ(k k1 j:Nat)(x0 x1 x2 x3 x4):al.L2 k k1 (j+1) x0 x1 x2 x3 x4=T (D.lt x2 (O (N x3))) (T (D.le 0 x2) (T (U (V x2) (N x3)) (T (U (V x2) (N x3)) (T (D.le 0 x0) (T (U (V x0) (N x3)) (T (U (V x0) (N x3)) (T (D.lt (E x3 (V x2) 0) (E x3 (V x0) 0)) (B (fh k true) fun r1=>al.J3 k k1 j x0 (Z .i64 (A x1 r1)) x2 x3 x4) (T (D.le 0 x2) (T (U (V x2) (N x3)) (T (U (V x2) (N x3)) (T (D.le 0 x0) (T (U (V x0) (N x3)) (T (U (V x0) (N x3)) (T (D.eq (E x3 (V x2) 0) (E x3 (V x0) 0)) (B (fh k (D.lt x2 x0)) fun r2=>al.J3 k k1 j x0 (Z .i64 (A x1 r2)) x2 x3 x4) (B (fh k false) fun r3=>al.J3 k k1 j x0 (Z .i64 (A x1 r3)) x2 x3 x4)) none) none) none) none) none) none)) none) none) none) none) none) none) (T (D.leN (N (D.app x4 (x1::([]:LI)))) 1099511627776) (al.L0 k k1 (Z .i64 (A x0 1)) x3 (D.app x4 (x1::([]:LI)))) none):=(jn _ _).trans (by kernel_rfl)
theorem al.ky(k k1 k2:Nat)(x0 x1 x2 x3 x4):al.J3 k k1 k2 x0 x1 x2 x3 x4=al.L2 k k1 k2 x0 x1 (Z .i64 (A x2 1)) x3 x4:=(jn _ _).trans (by kernel_rfl)
def fm(k:Nat)(x0 x1:Int)(x2:LI):Option ((LI)×(PUnit×(Int×Int))):=IO_ k 115 1 0 1 [.var [Sl 1,In 0,In 0],.row Bool.false (.int .u8) []] [[.pv 0 0],[.pv 0 0,Sl 1]] [.var [Sl 1,In x0,In x1],.row Bool.false (.int .u8) x2]
theorem fm.eq(k:Nat)(x0 x1 x2):fm (k+1) x0 x1 x2=B (aJ k 4 x0 x1 x2) fun r0=>B (bK k 7 (Z .i64 (A 2 r0.1)) r0.2.2.1 r0.2.2.2 x2) fun r1=>B (cg k 3 r1.2.2.1 r1.2.2.2 x2) fun r2=>T r2.1 (B (al k r1.1) fun r3=>some (r3,((),(r2.2.2.1,r2.2.2.2)))) (some (r1.1,((),(r2.2.2.1,r2.2.2.2)))):=by kernel_rfl
def bZ(k:Nat)(x0 x1:Int)(x2 x3:LI):Option (Int×(PUnit×(Int×Int))):=IO_ k 105 1 0 1 [.var [Sl 2,In 0,In 0],Ro [],.row Bool.false (.int .u8) []] [[.pv 0 0,Sl 1],[.pv 0 0,Sl 1,Sl 2]] [.var [Sl 2,In x0,In x1],Ro x2,.row Bool.false (.int .u8) x3]
theorem bZ.eq(k:Nat)(x0 x1 x2 x3):bZ (k+1) x0 x1 x2 x3=B (aJ k (O (N x2)) x0 x1 x3) fun r0=>T (D.le 0 r0.1) (T (U (V r0.1) (N x2)) (T (U (V r0.1) (N x2)) (some ((E x2 (V r0.1) 0),((),(r0.2.2.1,r0.2.2.2)))) none) none) none:=by kernel_rfl
def c11:Code:=cB (cB (bT P 48))
def bJ(k:Nat)(x0 x1:Int)(x2:LI):Option ((LI)×(PUnit×(Int×Int))):=IO_ k 48 1 0 1 [.var [Sl 1,In 0,In 0],.row Bool.false (.int .u8) []] [[.pv 0 0],[.pv 0 0,Sl 1]] [.var [Sl 1,In x0,In x1],.row Bool.false (.int .u8) x2]
def bJ.L0(k j:Nat)(x0:LI)(x1 x2:Int)(x3:LI):Option ((LI)×(PUnit×(Int×Int))):=LL k 48 (cC (cC (cT (cB (Code.cE (cB (cC (cB (cA c11))))))))) j (bm 1 (bm 0 (JK k 48 (cB c11) (j6 (ef P (mD P 48) (fun z9 z10=>nc P 48 1 0 1 [.var [Sl 1,In 0,In 0],.row Bool.false (.int .u8) []] z9 z10)))))) [frm 25 [(3,Sl 0)],[.pv 1 0,Sl 2]] [Rw x0,.var [Sl 2,In x1,In x2],.row Bool.false (.int .u8) x3]
theorem bJ.eq(k:Nat)(x0 x1 x2):bJ (k+1) x0 x1 x2=B (fm k x0 x1 x2) fun r0=>B (aJ k 14 r0.2.2.1 r0.2.2.2 x2) fun r1=>T (D.eq r1.1 0) (B (bZ k r1.2.2.1 r1.2.2.2 (0::(10::((-1)::(9::([]:LI))))) x2) fun r2=>T (D.leN (N (D.app r0.1 (r2.1::([]:LI)))) 1099511627776) (some ((D.app r0.1 (r2.1::([]:LI))),((),(r2.2.2.1,r2.2.2.2)))) none) (T (D.eq r1.1 1) (bJ.L0 k k r0.1 r1.2.2.1 r1.2.2.2 x2) (some (r0.1,((),(r1.2.2.1,r1.2.2.2))))):=by kernel_rfl
theorem bJ.bo(k j:Nat)(x0 x1 x2 x3):bJ.L0 k (j+1) x0 x1 x2 x3=T (D.lt (O (N x0)) 10) (T (D.leN (N (D.app x0 (1::([]:LI)))) 1099511627776) (bJ.L0 k j (D.app x0 (1::([]:LI))) x1 x2 x3) none) (some (x0,((),(x1,x2)))):=(jn _ _).trans (by kernel_rfl)
def c12:Code:=cB (cB (bT P 49))
def c13:Code:=cC (cC (cB (cA c12)))
def c14:Code:=cB c12
def c15:Code:=cB (bT P 7)
def c16:Code:=cA c15
def K17(k:Nat):cy (den (resTy P 7)):=j6 (ef P (mD P 49) (fun z6 z7=>St.force (St.put z7 (Go.Oper.dst (oW (Code.ops c16) 1)) (nx z6)) ((fun z8 z9=>fN (Code.ops c16) 1 (oW (Code.ops c16) 1) z9 ((fun z10 z11=>dR P cfg (jH P cfg ext (k+1)) Option.none (Code.ops c16) [2,3] (trN 2) z11 (fun z12 z13=>JK (k+1) 7 (cB c15) (R0 7) .normal z13)) z8)) (Touch.mk [] [] [] Bool.true))))
def K18(k:Nat):cy (den (resTy P 7)):=bm 0 (JK k 49 c14 (K17 k))
def aD(k:Nat)(a0:LI):Option LI:=call k 7 a0
def aD.L0(k j:Nat)(x0 x1:Int)(x2 x3:LI):Option LI:=LL k 49 c13 j (K18 k) [frm 32 [(0,Sl 0),(3,In x0),(4,In x1)],frm 6 [(0,Sl 0),(1,.tup []),(2,Sl 1),(3,Sl 0),(4,.tup []),(5,.tup [])]] [.row Bool.false (.int .u8) x2,Rw x3]
def aD.J1(k k1:Nat)(x0 x1:Int)(x2 x3:LI):Option LI:=JJ k 49 (cB c13) (LK k 49 c13 k1 (K18 k)) [frm 32 [(0,Sl 0),(3,In x0),(4,In x1)],frm 6 [(0,Sl 0),(1,.tup []),(2,Sl 1),(3,Sl 0),(4,.tup []),(5,.tup [])]] [.row Bool.false (.int .u8) x2,Rw x3]
def aD.J2(k:Nat)(x0:Int)(x1 x2:LI):Option LI:=JJ k 49 c14 (K17 k) [frm 32 [(0,Sl 0),(3,In x0)],frm 6 [(0,Sl 0),(1,.tup []),(2,Sl 1),(3,Sl 0),(4,.tup []),(5,.tup [])]] [.row Bool.false (.int .u8) x1,Rw x2]
theorem aD.eq(k:Nat)(a0):aD (k+2) a0=aD.L0 k k (Z .i64 (A 26583 (O (N a0)))) 0 a0 ([]:LI):=by kernel_rfl
theorem aD.bo(k j:Nat)(x0 x1 x2 x3):aD.L0 k (j+1) x0 x1 x2 x3=T (D.lt x1 (O (N x2))) (T (D.lt x1 4000) (aD.J1 k j x0 x1 x2 x3) (aD.J2 k x0 x2 x3)) (aD.J2 k x0 x2 x3):=(jn _ _).trans (by kernel_rfl)
theorem aD.eV(k k1:Nat)(x0 x1 x2 x3):aD.J1 k k1 x0 x1 x2 x3=T (D.le 0 x1) (T (U (V x1) (N x2)) (T (U (V x1) (N x2)) (aD.L0 k k1 (D.andI .i64 (Z .i64 (A (Z .i64 (A (Z .i64 (D.mul x0 131)) (Z .i64 (E x2 (V x1) 0)))) 7)) 1073741823) (Z .i64 (A x1 1)) x2 x3) none) none) none:=(jn _ _).trans (by kernel_rfl)
theorem aD.iJ(k:Nat)(x0 x1 x2):aD.J2 k x0 x1 x2=B (bJ (k+1) 0 x0 x1) fun r0=>some r0.1:=(jn _ _).trans (by kernel_rfl)
def cw(k:Nat)(a0 a1 a2:Int):Option Bool:=call k 58 (a0,a1,a2)
theorem cw.eq(k:Nat)(a0 a1 a2):cw (k+1) a0 a1 a2=T (D.le a1 a0) (some (D.le a0 a2)) (some false):=by kernel_rfl
def fK(k:Nat)(x0:Int):Option (Bool×PUnit):=IO_ k 117 0 0 0 [] [[In x0],[]] []
theorem fK.eq(k:Nat)(x0):fK (k+1) x0=B (cw k x0 1 9) fun r0=>some ((D.no r0),()):=by kernel_rfl
def c19:Code:=cB (bT P 119)
def aC(k:Nat)(x0:LI):Option (Int×PUnit):=IO_ k 119 0 0 0 [Ro []] [[Sl 0,.fn 117 [] []],[Sl 0]] [Ro x0]
def aC.L0(k j:Nat)(x0 x1:Int)(x2:LI):Option (Int×PUnit):=LL k 119 (cC (cC (cB (cA c19)))) j (bm 0 (JK k 119 (cB c19) (j6 (ef P (mD P 119) (fun z6 z7=>nc P 119 0 0 0 [Ro []] z6 z7))))) [frm 19 [(0,Sl 0),(1,.fn 117 [] []),(7,In x0),(8,In x1)],[Sl 0]] [Ro x2]
theorem aC.eq(k:Nat)(x0):aC (k+1) x0=aC.L0 k k (O (N x0)) 0 x0:=by kernel_rfl
theorem aC.bo(k j:Nat)(x0 x1 x2):aC.L0 k (j+1) x0 x1 x2=T (D.lt x1 x0) (T (D.le 0 x1) (T (U (V x1) (N x2)) (T (U (V x1) (N x2)) (B (fK k (E x2 (V x1) 0)) fun r0=>T r0.1 (some (x1,())) (aC.L0 k j x0 (Z .i64 (A x1 1)) x2)) none) none) none) (some ((-1:Int),())):=(jn _ _).trans (by kernel_rfl)
def bt(k:Nat)(x0:LI):Option (Bool×PUnit):=IO_ k 116 0 0 0 [Ro []] [[Sl 0,.fn 117 [] []],[Sl 0]] [Ro x0]
theorem bt.eq(k:Nat)(x0):bt (k+1) x0=B (aC k x0) fun r0=>some ((D.le 0 r0.1),()):=by kernel_rfl
def gJ(k:Nat)(a0:LI):Option Bool:=call k 50 a0
theorem gJ.eq(k:Nat)(a0):gJ (k+1) a0=T (D.le (O (N a0)) 9) (B (bt k a0) fun r0=>some (D.no r0.1)) (some false):=by kernel_rfl
def c20:Code:=cB (cB (bT P 60))
def c21:Code:=cC (cC (cB (cA c20)))
def K22(k:Nat):cy (den (resTy P 60)):=bm 0 (JK k 60 (cB c20) (R0 60))
def c23:Code:=cB (cB c21)
def c24:Code:=cC (cC (cB (cB (cC (cA c23)))))
def K25(k k1:Nat):cy (den (resTy P 60)):=bm 2 (bm 1 (JK k 60 (cB c23) (LK k 60 c21 k1 (K22 k))))
def c26:Code:=cB (cB c24)
def aL(k:Nat)(a0:(LI)×(LJ)):Option LJ:=call k 60 a0
def aL.L0(k j:Nat)(x0 x1:Int)(x2 x3:LJ):Option LJ:=LL k 60 c21 j (K22 k) [frm 43 [(3,Sl 0),(10,Sl 1),(11,In x0),(12,In x1)]] [Rww x2,Roo x3]
def aL.L1(k k1 j:Nat)(x0 x1:Int)(x2:Nat)(x3 x4:Int)(x5 x6:LJ):Option LJ:=LL k 60 c24 j (K25 k k1) [frm 43 [(3,Sl 0),(10,Sl 1),(11,In x0),(12,In x1),(16,.sl 1 [(x2,0)] Option.none),(17,In x3),(18,In x4)]] [Rww x5,Roo x6]
def aL.J2(k k1 k2:Nat)(x0 x1 x2 x3:Int)(x4:Nat)(x5 x6:Int)(x7 x8:LJ):Option LJ:=JJ k 60 (cB (cB (cC (cA c26)))) (bm 3 (JK k 60 (cB c26) (LK k 60 c24 k2 (K25 k k1)))) [frm 43 [(3,Sl 0),(6,In x0),(7,In x1),(10,Sl 1),(11,In x2),(12,In x3),(16,.sl 1 [(x4,0)] Option.none),(17,In x5),(18,In x6)]] [Rww x7,Roo x8]
theorem aL.eq(k:Nat)(a0):aL (k+1) a0=aL.L0 k k (O (N a0.2)) 0 ([]:LJ) a0.2:=by kernel_rfl
theorem aL.bo(k j:Nat)(x0 x1 x2 x3):aL.L0 k (j+1) x0 x1 x2 x3=T (D.lt x1 x0) (T (D.le 0 x1) (T (U (V x1) (N x3)) (T (U (V x1) (N x3)) (T (U (V x1) (N x3)) (aL.L1 k j k x0 x1 (V x1) (O (N (E x3 (V x1) []))) 0 x2 x3) none) none) none) none) (some x2):=(jn _ _).trans (by kernel_rfl)
theorem aL.ep(k k1 j:Nat)(x0 x1 x2 x3 x4 x5 x6):aL.L1 k k1 (j+1) x0 x1 x2 x3 x4 x5 x6=T (D.lt x4 x3) (T (U x2 (N x6)) (T (D.le 0 x4) (T (U (V x4) (N (E x6 x2 []))) (T (U x2 (N x6)) (T (U (V x4) (N (E x6 x2 []))) (T (D.eq x4 (O (N x5))) (T (D.leN (N (D.app x5 (([]:LI)::([]:LJ)))) 1099511627776) (aL.J2 k k1 j x4 (E (E x6 x2 []) (V x4) 0) x0 x1 x2 x3 x4 (D.app x5 (([]:LI)::([]:LJ))) x6) none) (aL.J2 k k1 j x4 (E (E x6 x2 []) (V x4) 0) x0 x1 x2 x3 x4 x5 x6)) none) none) none) none) none) (aL.L0 k k1 x0 (Z .i64 (A x1 1)) x5 x6):=(jn _ _).trans (by kernel_rfl)
theorem aL.iJ(k k1 k2:Nat)(x0 x1 x2 x3 x4 x5 x6 x7 x8):aL.J2 k k1 k2 x0 x1 x2 x3 x4 x5 x6 x7 x8=T (D.le 0 x0) (T (U (V x0) (N x7)) (T (U (V x0) (N x7)) (T (U (V x0) (N x7)) (T (D.leN (N (D.app (E x7 (V x0) []) (x1::([]:LI)))) 1099511627776) (T (D.le 0 x0) (T (U (V x0) (N x7)) (T (U (V x0) (N x7)) (T (D.eqP (((V x0),0)::([]:List (Nat×Nat))) (((V x0),0)::([]:List (Nat×Nat)))) (aL.L1 k k1 k2 x2 x3 x4 x5 (Z .i64 (A x6 1)) (D.set x7 (V x0) (D.app (E x7 (V x0) []) (x1::([]:LI)))) x8) none) none) none) none) none) none) none) none) none:=(jn _ _).trans (by kernel_rfl)
def dH(k:Nat)(a0:LJ):Option ((LI)×(LJ)):=call k 53 a0
theorem dH.eq(k:Nat)(a0):dH (k+1) a0=B (aL k (([]:LI),a0)) fun r0=>some (([]:LI),r0):=by kernel_rfl
def dm(k:Nat)(x0 x1:Int):Option (Bool×Int):=IO_ k 120 1 0 1 [.var [In 0]] [[In x0,.pv 0 0],[.pv 0 0]] [.var [In x1]]
theorem dm.eq(k:Nat)(x0 x1):dm (k+1) x0 x1=some ((D.le x1 x0),x1):=by kernel_rfl
def c27:Code:=cB (bT P 119)
def aj(k:Nat)(x0:Int)(x1:LI):Option (Int×Int):=IO_ k 119 1 0 1 [.var [In 0],Ro []] [[Sl 1,.fn 120 [] [.pv 0 0]],[.pv 0 0,Sl 1]] [.var [In x0],Ro x1]
def aj.L0(k j:Nat)(x0 x1:Int)(x2:LI)(x3:Int):Option (Int×Int):=LL k 119 (cC (cC (cB (cA c27)))) j (bm 0 (JK k 119 (cB c27) (j6 (ef P (mD P 119) (fun z6 z7=>nc P 119 1 0 1 [.var [In 0],Ro []] z6 z7))))) [frm 19 [(0,Sl 0),(1,.fn 120 [] [.pv 1 0]),(7,In x0),(8,In x1)],[.pv 1 0,Sl 0]] [Ro x2,.var [In x3]]
theorem aj.eq(k:Nat)(x0 x1):aj (k+1) x0 x1=aj.L0 k k (O (N x1)) 0 x1 x0:=by kernel_rfl
theorem aj.bo(k j:Nat)(x0 x1 x2 x3):aj.L0 k (j+1) x0 x1 x2 x3=T (D.lt x1 x0) (T (D.le 0 x1) (T (U (V x1) (N x2)) (T (U (V x1) (N x2)) (B (dm k (E x2 (V x1) 0) x3) fun r0=>T r0.1 (some (x1,r0.2)) (aj.L0 k j x0 (Z .i64 (A x1 1)) x2 r0.2)) none) none) none) (some ((-1:Int),x3)):=(jn _ _).trans (by kernel_rfl)
def c28:Code:=cB (cB (cB (bT P 8)))
def c29:Code:=cC (cB (cA c28))
def c30:Code:=cA c29
def c31:Code:=cB c29
def K32(k:Nat):cy (den (resTy P 8)):=bm 0 (JK (k+1) 8 (cB c28) (R0 8))
def c33:Code:=cC (cC (cB (bT P 118)))
def K34(k:Nat):cy (den (resTy P 8)):=bm 0 (j6 (fun z11=>K32 k .normal (St.mk (List.tail (St.fr z11)) (St.rs z11))))
def c35:Code:=cB (bT P 52)
def c36:Code:=cC c31
def c37:Code:=cB (cB c33)
def aN(k:Nat)(a0:LI):Option (((LI)×(LJ))×Bool):=call k 8 a0
def aN.L0(k j:Nat)(x0:Int)(x1 x2:LI)(x3 x4:LJ):Option (((LI)×(LJ))×Bool):=D.jn (fun z1=>jA (fun z2 z3=>fT P cfg (jH P cfg ext (k+1)) (n9 (fun z4 z5=>X (k+1) 8 c30 z4 z5) (fun z6 z7=>X (k+1) 8 c31 z6 z7) (List.toArray [14,15]) (K32 k)) (Go.Func.ntmps (mD P 118)) (k+1) 118 c33 z2 z3) (Cfg.loops cfg 118 (key c33)) j z1 (K34 k)) (St.mk [frm 19 [(1,.pv 0 0),(3,In x0)],frm 21 [(2,.pv 1 0),(4,.pv 2 0),(13,.fn 118 [] [.pv 0 0])]] [.var [Sl 3],.var [Sl 4,Sl 5],.var [Sl 6],Ro x1,Rw x2,Rww x3,Rww x4])
def aN.L1(k k1 j:Nat)(x0 x1 x2 x3 x4 x5 x6 x7:Int)(x8:Bool)(x9 x10:Int)(x11:Nat)(x12:Int)(x13:LJ)(x14:Int)(x15 x16:LI)(x17:LJ):Option (((LI)×(LJ))×Bool):=LL k 52 (cC (cC (cB (cA c35)))) j (bm 0 (JK k 52 (cB c35) (j6 (ef P (mD P 52) (fun z7 z8=>St.force (St.put z8 (Go.Oper.dst (oW (Code.ops c36) 2)) (nx z7)) ((fun z9 z10=>fN (Code.ops c36) 2 (oW (Code.ops c36) 2) z10 ((fun z11 z12=>dR P cfg (jH P cfg ext (k+1)) Option.none (Code.ops c36) [3] (trN 3) z12 (fun z13 z14=>bm 1 (CV (fun z15=>St.force (St.put (St.put z15 (Option.some 17) (.kb Bool.true)) (Option.some 18) (.kb Bool.false)) (fun z16=>bm 1 (pE (fun z17 z18=>hZ (Cfg.joins cfg 118 (key c37)) (fun z19=>fT P cfg (jH P cfg ext (k+1)) (n9 (fun z20 z21=>X (k+1) 8 c30 z20 z21) (fun z22 z23=>X (k+1) 8 c31 z22 z23) (List.toArray [14,15]) (K32 k)) (Go.Func.ntmps (mD P 118)) (k+1) 118 c37 z19 z18) z17) (pE (fun z24 z25=>hZ (Cfg.loops cfg 118 (key c33)) (fun z26=>jA (fun z27 z28=>fT P cfg (jH P cfg ext (k+1)) (n9 (fun z29 z30=>X (k+1) 8 c30 z29 z30) (fun z31 z32=>X (k+1) 8 c31 z31 z32) (List.toArray [14,15]) (K32 k)) (Go.Func.ntmps (mD P 118)) (k+1) 118 c33 z27 z28) (Cfg.loops cfg 118 (key c33)) k1 z26 z25) z24) (K34 k))) .normal z16)) (K32 k)) .normal z14)) z9)) (Touch.mk [] [] [] Bool.true))))))) [frm 42 [(0,Sl 0),(3,.pv 1 0),(8,Sl 0),(9,In x0),(10,In x1)],frm 21 [(2,.pv 2 0),(4,.pv 3 0),(6,In x2),(13,.fn 118 [] [.pv 4 0]),(14,In x3),(15,In x4),(16,Sl 0),(17,In x5)],frm 19 [(1,.pv 4 0),(3,In x6),(7,In x7),(8,.bool x8),(12,In x9),(13,Sl 5),(14,In x10),(15,.pe 5 [] x11 0),(16,In x12)],frm 21 [(2,.pv 2 0),(4,.pv 3 0),(13,.fn 118 [] [.pv 4 0])]] [Rww x13,.var [In x14],.var [Sl 6,Sl 7],.var [Sl 0],.var [Sl 5],Ro x15,Rw x16,Rww x17]
theorem aN.eq(k:Nat)(a0):aN (k+2) a0=B (gJ (k+1) a0) fun r0=>T (D.no r0) (some ((([]:LI),([]:LJ)),false)) (aN.L0 k (k+1) (Z .i64 (M (O (N a0)) 1)) a0 ([]:LI) ([]:LJ) ([]:LJ)):=by kernel_rfl
theorem aN.bo(k j:Nat)(x0 x1 x2 x3 x4):aN.L0 k (j+1) x0 x1 x2 x3 x4=T (D.le 0 x0) (T (D.le 0 x0) (T (U (V x0) (N x1)) (T (U (V x0) (N x1)) (aN.L1 k j k (O (N x4)) 0 (E x1 (V x0) 0) x0 (E x1 (V x0) 0) (E x1 (V x0) 0) x0 x0 (D.le 0 x0) x0 x0 (V x0) (E x1 (V x0) 0) x4 (E x1 (V x0) 0) x1 x2 x3) none) none) none) (B (dH (k+1) x4) fun r1=>some ((r1.1,r1.2),true)):=(jn _ _).trans (by kernel_rfl)
theorem aN.ep(k k1 j:Nat)(x0 x1 x2 x3 x4 x5 x6 x7 x8 x9 x10 x11 x12 x13 x14 x15 x16 x17):aN.L1 k k1 (j+1) x0 x1 x2 x3 x4 x5 x6 x7 x8 x9 x10 x11 x12 x13 x14 x15 x16 x17=T (D.lt x1 x0) (T (D.le 0 x1) (T (U (V x1) (N x13)) (T (U (V x1) (N x13)) (T (U (V x1) (N x13)) (B (aj k x14 (E x13 (V x1) [])) fun r2=>T (D.lt r2.1 0) (T (U (V x1) (N x13)) (T (D.leN (N (D.app (E x13 (V x1) []) (r2.2::([]:LI)))) 1099511627776) (T (D.le 0 x1) (T (U (V x1) (N x13)) (T (U (V x1) (N x13)) (T (D.eqP (((V x1),0)::([]:List (Nat×Nat))) (((V x1),0)::([]:List (Nat×Nat)))) (aN.L0 k k1 (Z .i64 (M x6 1)) x15 x16 x17 (D.set x13 (V x1) (D.app (E x13 (V x1) []) (r2.2::([]:LI))))) none) none) none) none) none) none) (T (U (V x1) (N x13)) (T (D.le 0 r2.1) (T (U (V r2.1) (N (E x13 (V x1) []))) (T (U (V x1) (N x13)) (T (U (V r2.1) (N (E x13 (V x1) []))) (T (U (V x1) (N x13)) (T (D.le 0 r2.1) (T (U (V r2.1) (N (E x13 (V x1) []))) (T (U (V x1) (N x13)) (T (U (V r2.1) (N (E x13 (V x1) []))) (aN.L1 k k1 j x0 (Z .i64 (A x1 1)) x2 x3 x4 x5 x6 x7 x8 x9 x10 x11 x12 (D.set x13 (V x1) (D.set (E x13 (V x1) []) (V r2.1) r2.2)) (E (E x13 (V x1) []) (V r2.1) 0) x15 x16 x17) none) none) none) none) none) none) none) none) none) none)) none) none) none) none) (T (D.leN (N (D.app x13 ((x14::([]:LI))::([]:LJ)))) 1099511627776) (aN.L0 k k1 (Z .i64 (M x6 1)) x15 x16 x17 (D.app x13 ((x14::([]:LI))::([]:LJ)))) none):=(jn _ _).trans (by kernel_rfl)
def c38:Code:=cB (cB (bT P 103))
def cJ(k:Nat)(a0:(LI)×(LJ)):Option ((LI)×(LJ)):=call k 103 a0
def cJ.L0(k j:Nat)(x0:Int)(x1:LI)(x2:LJ)(x3:LI)(x4:LJ)(x5:LI)(x6:LJ):Option ((LI)×(LJ)):=LL k 103 (cC (cC (cB (cA c38)))) j (bm 0 (JK k 103 (cB c38) (R0 103))) [frm 30 [(1,.pv 0 0),(2,.pv 1 0),(3,.pv 2 0),(4,In x0)]] [.var [Sl 3,Sl 4],.var [Sl 5,Sl 6],.var [Sl 7,Sl 8],Ro x1,Roo x2,Rw x3,Rww x4,Rw x5,Rww x6]
theorem cJ.eq(k:Nat)(a0):cJ (k+1) a0=T (D.leN (N (D.app ([]:LI) a0.1)) 1099511627776) (cJ.L0 k k 0 a0.1 a0.2 ([]:LI) ([]:LJ) (D.app ([]:LI) a0.1) ([]:LJ)) none:=by kernel_rfl
theorem cJ.bo(k j:Nat)(x0 x1 x2 x3 x4 x5 x6):cJ.L0 k (j+1) x0 x1 x2 x3 x4 x5 x6=T (D.lt x0 (O (N x2))) (T (D.le 0 x0) (T (U (V x0) (N x2)) (T (U (V x0) (N x2)) (T (U (V x0) (N x2)) (T (D.leN (N (D.app ([]:LI) (E x2 (V x0) []))) 1099511627776) (T (D.leN (N (D.app x6 ((D.app ([]:LI) (E x2 (V x0) []))::([]:LJ)))) 1099511627776) (cJ.L0 k j (Z .i64 (A x0 1)) x1 x2 x3 x4 x5 (D.app x6 ((D.app ([]:LI) (E x2 (V x0) []))::([]:LJ)))) none) none) none) none) none) none) (some (x5,x6)):=(jn _ _).trans (by kernel_rfl)
def dL(k:Nat)(a0:LI)(a1:Int):Option Int:=call k 113 (a0,a1)
def dL.J0(k:Nat)(x0:Int)(x1:LI):Option Int:=JJ k 113 (cB (cB (bT P 113))) (R0 113) [frm 17 [(0,Sl 0),(1,In x0)]] [Ro x1]
theorem dL.eq(k:Nat)(a0 a1):dL (k+1) a0 a1=T (D.lt a1 0) (some 0) (T (D.le (O (N a0)) a1) (some 0) (dL.J0 k a1 a0)):=by kernel_rfl
theorem dL.fG(k:Nat)(x0 x1):dL.J0 k x0 x1=T (D.le 0 x0) (T (U (V x0) (N x1)) (T (U (V x0) (N x1)) (some (E x1 (V x0) 0)) none) none) none:=(jn _ _).trans (by kernel_rfl)
def c39:Code:=cB (cB (bT P 121))
def bp(k:Nat)(a0:(LI)×(LJ))(a1 a2:Int):Option Int:=call k 121 (a0,a1,a2)
def bp.J0(k:Nat)(x0 x1:Int)(x2:LI)(x3:LJ):Option Int:=JJ k 121 c39 (R0 121) [frm 43 [(1,In x0),(2,In x1),(3,.pv 0 0)]] [.var [Sl 1,Sl 2],Ro x2,Roo x3]
def bp.J1(k:Nat)(x0 x1:Int)(x2:LI)(x3:LJ):Option Int:=JJ k 121 (cB (cB c39)) (R0 121) [frm 43 [(1,In x0),(3,.pv 0 0),(7,In x1)]] [.var [Sl 1,Sl 2],Ro x2,Roo x3]
theorem bp.eq(k:Nat)(a0 a1 a2):bp (k+1) a0 a1 a2=T (D.lt a1 0) (some 0) (T (D.le (O (N a0.2)) a1) (some 0) (bp.J0 k a1 a2 a0.1 a0.2)):=by kernel_rfl
theorem bp.fG(k:Nat)(x0 x1 x2 x3):bp.J0 k x0 x1 x2 x3=B (dL k x2 x0) fun r0=>T (D.lt (Z .i64 (M x1 r0)) 0) (some 0) (T (D.le 0 x0) (T (U (V x0) (N x3)) (T (U (V x0) (N x3)) (T (U (V x0) (N x3)) (T (D.le (O (N (E x3 (V x0) []))) (Z .i64 (M x1 r0))) (some 0) (bp.J1 k x0 (Z .i64 (M x1 r0)) x2 x3)) none) none) none) none):=(jn _ _).trans (by kernel_rfl)
theorem bp.eV(k:Nat)(x0 x1 x2 x3):bp.J1 k x0 x1 x2 x3=T (D.le 0 x0) (T (U (V x0) (N x3)) (T (U (V x0) (N x3)) (T (U (V x0) (N x3)) (T (D.le 0 x1) (T (U (V x1) (N (E x3 (V x0) []))) (T (U (V x0) (N x3)) (T (U (V x1) (N (E x3 (V x0) []))) (some (E (E x3 (V x0) []) (V x1) 0)) none) none) none) none) none) none) none) none:=(jn _ _).trans (by kernel_rfl)
def c40:Code:=cC (cC (cB (cB (cB (bT P 55)))))
def K41:cy (den (resTy P 55)):=bm 0 (R0 55)
def c42:Code:=cB (cC (cA c40))
def c43:Code:=cC (cC (cA c42))
def c44:Code:=cB c42
def K45(k k1:Nat):cy (den (resTy P 55)):=bm 1 (JK k 55 (cB c40) (LK k 55 c40 k1 K41))
def K46(k k1:Nat):cy (den (resTy P 55)):=bm 2 (JK k 55 c44 (K45 k k1))
def c47:Code:=cB c44
def aG(k:Nat)(a0:(LI)×(LJ))(a1:Int):Option ((LI)×(LJ)):=call k 55 (a0,a1)
def aG.L0(k j:Nat)(x0 x1:Int)(x2:LI)(x3:LJ)(x4:LI)(x5:LJ):Option ((LI)×(LJ)):=LL k 55 c40 j K41 [frm 67 [(1,In x0),(4,.pv 0 0),(5,.pv 1 0),(6,In x1)]] [.var [Sl 2,Sl 3],.var [Sl 4,Sl 5],Rw x2,Rww x3,Rw x4,Rww x5]
def aG.L1(k k1 j:Nat)(x0 x1 x2:Int)(x3:LI)(x4:LJ)(x5:LI)(x6:LJ):Option ((LI)×(LJ)):=LL k 55 c43 j (K46 k k1) [frm 67 [(1,In x0),(4,.pv 0 0),(5,.pv 1 0),(6,In x1),(7,In x2)]] [.var [Sl 2,Sl 3],.var [Sl 4,Sl 5],Rw x3,Rww x4,Rw x5,Rww x6]
def aG.J2(k k1 k2:Nat)(x0 x1 x2:Int)(x3:LI)(x4:LJ)(x5:LI)(x6:LJ):Option ((LI)×(LJ)):=JJ k 55 (cB c43) (LK k 55 c43 k2 (K46 k k1)) [frm 67 [(1,In x0),(4,.pv 0 0),(5,.pv 1 0),(6,In x1),(7,In x2)]] [.var [Sl 2,Sl 3],.var [Sl 4,Sl 5],Rw x3,Rww x4,Rw x5,Rww x6]
def aG.J3(k k1:Nat)(x0 x1 x2:Int)(x3:LI)(x4:LJ)(x5:LI)(x6:LJ):Option ((LI)×(LJ)):=JJ k 55 c44 (K45 k k1) [frm 67 [(1,In x0),(4,.pv 0 0),(5,.pv 1 0),(6,In x1),(7,In x2)]] [.var [Sl 2,Sl 3],.var [Sl 4,Sl 5],Rw x3,Rww x4,Rw x5,Rww x6]
def aG.J4(k k1:Nat)(x0 x1:Int)(x2:LI)(x3:LJ)(x4:LI)(x5:LJ):Option ((LI)×(LJ)):=JJ k 55 (cB (cT (cB (cA c47)))) (JK k 55 (cB c47) (K45 k k1)) [frm 67 [(1,In x0),(4,.pv 0 0),(5,.pv 1 0),(7,In x1)]] [.var [Sl 2,Sl 3],.var [Sl 4,Sl 5],Rw x2,Rww x3,Rw x4,Rww x5]
theorem aG.eq(k:Nat)(a0 a1):aG (k+1) a0 a1=B (cJ k (a0.1,a0.2)) fun r0=>aG.L0 k k a1 0 ([]:LI) ([]:LJ) r0.1 r0.2:=by kernel_rfl
theorem aG.bo(k j:Nat)(x0 x1 x2 x3 x4 x5):aG.L0 k (j+1) x0 x1 x2 x3 x4 x5=aG.L1 k j k x0 x1 0 x2 x3 x4 x5:=(jn _ _).trans (by kernel_rfl)
theorem aG.ep(k k1 j:Nat)(x0 x1 x2 x3 x4 x5 x6):aG.L1 k k1 (j+1) x0 x1 x2 x3 x4 x5 x6=B (bp k (x5,x6) x2 x1) fun r1=>T (D.lt 0 r1) (B (bp k (x5,x6) x2 x1) fun r2=>T (D.lt r2 x0) (aG.J2 k k1 j x0 x1 x2 x3 x4 x5 x6) (aG.J3 k k1 x0 x1 x2 x3 x4 x5 x6)) (aG.J3 k k1 x0 x1 x2 x3 x4 x5 x6):=(jn _ _).trans (by kernel_rfl)
theorem aG.iJ(k k1 k2:Nat)(x0 x1 x2 x3 x4 x5 x6):aG.J2 k k1 k2 x0 x1 x2 x3 x4 x5 x6=aG.L1 k k1 k2 x0 x1 (Z .i64 (A x2 1)) x3 x4 x5 x6:=(jn _ _).trans (by kernel_rfl)
theorem aG.ky(k k1:Nat)(x0 x1 x2 x3 x4 x5 x6):aG.J3 k k1 x0 x1 x2 x3 x4 x5 x6=B (bp k (x5,x6) x2 x1) fun r3=>T (D.eq r3 0) (T (D.eq x2 (O (N x6))) (T (D.leN (N (D.app x6 (([]:LI)::([]:LJ)))) 1099511627776) (aG.J4 k k1 x0 x2 x3 x4 x5 (D.app x6 (([]:LI)::([]:LJ)))) none) (aG.J4 k k1 x0 x2 x3 x4 x5 x6)) (T (D.le 0 x2) (T (U (V x2) (N x6)) (T (U (V x2) (N x6)) (T (U (V x2) (N x6)) (T (D.le 0 x1) (T (U (V x1) (N (E x6 (V x2) []))) (T (U (V x2) (N x6)) (T (U (V x1) (N (E x6 (V x2) []))) (aG.L0 k k1 r3 (Z .i64 (A x1 1)) x3 x4 x5 (D.set x6 (V x2) (D.set (E x6 (V x2) []) (V x1) x0))) none) none) none) none) none) none) none) none):=(jn _ _).trans (by kernel_rfl)
theorem aG.Iv(k k1:Nat)(x0 x1 x2 x3 x4 x5):aG.J4 k k1 x0 x1 x2 x3 x4 x5=T (D.le 0 x1) (T (U (V x1) (N x5)) (T (U (V x1) (N x5)) (T (U (V x1) (N x5)) (T (D.leN (N (D.app (E x5 (V x1) []) (x0::([]:LI)))) 1099511627776) (T (D.le 0 x1) (T (U (V x1) (N x5)) (T (U (V x1) (N x5)) (T (D.eqP (((V x1),0)::([]:List (Nat×Nat))) (((V x1),0)::([]:List (Nat×Nat)))) (some (x4,(D.set x5 (V x1) (D.app (E x5 (V x1) []) (x0::([]:LI)))))) none) none) none) none) none) none) none) none) none:=(jn _ _).trans (by kernel_rfl)
def c48:Code:=cB (cB (bT P 9))
def c49:Code:=cC (cC (cB (cA c48)))
def c50:Code:=cB c48
def K51(k:Nat):cy (den (resTy P 9)):=bm 0 (JK k 9 c50 (R0 9))
def aO(k:Nat)(a0:LI):Option (((LI)×(LJ))×Bool):=call k 9 a0
def aO.L0(k j:Nat)(x0:Int)(x1 x2:LI)(x3:LJ)(x4:LI)(x5:LJ):Option (((LI)×(LJ))×Bool):=LL k 9 c49 j (K51 k) [frm 27 [(0,Sl 0),(2,.pv 1 0),(4,.pv 2 0),(5,In x0)]] [Ro x1,.var [Sl 3,Sl 4],.var [Sl 5,Sl 6],Rw x2,Rww x3,Rw x4,Rww x5]
def aO.J1(k k1:Nat)(x0:Int)(x1 x2:LI)(x3:LJ)(x4:LI)(x5:LJ):Option (((LI)×(LJ))×Bool):=JJ k 9 (cB c49) (LK k 9 c49 k1 (K51 k)) [frm 27 [(0,Sl 0),(2,.pv 1 0),(4,.pv 2 0),(5,In x0)]] [Ro x1,.var [Sl 3,Sl 4],.var [Sl 5,Sl 6],Rw x2,Rww x3,Rw x4,Rww x5]
def aO.J2(k:Nat)(x0 x1:LI)(x2:LJ)(x3:LI)(x4:LJ):Option (((LI)×(LJ))×Bool):=JJ k 9 c50 (R0 9) [frm 27 [(0,Sl 0),(2,.pv 1 0),(4,.pv 2 0)]] [Ro x0,.var [Sl 3,Sl 4],.var [Sl 5,Sl 6],Rw x1,Rww x2,Rw x3,Rww x4]
theorem aO.eq(k:Nat)(a0):aO (k+1) a0=aO.L0 k k (Z .i64 (M (O (N a0)) 1)) a0 ([]:LI) ([]:LJ) ([]:LI) ([]:LJ):=by kernel_rfl
theorem aO.bo(k j:Nat)(x0 x1 x2 x3 x4 x5):aO.L0 k (j+1) x0 x1 x2 x3 x4 x5=T (D.le 0 x0) (B (ca k x1) fun r0=>T r0 (aO.J1 k j x0 x1 x2 x3 x4 x5) (aO.J2 k x1 x2 x3 x4 x5)) (aO.J2 k x1 x2 x3 x4 x5):=(jn _ _).trans (by kernel_rfl)
theorem aO.eV(k k1:Nat)(x0 x1 x2 x3 x4 x5):aO.J1 k k1 x0 x1 x2 x3 x4 x5=T (D.le 0 x0) (T (U (V x0) (N x1)) (T (U (V x0) (N x1)) (B (aG k (x4,x5) (E x1 (V x0) 0)) fun r1=>aO.L0 k k1 (Z .i64 (M x0 1)) x1 x2 x3 r1.1 r1.2) none) none) none:=(jn _ _).trans (by kernel_rfl)
theorem aO.iJ(k:Nat)(x0 x1 x2 x3 x4):aO.J2 k x0 x1 x2 x3 x4=B (ca k x0) fun r2=>some ((x3,x4),r2):=(jn _ _).trans (by kernel_rfl)
def gn(k:Nat)(a0 a1:Int):Option Int:=call k 162 (a0,a1)
theorem gn.eq(k:Nat)(a0 a1):gn (k+1) a0 a1=T (D.lt a0 a1) (some a0) (some a1):=by kernel_rfl
def c52:Code:=cB (cB (cB (bT P 163)))
def c53:Code:=cC (cC (cB (cA c52)))
def K54(k:Nat):cy (den (resTy P 163)):=bm 0 (JK k 163 (cB c52) (R0 163))
def c55:Code:=cB c53
def ck(k:Nat)(a0 a1:Int):Option LJ:=call k 163 (a0,a1)
def ck.L0(k j:Nat)(x0 x1:Int)(x2:LJ):Option LJ:=LL k 163 c53 j (K54 k) [frm 45 [(0,In x0),(5,Sl 0),(6,In x1)]] [Rww x2]
def ck.L1(k k1 j:Nat)(x0 x1 x2:Int)(x3 x4:LJ):Option LJ:=LL k 163 (cC (cC (cB (cB (cC (cA c55)))))) j (bm 2 (bm 1 (JK k 163 (cB c55) (LK k 163 c53 k1 (K54 k))))) [frm 45 [(0,In x0),(5,Sl 0),(6,In x1),(7,Sl 1),(8,In x2)]] [Rww x3,Rww x4]
theorem ck.eq(k:Nat)(a0 a1):ck (k+1) a0 a1=T (D.eq a0 0) (T (D.leN (N (D.app ([]:LJ) (([]:LI)::([]:LJ)))) 1099511627776) (some (D.app ([]:LJ) (([]:LI)::([]:LJ)))) none) (B (gn k a0 a1) fun r0=>ck.L0 k k a0 r0 ([]:LJ)):=by kernel_rfl
theorem ck.bo(k j:Nat)(x0 x1 x2):ck.L0 k (j+1) x0 x1 x2=T (D.le 1 x1) (B (ck k (Z .i64 (M x0 x1)) x1) fun r1=>ck.L1 k j k x0 x1 0 x2 r1) (some x2):=(jn _ _).trans (by kernel_rfl)
theorem ck.ep(k k1 j:Nat)(x0 x1 x2 x3 x4):ck.L1 k k1 (j+1) x0 x1 x2 x3 x4=T (D.lt x2 (O (N x4))) (T (D.le 0 x2) (T (U (V x2) (N x4)) (T (U (V x2) (N x4)) (T (U (V x2) (N x4)) (T (D.leN (N (D.app (x1::([]:LI)) (E x4 (V x2) []))) 1099511627776) (T (D.leN (N (D.app x3 ((D.app (x1::([]:LI)) (E x4 (V x2) []))::([]:LJ)))) 1099511627776) (ck.L1 k k1 j x0 x1 (Z .i64 (A x2 1)) (D.app x3 ((D.app (x1::([]:LI)) (E x4 (V x2) []))::([]:LJ))) x4) none) none) none) none) none) none) (ck.L0 k k1 x0 (Z .i64 (M x1 1)) x3):=(jn _ _).trans (by kernel_rfl)
def cx(k:Nat)(x0 x1 x2:Int)(x3:LI):Option ((LI)×(PUnit×(Int×Int))):=IO_ k 135 1 0 1 [.var [Sl 1,In 0,In 0],.row Bool.false (.int .u8) []] [[.pv 0 0,In x0],[.pv 0 0,Sl 1]] [.var [Sl 1,In x1,In x2],.row Bool.false (.int .u8) x3]
theorem cx.eq(k:Nat)(x0 x1 x2 x3):cx (k+1) x0 x1 x2 x3=B (aJ k (Z .i64 (A x0 1)) x1 x2 x3) fun r0=>B (ck k r0.1 x0) fun r1=>B (aJ k (O (N r1)) r0.2.2.1 r0.2.2.2 x3) fun r2=>T (D.le 0 r2.1) (T (U (V r2.1) (N r1)) (T (U (V r2.1) (N r1)) (T (U (V r2.1) (N r1)) (some ((E r1 (V r2.1) []),((),(r2.2.2.1,r2.2.2.2)))) none) none) none) none:=by kernel_rfl
def jU(k:Nat)(a0 a1:Int):Option Int:=call k 161 (a0,a1)
theorem jU.eq(k:Nat)(a0 a1):jU (k+1) a0 a1=T (D.lt a1 a0) (some a0) (some a1):=by kernel_rfl
def c56:Code:=cB (cB (bT P 134))
def c57:Code:=cC (cC (cB (cA c56)))
def K58(k:Nat):cy (((LI)×(LJ))×(PUnit×(Int×Int))):=bm 0 (JK k 134 (cB c56) (j6 (ef P (mD P 134) (fun z6 z7=>nc P 134 1 0 1 [.var [Sl 3,In 0,In 0],Ro [],Ro [],.row Bool.false (.int .u8) []] z6 z7))))
def c59:Code:=cB c57
def c60:Code:=cB (cB (cC (cA c59)))
def aM(k:Nat)(x0 x1:Int)(x2 x3 x4:LI):Option (((LI)×(LJ))×(PUnit×(Int×Int))):=IO_ k 134 1 0 1 [.var [Sl 3,In 0,In 0],Ro [],Ro [],.row Bool.false (.int .u8) []] [[.pv 0 0,.agg [Sl 1,Sl 2]],frm 4 [(0,.pv 0 0),(1,Sl 1),(2,Sl 2),(3,Sl 3)]] [.var [Sl 3,In x0,In x1],Ro x2,Ro x3,.row Bool.false (.int .u8) x4]
def aM.L0(k j:Nat)(x0 x1 x2:Int)(x3 x4 x5 x6:LI)(x7:LJ)(x8:LI)(x9:LJ):Option (((LI)×(LJ))×(PUnit×(Int×Int))):=LL k 134 c57 j (K58 k) [frm 64 [(0,.pv 0 0),(3,.pv 1 0),(4,.pv 2 0),(5,.pv 3 0),(6,In x0)],frm 4 [(0,.pv 0 0),(1,Sl 4),(2,Sl 5),(3,Sl 6)]] [.var [Sl 6,In x1,In x2],.var [Sl 4,Sl 5],.var [Sl 7,Sl 8],.var [Sl 9,Sl 10],Ro x3,Ro x4,.row Bool.false (.int .u8) x5,Rw x6,Rww x7,Rw x8,Rww x9]
def aM.L1(k k1 j:Nat)(x0 x1 x2 x3 x4:Int)(x5 x6 x7 x8 x9:LI)(x10:LJ)(x11:LI)(x12:LJ):Option (((LI)×(LJ))×(PUnit×(Int×Int))):=LL k 134 (cC (cC (cB (cA c60)))) j (bm 2 (JK k 134 (cB c60) (bm 1 (JK k 134 (cB c59) (LK k 134 c57 k1 (K58 k)))))) [frm 64 [(0,.pv 0 0),(3,.pv 1 0),(4,.pv 2 0),(5,.pv 3 0),(6,In x0),(7,Sl 4),(8,In x1),(9,In x2)],frm 4 [(0,.pv 0 0),(1,Sl 5),(2,Sl 6),(3,Sl 7)]] [.var [Sl 7,In x3,In x4],.var [Sl 5,Sl 6],.var [Sl 8,Sl 9],.var [Sl 10,Sl 11],Rw x5,Ro x6,Ro x7,.row Bool.false (.int .u8) x8,Rw x9,Rww x10,Rw x11,Rww x12]
theorem aM.eq(k:Nat)(x0 x1 x2 x3 x4):aM (k+1) x0 x1 x2 x3 x4=T (D.leN (N (D.app ([]:LI) x3)) 1099511627776) (aM.L0 k k 0 x0 x1 x2 x3 x4 ([]:LI) ([]:LJ) (D.app ([]:LI) x3) ([]:LJ)) none:=by kernel_rfl
theorem aM.bo(k j:Nat)(x0 x1 x2 x3 x4 x5 x6 x7 x8 x9):aM.L0 k (j+1) x0 x1 x2 x3 x4 x5 x6 x7 x8 x9=T (D.lt x0 (O (N x3))) (B (dL k x4 x0) fun r0=>aM.L1 k j k x0 1 r0 x1 x2 ([]:LI) x3 x4 x5 x6 x7 x8 x9) (some ((x8,x9),((),(x1,x2)))):=(jn _ _).trans (by kernel_rfl)
theorem aM.ep(k k1 j:Nat)(x0 x1 x2 x3 x4 x5 x6 x7 x8 x9 x10 x11 x12):aM.L1 k k1 (j+1) x0 x1 x2 x3 x4 x5 x6 x7 x8 x9 x10 x11 x12=T (D.le 0 x0) (T (U (V x0) (N x6)) (T (U (V x0) (N x6)) (T (D.lt x2 (E x6 (V x0) 0)) (B (bp k (x11,x12) (Z .i64 (M x0 1)) x2) fun r1=>B (jU k x1 (Z .i64 (A r1 1))) fun r2=>B (cg k 3 x3 x4 x8) fun r3=>B (fh k r3.1) fun r4=>B (aJ k 2 r3.2.2.1 r3.2.2.2 x8) fun r5=>B (gn k (Z .i64 (A r2 (Z .i64 (D.mul r4 r5.1)))) 9) fun r6=>T (D.leN (N (D.app x5 (r6::([]:LI)))) 1099511627776) (aM.L1 k k1 j x0 r6 (Z .i64 (A x2 1)) r5.2.2.1 r5.2.2.2 (D.app x5 (r6::([]:LI))) x6 x7 x8 x9 x10 x11 x12) none) (T (D.leN (N (D.app x12 (x5::([]:LJ)))) 1099511627776) (aM.L0 k k1 (Z .i64 (A x0 1)) x3 x4 x6 x7 x8 x9 x10 x11 (D.app x12 (x5::([]:LJ)))) none)) none) none) none:=(jn _ _).trans (by kernel_rfl)
def c61:Code:=cB (cB (bT P 112))
def c62:Code:=cC (cC (cB (cA c61)))
def K63(k:Nat):cy (den (resTy P 112)):=bm 0 (JK k 112 (cB c61) (R0 112))
def c64:Code:=cB c62
def aZ(k:Nat)(a0:LI):Option Bool:=call k 112 a0
def aZ.L0(k j:Nat)(x0 x1:Int)(x2:LI):Option Bool:=LL k 112 c62 j (K63 k) [frm 41 [(0,Sl 0),(3,In x0),(4,In x1)]] [Ro x2]
def aZ.J1(k k1:Nat)(x0 x1:Int)(x2:LI):Option Bool:=JJ k 112 (cB (cC (cA c64))) (bm 1 (JK k 112 (cB c64) (LK k 112 c62 k1 (K63 k)))) [frm 41 [(0,Sl 0),(3,In x0),(4,In x1)]] [Ro x2]
theorem aZ.eq(k:Nat)(a0):aZ (k+1) a0=aZ.L0 k k 0 0 a0:=by kernel_rfl
theorem aZ.bo(k j:Nat)(x0 x1 x2):aZ.L0 k (j+1) x0 x1 x2=T (D.lt x1 (O (N x2))) (T (D.le 0 x1) (T (U (V x1) (N x2)) (T (U (V x1) (N x2)) (B (fW k (E x2 (V x1) 0) 1 9) fun r0=>T (D.no r0) (some false) (T (D.lt 0 x1) (T (D.le 0 x1) (T (U (V x1) (N x2)) (T (U (V x1) (N x2)) (T (D.le 0 (Z .i64 (M x1 1))) (T (U (V (Z .i64 (M x1 1))) (N x2)) (T (U (V (Z .i64 (M x1 1))) (N x2)) (T (D.lt (E x2 (V (Z .i64 (M x1 1))) 0) (E x2 (V x1) 0)) (some false) (aZ.J1 k j x0 x1 x2)) none) none) none) none) none) none) (aZ.J1 k j x0 x1 x2))) none) none) none) (some true):=(jn _ _).trans (by kernel_rfl)
theorem aZ.eV(k k1:Nat)(x0 x1 x2):aZ.J1 k k1 x0 x1 x2=T (D.le 0 x1) (T (U (V x1) (N x2)) (T (U (V x1) (N x2)) (T (D.lt 9 (Z .i64 (A x0 (E x2 (V x1) 0)))) (some false) (aZ.L0 k k1 (Z .i64 (A x0 (E x2 (V x1) 0))) (Z .i64 (A x1 1)) x2)) none) none) none:=(jn _ _).trans (by kernel_rfl)
def c65:Code:=cB (cB (bT P 153))
def bU(k:Nat)(a0 a1:LI):Option Bool:=call k 153 (a0,a1)
def bU.J0(k:Nat)(x0 x1:LI):Option Bool:=JJ k 153 c65 (R0 153) [frm 36 [(0,Sl 0),(1,Sl 1)]] [Ro x0,Ro x1]
def bU.L1(k j:Nat)(x0:Int)(x1 x2:LI):Option Bool:=LL k 153 (cC (cC (cB (cA c65)))) j (bm 0 (JK k 153 (cB c65) (R0 153))) [frm 36 [(0,Sl 0),(1,Sl 1),(5,In x0)]] [Ro x1,Ro x2]
theorem bU.eq(k:Nat)(a0 a1):bU (k+1) a0 a1=B (aZ k a0) fun r0=>T (D.no r0) (some false) (B (aZ k a1) fun r1=>T (D.no r1) (some false) (T (D.lt (O (N a1)) (O (N a0))) (some false) (bU.J0 k a0 a1))):=by kernel_rfl
theorem bU.fG(k:Nat)(x0 x1):bU.J0 k x0 x1=bU.L1 k k 0 x0 x1:=(jn _ _).trans (by kernel_rfl)
theorem bU.ep(k j:Nat)(x0 x1 x2):bU.L1 k (j+1) x0 x1 x2=T (D.lt x0 (O (N x1))) (T (D.le 0 x0) (T (U (V x0) (N x1)) (T (U (V x0) (N x1)) (T (D.le 0 x0) (T (U (V x0) (N x2)) (T (U (V x0) (N x2)) (T (D.lt (E x2 (V x0) 0) (E x1 (V x0) 0)) (some false) (bU.L1 k j (Z .i64 (A x0 1)) x1 x2)) none) none) none) none) none) none) (some true):=(jn _ _).trans (by kernel_rfl)
def ir(k:Nat)(a0:(LI)×(LI)):Option Bool:=call k 114 a0
theorem ir.eq(k:Nat)(a0):ir (k+1) a0=B (bU k a0.2 a0.1) fun r0=>some r0:=by kernel_rfl
def c66:Code:=cB (cB (cB (bT P 46)))
def cb(k:Nat)(a0:(LI)×(LJ)):Option (((LI)×(LI))×Bool):=call k 46 a0
def cb.J0(k:Nat)(x0:LI)(x1:LJ)(x2 x3 x4 x5:LI):Option (((LI)×(LI))×Bool):=JJ k 46 c66 (R0 46) [frm 59 [(1,.pv 0 0),(2,.pv 1 0),(4,.pv 2 0)]] [.var [Sl 3,Sl 4],.var [Sl 5,Sl 6],.var [Sl 7,Sl 8],Ro x0,Roo x1,Rw x2,Rw x3,Rw x4,Rw x5]
def cb.L1(k j:Nat)(x0:Int)(x1:LI)(x2:LJ)(x3 x4 x5 x6:LI):Option (((LI)×(LI))×Bool):=LL k 46 (cC (cC (cB (cA c66)))) j (bm 0 (JK k 46 (cB c66) (R0 46))) [frm 59 [(1,.pv 0 0),(2,.pv 1 0),(4,.pv 2 0),(5,In x0)]] [.var [Sl 3,Sl 4],.var [Sl 5,Sl 6],.var [Sl 7,Sl 8],Ro x1,Roo x2,Rw x3,Rw x4,Rw x5,Rw x6]
theorem cb.eq(k:Nat)(a0):cb (k+1) a0=T (D.leN (N (D.app ([]:LI) a0.1)) 1099511627776) (B (aZ k a0.1) fun r0=>T (D.no r0) (some ((([]:LI),([]:LI)),false)) (T (D.lt (O (N a0.2)) (O (N a0.1))) (some ((([]:LI),([]:LI)),false)) (T (D.lt 9 (O (N a0.2))) (some ((([]:LI),([]:LI)),false)) (cb.J0 k a0.1 a0.2 ([]:LI) ([]:LI) ([]:LI) (D.app ([]:LI) a0.1))))) none:=by kernel_rfl
theorem cb.fG(k:Nat)(x0 x1 x2 x3 x4 x5):cb.J0 k x0 x1 x2 x3 x4 x5=cb.L1 k k 0 x0 x1 x2 x3 x4 x5:=(jn _ _).trans (by kernel_rfl)
theorem cb.ep(k j:Nat)(x0 x1 x2 x3 x4 x5 x6):cb.L1 k (j+1) x0 x1 x2 x3 x4 x5 x6=T (D.lt x0 (O (N x2))) (B (dL k x1 x0) fun r1=>T (D.le 0 x0) (T (U (V x0) (N x2)) (T (U (V x0) (N x2)) (T (U (V x0) (N x2)) (T (D.leN (N (D.app x5 ((Z .i64 (A r1 (O (N (E x2 (V x0) [])))))::([]:LI)))) 1099511627776) (cb.L1 k j (Z .i64 (A x0 1)) x1 x2 x3 x4 (D.app x5 ((Z .i64 (A r1 (O (N (E x2 (V x0) [])))))::([]:LI))) x6) none) none) none) none) none) (B (ir k (x5,x6)) fun r2=>T (D.no r2) (some ((([]:LI),([]:LI)),false)) (some ((x5,x6),true))):=(jn _ _).trans (by kernel_rfl)
def c67:Code:=cB (cB (cB (bT P 70)))
def c68:Code:=cC (cC (cB (cA c67)))
def K69(k:Nat):cy (den (resTy P 70)):=bm 0 (JK k 70 (cB c67) (R0 70))
def c70:Code:=cB c68
def c71:Code:=cC (cC (cB (cC (cA c70))))
def K72(k k1:Nat):cy (den (resTy P 70)):=bm 2 (bm 1 (JK k 70 (cB c70) (LK k 70 c68 k1 (K69 k))))
def c73:Code:=cB c71
def c74:Code:=cB c73
def K75(k k1 k2:Nat):cy (den (resTy P 70)):=LK k 70 c71 k2 (K72 k k1)
def aB(k:Nat)(a0:(LI)×(LJ)):Option Bool:=call k 70 a0
def aB.L0(k j:Nat)(x0:Int)(x1:LI)(x2:LJ)(x3 x4:LI):Option Bool:=LL k 70 c68 j (K69 k) [frm 64 [(1,.pv 0 0),(3,.pv 1 0),(5,In x0)]] [.var [Sl 2,Sl 3],.var [Sl 4,Sl 5],Ro x1,Roo x2,Rw x3,Rw x4]
def aB.L1(k k1 j:Nat)(x0 x1:Int)(x2:LI)(x3:LJ)(x4 x5:LI):Option Bool:=LL k 70 c71 j (K72 k k1) [frm 64 [(1,.pv 0 0),(3,.pv 1 0),(5,In x0),(6,In x1)]] [.var [Sl 2,Sl 3],.var [Sl 4,Sl 5],Ro x2,Roo x3,Rw x4,Rw x5]
def aB.J2(k k1 k2:Nat)(x0 x1 x2 x3:Int)(x4:LI)(x5:LJ)(x6 x7:LI):Option Bool:=JJ k 70 (cB (cB (cB (cC (cA c73))))) (bm 3 (JK k 70 c74 (K75 k k1 k2))) [frm 64 [(1,.pv 0 0),(3,.pv 1 0),(5,In x0),(6,In x1),(7,In x2),(8,In x3)]] [.var [Sl 2,Sl 3],.var [Sl 4,Sl 5],Ro x4,Roo x5,Rw x6,Rw x7]
def aB.J3(k k1 k2:Nat)(x0 x1:Int)(x2:LI)(x3:LJ)(x4 x5:LI):Option Bool:=JJ k 70 c74 (K75 k k1 k2) [frm 64 [(1,.pv 0 0),(3,.pv 1 0),(5,In x0),(6,In x1)]] [.var [Sl 2,Sl 3],.var [Sl 4,Sl 5],Ro x2,Roo x3,Rw x4,Rw x5]
theorem aB.eq(k:Nat)(a0):aB (k+1) a0=B (cb k (a0.1,a0.2)) fun r0=>T (D.no r0.2) (some false) (aB.L0 k k 0 a0.1 a0.2 r0.1.1 r0.1.2):=by kernel_rfl
theorem aB.bo(k j:Nat)(x0 x1 x2 x3 x4):aB.L0 k (j+1) x0 x1 x2 x3 x4=T (D.lt x0 (O (N x3))) (B (dL k x4 x0) fun r1=>aB.L1 k j k x0 r1 x1 x2 x3 x4) (some true):=(jn _ _).trans (by kernel_rfl)
theorem aB.ep(k k1 j:Nat)(x0 x1 x2 x3 x4 x5):aB.L1 k k1 (j+1) x0 x1 x2 x3 x4 x5=T (D.le 0 x0) (T (U (V x0) (N x4)) (T (U (V x0) (N x4)) (T (D.lt x1 (E x4 (V x0) 0)) (B (bp k (x2,x3) x0 x1) fun r2=>T (D.lt 0 x1) (B (bp k (x2,x3) x0 (Z .i64 (M x1 1))) fun r3=>aB.J2 k k1 j x0 x1 r2 r3 x2 x3 x4 x5) (aB.J2 k k1 j x0 x1 r2 0 x2 x3 x4 x5)) (aB.L0 k k1 (Z .i64 (A x0 1)) x2 x3 x4 x5)) none) none) none:=(jn _ _).trans (by kernel_rfl)
theorem aB.iJ(k k1 k2:Nat)(x0 x1 x2 x3 x4 x5 x6 x7):aB.J2 k k1 k2 x0 x1 x2 x3 x4 x5 x6 x7=B (fW k x2 1 9) fun r4=>T (D.no r4) (some false) (T (D.lt x2 x3) (some false) (B (bp k (x4,x5) (Z .i64 (M x0 1)) x1) fun r5=>T (D.le x2 r5) (some false) (aB.J3 k k1 k2 x0 x1 x4 x5 x6 x7))):=(jn _ _).trans (by kernel_rfl)
theorem aB.ky(k k1 k2:Nat)(x0 x1 x2 x3 x4 x5):aB.J3 k k1 k2 x0 x1 x2 x3 x4 x5=aB.L1 k k1 k2 x0 (Z .i64 (A x1 1)) x2 x3 x4 x5:=(jn _ _).trans (by kernel_rfl)
def cz(k:Nat)(x0 x1 x2:Int)(x3:LI):Option (((LI)×(LJ))×(PUnit×(Int×Int))):=IO_ k 78 1 0 1 [.var [Sl 1,In 0,In 0],.row Bool.false (.int .u8) []] [[.pv 0 0,In x0],[.pv 0 0,Sl 1]] [.var [Sl 1,In x1,In x2],.row Bool.false (.int .u8) x3]
theorem cz.eq(k:Nat)(x0 x1 x2 x3):cz (k+1) x0 x1 x2 x3=B (cx k x0 x1 x2 x3) fun r0=>B (aM k r0.2.2.1 r0.2.2.2 r0.1 ([]:LI) x3) fun r1=>B (aB k (r1.1.1,r1.1.2)) fun r2=>T (D.no r2) (some ((([]:LI),((1::(2::(2::([]:LI))))::((3::([]:LI))::([]:LJ)))),((),(r1.2.2.1,r1.2.2.2)))) (some ((r1.1.1,r1.1.2),((),(r1.2.2.1,r1.2.2.2)))):=by kernel_rfl
def c76:Code:=cB (cB (cB (bT P 164)))
def c77:Code:=cC (cC (cB (cA c76)))
def K78(k:Nat):cy (((LI)×(LI))×(PUnit×(Int×Int))):=bm 0 (JK k 164 (cB c76) (j6 (ef P (mD P 164) (fun z7 z8=>nc P 164 1 0 1 [.var [Sl 1,In 0,In 0],.row Bool.false (.int .u8) []] z7 z8))))
def c79:Code:=cB c77
def bj(k:Nat)(x0 x1 x2:Int)(x3:LI):Option (((LI)×(LI))×(PUnit×(Int×Int))):=IO_ k 164 1 0 1 [.var [Sl 1,In 0,In 0],.row Bool.false (.int .u8) []] [[.pv 0 0,In x0],[.pv 0 0,Sl 1]] [.var [Sl 1,In x1,In x2],.row Bool.false (.int .u8) x3]
def bj.L0(k j:Nat)(x0 x1 x2 x3:Int)(x4 x5 x6 x7 x8:LI):Option (((LI)×(LI))×(PUnit×(Int×Int))):=LL k 164 c77 j (K78 k) [frm 44 [(0,.pv 0 0),(4,.pv 1 0),(5,.pv 2 0),(6,In x0),(7,In x1)],[.pv 0 0,Sl 3]] [.var [Sl 3,In x2,In x3],.var [Sl 4,Sl 5],.var [Sl 6,Sl 7],.row Bool.false (.int .u8) x4,Rw x5,Rw x6,Rw x7,Rw x8]
def bj.J1(k k1:Nat)(x0 x1 x2 x3:Int)(x4 x5 x6 x7 x8:LI):Option (((LI)×(LI))×(PUnit×(Int×Int))):=JJ k 164 (cB (cB (cC (cA c79)))) (bm 1 (JK k 164 (cB c79) (LK k 164 c77 k1 (K78 k)))) [frm 44 [(0,.pv 0 0),(4,.pv 1 0),(5,.pv 2 0),(6,In x0),(7,In x1)],[.pv 0 0,Sl 3]] [.var [Sl 3,In x2,In x3],.var [Sl 4,Sl 5],.var [Sl 6,Sl 7],.row Bool.false (.int .u8) x4,Rw x5,Rw x6,Rw x7,Rw x8]
theorem bj.eq(k:Nat)(x0 x1 x2 x3):bj (k+1) x0 x1 x2 x3=B (cx k x0 x1 x2 x3) fun r0=>bj.L0 k k x0 0 r0.2.2.1 r0.2.2.2 x3 ([]:LI) ([]:LI) r0.1 ([]:LI):=by kernel_rfl
theorem bj.bo(k j:Nat)(x0 x1 x2 x3 x4 x5 x6 x7 x8):bj.L0 k (j+1) x0 x1 x2 x3 x4 x5 x6 x7 x8=T (D.lt x1 (O (N x7))) (T (D.le 0 x1) (T (U (V x1) (N x7)) (T (U (V x1) (N x7)) (B (aJ k (Z .i64 (A (E x7 (V x1) 0) 1)) x2 x3 x4) fun r1=>B (gn k x0 r1.1) fun r2=>T (D.eq r2 0) (some ((x7,x8),((),(r1.2.2.1,r1.2.2.2)))) (B (cg k 3 r1.2.2.1 r1.2.2.2 x4) fun r3=>T r3.1 (some ((x7,x8),((),(r3.2.2.1,r3.2.2.2)))) (bj.J1 k j r2 x1 r3.2.2.1 r3.2.2.2 x4 x5 x6 x7 x8))) none) none) none) (some ((x7,x8),((),(x2,x3)))):=(jn _ _).trans (by kernel_rfl)
theorem bj.eV(k k1:Nat)(x0 x1 x2 x3 x4 x5 x6 x7 x8):bj.J1 k k1 x0 x1 x2 x3 x4 x5 x6 x7 x8=T (D.leN (N (D.app x8 (x0::([]:LI)))) 1099511627776) (bj.L0 k k1 x0 (Z .i64 (A x1 1)) x2 x3 x4 x5 x6 x7 (D.app x8 (x0::([]:LI)))) none:=(jn _ _).trans (by kernel_rfl)
def eP(k:Nat)(x0 x1 x2:Int)(x3:LI):Option (((LI)×(LJ))×(PUnit×(Int×Int))):=IO_ k 136 1 0 1 [.var [Sl 1,In 0,In 0],.row Bool.false (.int .u8) []] [[.pv 0 0,In x0],[.pv 0 0,Sl 1]] [.var [Sl 1,In x1,In x2],.row Bool.false (.int .u8) x3]
theorem eP.eq(k:Nat)(x0 x1 x2 x3):eP (k+1) x0 x1 x2 x3=B (bj k x0 x1 x2 x3) fun r0=>B (aM k r0.2.2.1 r0.2.2.2 r0.1.1 r0.1.2 x3) fun r1=>B (aB k (r1.1.1,r1.1.2)) fun r2=>T (D.no r2) (some ((([]:LI),((1::(1::(2::([]:LI))))::((2::(3::([]:LI)))::([]:LJ)))),((),(r1.2.2.1,r1.2.2.2)))) (some ((r1.1.1,r1.1.2),((),(r1.2.2.1,r1.2.2.2)))):=by kernel_rfl
def dB(k:Nat)(x0 x1 x2:Int)(x3:LI):Option (((LI)×(LJ))×(PUnit×(Int×Int))):=IO_ k 80 1 0 1 [.var [Sl 1,In 0,In 0],.row Bool.false (.int .u8) []] [[.pv 0 0,In x0],[.pv 0 0,Sl 1]] [.var [Sl 1,In x1,In x2],.row Bool.false (.int .u8) x3]
theorem dB.eq(k:Nat)(x0 x1 x2 x3):dB (k+1) x0 x1 x2 x3=B (eP k x0 x1 x2 x3) fun r0=>T (D.eq (O (N r0.1.2)) 0) (some ((r0.1.1,r0.1.2),((),(r0.2.2.1,r0.2.2.2)))) (B (aJ k (O (N r0.1.2)) r0.2.2.1 r0.2.2.2 x3) fun r1=>B (aJ k 16 r1.2.2.1 r1.2.2.2 x3) fun r2=>T (D.eq r2.1 0) (T (D.le 0 r1.1) (T (U (V r1.1) (N r0.1.2)) (T (U (V r1.1) (N r0.1.2)) (B (bZ k r2.2.2.1 r2.2.2.2 (0::(9::(10::((-1)::([]:LI))))) x3) fun r3=>T (U (V r1.1) (N r0.1.2)) (T (D.leN (N (D.app (E r0.1.2 (V r1.1) []) (r3.1::([]:LI)))) 1099511627776) (T (D.le 0 r1.1) (T (U (V r1.1) (N r0.1.2)) (T (U (V r1.1) (N r0.1.2)) (T (D.eqP (((V r1.1),0)::([]:List (Nat×Nat))) (((V r1.1),0)::([]:List (Nat×Nat)))) (some ((r0.1.1,(D.set r0.1.2 (V r1.1) (D.app (E r0.1.2 (V r1.1) []) (r3.1::([]:LI))))),((),(r3.2.2.1,r3.2.2.2)))) none) none) none) none) none) none) none) none) none) (T (D.eq r2.1 1) (T (D.le 0 r1.1) (T (U (V r1.1) (N r0.1.2)) (T (U (V r1.1) (N r0.1.2)) (T (U (V r1.1) (N r0.1.2)) (T (D.lt 0 (O (N (E r0.1.2 (V r1.1) [])))) (T (D.le 0 r1.1) (T (U (V r1.1) (N r0.1.2)) (T (U (V r1.1) (N r0.1.2)) (T (D.le 0 r1.1) (T (U (V r1.1) (N r0.1.2)) (T (U (V r1.1) (N r0.1.2)) (T (U (V r1.1) (N r0.1.2)) (T (D.le 0 0) (T (U (V 0) (N (E r0.1.2 (V r1.1) []))) (T (U (V r1.1) (N r0.1.2)) (T (U (V 0) (N (E r0.1.2 (V r1.1) []))) (T (U (V r1.1) (N r0.1.2)) (T (D.le 0 0) (T (U (V 0) (N (E r0.1.2 (V r1.1) []))) (T (U (V r1.1) (N r0.1.2)) (T (U (V 0) (N (E r0.1.2 (V r1.1) []))) (some ((r0.1.1,(D.set r0.1.2 (V r1.1) (D.set (E r0.1.2 (V r1.1) []) (V 0) (Z .i64 (A (E (E r0.1.2 (V r1.1) []) (V 0) 0) 1))))),((),(r2.2.2.1,r2.2.2.2)))) none) none) none) none) none) none) none) none) none) none) none) none) none) none) none) none) (some ((r0.1.1,r0.1.2),((),(r2.2.2.1,r2.2.2.2))))) none) none) none) none) (T (D.eq r2.1 2) (B (bZ k r2.2.2.1 r2.2.2.2 (1::(0::((-1)::(9::([]:LI))))) x3) fun r4=>T (D.leN (N (D.app r0.1.1 (r4.1::([]:LI)))) 1099511627776) (some (((D.app r0.1.1 (r4.1::([]:LI))),r0.1.2),((),(r4.2.2.1,r4.2.2.2)))) none) (some ((r0.1.1,r0.1.2),((),(r2.2.2.1,r2.2.2.2))))))):=by kernel_rfl
def c80:Code:=cB (cB (bT P 49))
def c81:Code:=cC (cC (cB (cA c80)))
def c82:Code:=cB c80
def c83:Code:=cB (bT P 56)
def c84:Code:=cA c83
def c85:Code:=cB c83
def K86(k:Nat):cy (den (resTy P 56)):=j6 (ef P (mD P 49) (fun z6 z7=>St.force (St.put z7 (Go.Oper.dst (oW (Code.ops c84) 1)) (nx z6)) ((fun z8 z9=>fN (Code.ops c84) 1 (oW (Code.ops c84) 1) z9 ((fun z10 z11=>dR P cfg (jH P cfg ext (k+1)) Option.none (Code.ops c84) [2] (trN 2) z11 (fun z12 z13=>JK (k+1) 56 c85 (R0 56) .normal z13)) z8)) (Touch.mk [] [] [] Bool.true))))
def K87(k:Nat):cy (den (resTy P 56)):=bm 0 (JK k 49 c82 (K86 k))
def ao(k:Nat)(a0:LI):Option (((LI)×(LJ))×Int):=call k 56 a0
def ao.L0(k j:Nat)(x0 x1 x2:Int)(x3 x4:LI)(x5:LJ):Option (((LI)×(LJ))×Int):=LL k 49 c81 j (K87 k) [frm 32 [(0,Sl 0),(3,In x0),(4,In x1)],frm 27 [(0,Sl 0),(1,.tup []),(2,.pv 1 0),(3,In x2),(4,.tup []),(5,.tup []),(6,Sl 0),(7,.tup []),(8,.tup []),(9,.tup []),(10,.tup []),(11,.tup []),(12,.tup []),(13,.tup []),(14,.tup []),(15,.tup []),(16,.tup []),(17,.tup []),(18,.tup []),(19,.tup []),(20,.tup []),(21,.tup []),(22,.tup []),(23,.tup []),(24,.tup []),(25,.tup []),(26,.tup [])]] [.row Bool.false (.int .u8) x3,.var [Sl 2,Sl 3],Rw x4,Rww x5]
def ao.J1(k k1:Nat)(x0 x1 x2:Int)(x3 x4:LI)(x5:LJ):Option (((LI)×(LJ))×Int):=JJ k 49 (cB c81) (LK k 49 c81 k1 (K87 k)) [frm 32 [(0,Sl 0),(3,In x0),(4,In x1)],frm 27 [(0,Sl 0),(1,.tup []),(2,.pv 1 0),(3,In x2),(4,.tup []),(5,.tup []),(6,Sl 0),(7,.tup []),(8,.tup []),(9,.tup []),(10,.tup []),(11,.tup []),(12,.tup []),(13,.tup []),(14,.tup []),(15,.tup []),(16,.tup []),(17,.tup []),(18,.tup []),(19,.tup []),(20,.tup []),(21,.tup []),(22,.tup []),(23,.tup []),(24,.tup []),(25,.tup []),(26,.tup [])]] [.row Bool.false (.int .u8) x3,.var [Sl 2,Sl 3],Rw x4,Rww x5]
def ao.J2(k:Nat)(x0 x1:Int)(x2 x3:LI)(x4:LJ):Option (((LI)×(LJ))×Int):=JJ k 49 c82 (K86 k) [frm 32 [(0,Sl 0),(3,In x0)],frm 27 [(0,Sl 0),(1,.tup []),(2,.pv 1 0),(3,In x1),(4,.tup []),(5,.tup []),(6,Sl 0),(7,.tup []),(8,.tup []),(9,.tup []),(10,.tup []),(11,.tup []),(12,.tup []),(13,.tup []),(14,.tup []),(15,.tup []),(16,.tup []),(17,.tup []),(18,.tup []),(19,.tup []),(20,.tup []),(21,.tup []),(22,.tup []),(23,.tup []),(24,.tup []),(25,.tup []),(26,.tup [])]] [.row Bool.false (.int .u8) x2,.var [Sl 2,Sl 3],Rw x3,Rww x4]
def ao.J3(k:Nat)(x0 x1:Int)(x2:LI)(x3:LJ)(x4 x5:LI)(x6:LJ):Option (((LI)×(LJ))×Int):=JJ (k+1) 56 (cB (cB c85)) (R0 56) [frm 27 [(2,.pv 0 0),(4,.pv 1 0),(5,.pv 2 0)]] [.var [Sl 3,Sl 4],.var [Sl 5,In x0,In x1],.var [Sl 6,Sl 7],Rw x2,Rww x3,.row Bool.false (.int .u8) x4,Rw x5,Rww x6]
theorem ao.eq(k:Nat)(a0):ao (k+2) a0=ao.L0 k k (Z .i64 (A 26583 (O (N a0)))) 0 0 a0 ([]:LI) ([]:LJ):=by kernel_rfl
theorem ao.bo(k j:Nat)(x0 x1 x2 x3 x4 x5):ao.L0 k (j+1) x0 x1 x2 x3 x4 x5=T (D.lt x1 (O (N x3))) (T (D.lt x1 4000) (ao.J1 k j x0 x1 x2 x3 x4 x5) (ao.J2 k x0 x2 x3 x4 x5)) (ao.J2 k x0 x2 x3 x4 x5):=(jn _ _).trans (by kernel_rfl)
theorem ao.eV(k k1:Nat)(x0 x1 x2 x3 x4 x5):ao.J1 k k1 x0 x1 x2 x3 x4 x5=T (D.le 0 x1) (T (U (V x1) (N x3)) (T (U (V x1) (N x3)) (ao.L0 k k1 (D.andI .i64 (Z .i64 (A (Z .i64 (A (Z .i64 (D.mul x0 131)) (Z .i64 (E x3 (V x1) 0)))) 7)) 1073741823) (Z .i64 (A x1 1)) x2 x3 x4 x5) none) none) none:=(jn _ _).trans (by kernel_rfl)
theorem ao.iJ(k:Nat)(x0 x1 x2 x3 x4):ao.J2 k x0 x1 x2 x3 x4=B (cz (k+1) 8 0 x0 x2) fun r0=>B (cg (k+1) 8 r0.2.2.1 r0.2.2.2 x2) fun r1=>T r1.1 (B (dB (k+1) 8 r1.2.2.1 r1.2.2.2 x2) fun r2=>ao.J3 k r2.2.2.1 r2.2.2.2 x3 x4 x2 r2.1.1 r2.1.2) (ao.J3 k r1.2.2.1 r1.2.2.2 x3 x4 x2 r0.1.1 r0.1.2):=(jn _ _).trans (by kernel_rfl)
theorem ao.ky(k:Nat)(x0 x1 x2 x3 x4 x5 x6):ao.J3 k x0 x1 x2 x3 x4 x5 x6=B (aJ (k+1) 6 x0 x1 x4) fun r3=>B (aJ (k+1) 4 r3.2.2.1 r3.2.2.2 x4) fun r4=>B (aJ (k+1) 4 r4.2.2.1 r4.2.2.2 x4) fun r5=>B (bZ (k+1) r5.2.2.1 r5.2.2.2 ((Z .i64 (A 1 r3.1))::((Z .i64 (A 1 r4.1))::((Z .i64 (A 1 r5.1))::(0::(10::([]:LI)))))) x4) fun r6=>some ((x5,x6),r6.1):=(jn _ _).trans (by kernel_rfl)
def cR(k:Nat)(a0:LI):Option (((LI)×(LJ))×Int):=call k 10 a0
theorem cR.eq(k:Nat)(a0):cR (k+2) a0=B (ao (k+1) a0) fun r0=>some ((r0.1.1,r0.1.2),r0.2):=by kernel_rfl
def c88:Code:=cB (cB (bT P 128))
def c89:Code:=cC (cC (cB (cA c88)))
def K90(k:Nat):cy (den (resTy P 128)):=bm 0 (JK k 128 (cB c88) (R0 128))
def c91:Code:=cB (cB c89)
def aW(k:Nat)(a0:LI):Option Bool:=call k 128 a0
def aW.L0(k j:Nat)(x0 x1 x2:Int)(x3:LI):Option Bool:=LL k 128 c89 j (K90 k) [frm 35 [(0,Sl 0),(3,In x0),(6,Sl 0),(7,In x1),(8,In x2)]] [Ro x3]
def aW.J1(k k1:Nat)(x0 x1 x2 x3:Int)(x4:LI):Option Bool:=JJ k 128 (cB (cB (cC (cA c91)))) (bm 1 (JK k 128 (cB c91) (LK k 128 c89 k1 (K90 k)))) [frm 35 [(0,Sl 0),(3,In x0),(5,In x1),(6,Sl 0),(7,In x2),(8,In x3)]] [Ro x4]
theorem aW.eq(k:Nat)(a0):aW (k+1) a0=aW.L0 k k 0 (O (N a0)) 0 a0:=by kernel_rfl
theorem aW.bo(k j:Nat)(x0 x1 x2 x3):aW.L0 k (j+1) x0 x1 x2 x3=T (D.lt x2 x1) (T (D.le 0 x2) (T (U (V x2) (N x3)) (T (U (V x2) (N x3)) (B (cw k (E x3 (V x2) 0) 1 9) fun r0=>T (D.no r0) (some false) (T (D.lt 0 x2) (T (D.le 0 (Z .i64 (M x2 1))) (T (U (V (Z .i64 (M x2 1))) (N x3)) (T (U (V (Z .i64 (M x2 1))) (N x3)) (T (D.lt (E x3 (V (Z .i64 (M x2 1))) 0) (E x3 (V x2) 0)) (some false) (aW.J1 k j x0 (E x3 (V x2) 0) x1 x2 x3)) none) none) none) (aW.J1 k j x0 (E x3 (V x2) 0) x1 x2 x3))) none) none) none) (some true):=(jn _ _).trans (by kernel_rfl)
theorem aW.eV(k k1:Nat)(x0 x1 x2 x3 x4):aW.J1 k k1 x0 x1 x2 x3 x4=T (D.lt 9 (Z .i64 (A x0 x1))) (some false) (aW.L0 k k1 (Z .i64 (A x0 x1)) x2 (Z .i64 (A x3 1)) x4):=(jn _ _).trans (by kernel_rfl)
def bI(k:Nat)(a0:LI):Option LI:=call k 126 a0
theorem bI.eq(k:Nat)(a0):bI (k+1) a0=T (D.eqN (N a0) 0) (D.both (some ([]:LI)) (T (D.leN (N (D.app ([]:LI) a0)) 1099511627776) (some (D.app ([]:LI) a0)) none)) (T (D.leN (N (D.app ([]:LI) a0)) 1099511627776) (some (D.app ([]:LI) a0)) none):=by kernel_rfl
def eM(k:Nat)(a0:LI)(a1:Int):Option Int:=call k 76 (a0,a1)
theorem eM.eq(k:Nat)(a0 a1):eM (k+1) a0 a1=B (cw k a1 0 (Z .i64 (M (O (N a0)) 1))) fun r0=>T (D.no r0) (some 0) (T (D.le 0 a1) (T (U (V a1) (N a0)) (T (U (V a1) (N a0)) (some (E a0 (V a1) 0)) none) none) none):=by kernel_rfl
def c92:Code:=cB (cB (bT P 159))
def bV(k:Nat)(a0 a1:LI):Option Bool:=call k 159 (a0,a1)
def bV.J0(k:Nat)(x0 x1:LI):Option Bool:=JJ k 159 c92 (R0 159) [frm 28 [(0,Sl 0),(1,Sl 1)]] [Ro x0,Ro x1]
def bV.L1(k j:Nat)(x0 x1:Int)(x2 x3:LI):Option Bool:=LL k 159 (cC (cC (cB (cA c92)))) j (bm 0 (JK k 159 (cB c92) (R0 159))) [frm 28 [(1,Sl 0),(15,Sl 1),(16,In x0),(17,In x1)]] [Ro x2,Ro x3]
theorem bV.eq(k:Nat)(a0 a1):bV (k+1) a0 a1=B (aW k a0) fun r0=>T (D.no r0) (some false) (B (aW k a1) fun r1=>T (D.no r1) (some false) (bV.J0 k a0 a1)):=by kernel_rfl
theorem bV.fG(k:Nat)(x0 x1):bV.J0 k x0 x1=bV.L1 k k (O (N x0)) 0 x1 x0:=(jn _ _).trans (by kernel_rfl)
theorem bV.ep(k j:Nat)(x0 x1 x2 x3):bV.L1 k (j+1) x0 x1 x2 x3=T (D.lt x1 x0) (T (D.le 0 x1) (T (U (V x1) (N x3)) (T (U (V x1) (N x3)) (B (eM k x2 x1) fun r2=>T (D.lt r2 (E x3 (V x1) 0)) (some false) (bV.L1 k j x0 (Z .i64 (A x1 1)) x2 x3)) none) none) none) (some true):=(jn _ _).trans (by kernel_rfl)
def iu(k:Nat)(a0:(LI)×(LI)):Option Bool:=call k 129 a0
theorem iu.eq(k:Nat)(a0):iu (k+1) a0=B (bV k a0.2 a0.1) fun r0=>some r0:=by kernel_rfl
def c93:Code:=cB (cB (bT P 74))
def c94:Code:=cB c93
def cd(k:Nat)(a0:(LI)×(LJ)):Option (((LI)×(LI))×Bool):=call k 74 a0
def cd.J0(k:Nat)(x0:LI)(x1:LJ)(x2 x3:LI):Option (((LI)×(LI))×Bool):=JJ k 74 c93 (R0 74) [frm 51 [(1,.pv 0 0),(2,.pv 1 0)]] [.var [Sl 2,Sl 3],.var [Sl 4,Sl 5],Ro x0,Roo x1,Rw x2,Rw x3]
def cd.L1(k j:Nat)(x0 x1:Int)(x2:LJ)(x3 x4 x5 x6 x7:LI):Option (((LI)×(LI))×Bool):=LL k 74 (cC (cC (cB (cA c94)))) j (bm 0 (JK k 74 (cB c94) (R0 74))) [frm 51 [(1,.pv 0 0),(2,.pv 1 0),(4,.pv 2 0),(26,Sl 3),(27,In x0),(28,In x1)]] [.var [Sl 4,Sl 3],.var [Sl 5,Sl 6],.var [Sl 7,Sl 8],Roo x2,Ro x3,Rw x4,Rw x5,Rw x6,Rw x7]
theorem cd.eq(k:Nat)(a0):cd (k+1) a0=B (aW k a0.1) fun r0=>T (D.no r0) (some ((([]:LI),([]:LI)),false)) (T (D.lt (O (N a0.2)) (O (N a0.1))) (some ((([]:LI),([]:LI)),false)) (cd.J0 k a0.1 a0.2 ([]:LI) ([]:LI))):=by kernel_rfl
theorem cd.fG(k:Nat)(x0 x1 x2 x3):cd.J0 k x0 x1 x2 x3=B (bI k x0) fun r1=>cd.L1 k k (O (N x1)) 0 x1 x0 x2 x3 ([]:LI) r1:=(jn _ _).trans (by kernel_rfl)
theorem cd.ep(k j:Nat)(x0 x1 x2 x3 x4 x5 x6 x7):cd.L1 k (j+1) x0 x1 x2 x3 x4 x5 x6 x7=T (D.lt x1 x0) (T (D.le 0 x1) (T (U (V x1) (N x2)) (T (U (V x1) (N x2)) (B (eM k x3 x1) fun r2=>T (U (V x1) (N x2)) (T (D.leN (N (D.app x6 ((Z .i64 (A r2 (O (N (E x2 (V x1) [])))))::([]:LI)))) 1099511627776) (cd.L1 k j x0 (Z .i64 (A x1 1)) x2 x3 x4 x5 (D.app x6 ((Z .i64 (A r2 (O (N (E x2 (V x1) [])))))::([]:LI))) x7) none) none) none) none) none) (B (iu k (x6,x7)) fun r3=>T (D.no r3) (some ((([]:LI),([]:LI)),false)) (some ((x6,x7),true))):=(jn _ _).trans (by kernel_rfl)
def dG(k:Nat)(a0:(LI)×(LJ))(a1 a2:Int):Option Int:=call k 75 (a0,a1,a2)
theorem dG.eq(k:Nat)(a0 a1 a2):dG (k+1) a0 a1 a2=B (cw k a1 0 (Z .i64 (M (O (N a0.2)) 1))) fun r0=>T (D.no r0) (some 0) (T (D.le 0 a1) (T (U (V a1) (N a0.2)) (T (U (V a1) (N a0.2)) (B (eM k a0.1 a1) fun r1=>T (U (V a1) (N a0.2)) (B (eM k (E a0.2 (V a1) []) (Z .i64 (M a2 r1))) fun r2=>some r2) none) none) none) none):=by kernel_rfl
def c95:Code:=cB (cB (bT P 20))
def c96:Code:=cC (cC (cB (cA c95)))
def K97(k:Nat):cy (den (resTy P 20)):=bm 0 (JK k 20 (cB c95) (R0 20))
def c98:Code:=cB (cB c96)
def c99:Code:=cC (cC (cB (cB (cC (cA c98)))))
def H6(k k1:Nat):cy (den (resTy P 20)):=bm 2 (bm 1 (JK k 20 (cB c98) (LK k 20 c96 k1 (K97 k))))
def aF(k:Nat)(a0:(LI)×(LJ)):Option Bool:=call k 20 a0
def aF.L0(k j:Nat)(x0 x1:Int)(x2:LJ)(x3:LI):Option Bool:=LL k 20 c96 j (K97 k) [frm 67 [(1,.pv 0 0),(17,Sl 1),(18,In x0),(19,In x1)]] [.var [Sl 2,Sl 1],Roo x2,Ro x3]
def aF.L1(k k1 j:Nat)(x0:Int)(x1:Nat)(x2 x3:Int)(x4:Nat)(x5 x6:Int)(x7:LJ)(x8:LI):Option Bool:=LL k 20 c99 j (H6 k k1) [frm 67 [(1,.pv 0 0),(5,In x0),(6,.sl 1 [(x1,0)] Option.none),(17,Sl 1),(18,In x2),(19,In x3),(24,.sl 1 [(x4,0)] Option.none),(25,In x5),(26,In x6)]] [.var [Sl 2,Sl 1],Roo x7,Ro x8]
def aF.J2(k k1 k2:Nat)(x0:Int)(x1:Nat)(x2 x3:Int)(x4:Nat)(x5 x6:Int)(x7:LJ)(x8:LI):Option Bool:=JJ k 20 (cB (cB (cB c99))) (LK k 20 c99 k2 (H6 k k1)) [frm 67 [(1,.pv 0 0),(5,In x0),(6,.sl 1 [(x1,0)] Option.none),(17,Sl 1),(18,In x2),(19,In x3),(24,.sl 1 [(x4,0)] Option.none),(25,In x5),(26,In x6)]] [.var [Sl 2,Sl 1],Roo x7,Ro x8]
theorem aF.eq(k:Nat)(a0):aF (k+1) a0=B (cd k (a0.1,a0.2)) fun r0=>T (D.no r0.2) (some false) (aF.L0 k k (O (N a0.2)) 0 a0.2 a0.1):=by kernel_rfl
theorem aF.bo(k j:Nat)(x0 x1 x2 x3):aF.L0 k (j+1) x0 x1 x2 x3=T (D.lt x1 x0) (T (D.le 0 x1) (T (U (V x1) (N x2)) (T (U (V x1) (N x2)) (T (U (V x1) (N x2)) (aF.L1 k j k x1 (V x1) x0 x1 (V x1) (O (N (E x2 (V x1) []))) 0 x2 x3) none) none) none) none) (some true):=(jn _ _).trans (by kernel_rfl)
theorem aF.ep(k k1 j:Nat)(x0 x1 x2 x3 x4 x5 x6 x7 x8):aF.L1 k k1 (j+1) x0 x1 x2 x3 x4 x5 x6 x7 x8=T (D.lt x6 x5) (T (U x4 (N x7)) (T (D.le 0 x6) (T (U (V x6) (N (E x7 x4 []))) (T (U x4 (N x7)) (T (U (V x6) (N (E x7 x4 []))) (B (cw k (E (E x7 x4 []) (V x6) 0) 1 9) fun r1=>T (D.no r1) (some false) (T (D.lt 0 x6) (T (U x1 (N x7)) (T (D.le 0 (Z .i64 (M x6 1))) (T (U (V (Z .i64 (M x6 1))) (N (E x7 x1 []))) (T (U x1 (N x7)) (T (U (V (Z .i64 (M x6 1))) (N (E x7 x1 []))) (T (D.lt (E (E x7 x4 []) (V x6) 0) (E (E x7 x1 []) (V (Z .i64 (M x6 1))) 0)) (some false) (T (D.lt 0 x0) (B (eM k x8 x0) fun r2=>B (dG k (x8,x7) (Z .i64 (M x0 1)) (Z .i64 (A r2 x6))) fun r3=>T (D.le (E (E x7 x4 []) (V x6) 0) r3) (some false) (aF.J2 k k1 j x0 x1 x2 x3 x4 x5 x6 x7 x8)) (aF.J2 k k1 j x0 x1 x2 x3 x4 x5 x6 x7 x8))) none) none) none) none) none) (T (D.lt 0 x0) (B (eM k x8 x0) fun r4=>B (dG k (x8,x7) (Z .i64 (M x0 1)) (Z .i64 (A r4 x6))) fun r5=>T (D.le (E (E x7 x4 []) (V x6) 0) r5) (some false) (aF.J2 k k1 j x0 x1 x2 x3 x4 x5 x6 x7 x8)) (aF.J2 k k1 j x0 x1 x2 x3 x4 x5 x6 x7 x8)))) none) none) none) none) none) (aF.L0 k k1 x2 (Z .i64 (A x3 1)) x7 x8):=(jn _ _).trans (by kernel_rfl)
theorem aF.iJ(k k1 k2:Nat)(x0 x1 x2 x3 x4 x5 x6 x7 x8):aF.J2 k k1 k2 x0 x1 x2 x3 x4 x5 x6 x7 x8=aF.L1 k k1 k2 x0 x1 x2 x3 x4 x5 (Z .i64 (A x6 1)) x7 x8:=(jn _ _).trans (by kernel_rfl)
def dn(k:Nat)(a0:(LI)×(LJ)):Option Bool:=call k 57 a0
theorem dn.eq(k:Nat)(a0):dn (k+1) a0=T (D.eq (O (N a0.1)) 0) (B (aF k (a0.1,a0.2)) fun r0=>some r0) (some false):=by kernel_rfl
def Ip:Code:=cB (cB (cB (bT P 59)))
def HM:Code:=cC (cB (cA Ip))
def HP(k:Nat):cy (den (resTy P 59)):=bm 0 (JK k 59 (cB Ip) (R0 59))
def H5:Code:=cC (cC (cB (bT P 155)))
def bB(k:Nat)(a0:(LI)×(LJ)):Option LI:=call k 59 a0
def bB.L0(k j:Nat)(x0:Int)(x1:LJ)(x2:LI):Option LI:=D.jn (fun z1=>jA (fun z2 z3=>fT P cfg (jH P cfg ext k) (n9 (fun z4 z5=>X k 59 (cA HM) z4 z5) (fun z6 z7=>X k 59 (cB HM) z6 z7) (List.toArray [13,14]) (HP k)) (Go.Func.ntmps (mD P 155)) k 155 H5 z2 z3) (Cfg.loops cfg 155 (key H5)) j z1 (bm 0 (j6 (fun z11=>HP k .normal (St.mk (List.tail (St.fr z11)) (St.rs z11)))))) (St.mk [frm 19 [(1,.pv 0 0),(3,In x0)],frm 19 [(3,.pv 1 0),(12,.fn 155 [] [.pv 0 0])]] [.var [Sl 2],.var [Sl 3],Roo x1,Rw x2])
theorem bB.eq(k:Nat)(a0):bB (k+1) a0=B (aF k (a0.1,a0.2)) fun r0=>T (D.no r0) (some ([]:LI)) (bB.L0 k k (Z .i64 (M (O (N a0.2)) 1)) a0.2 ([]:LI)):=by kernel_rfl
theorem bB.bo(k j:Nat)(x0 x1 x2):bB.L0 k (j+1) x0 x1 x2=T (D.le 0 x0) (T (D.le 0 x0) (T (U (V x0) (N x1)) (T (U (V x0) (N x1)) (T (U (V x0) (N x1)) (T (D.leN (N (D.app x2 (E x1 (V x0) []))) 1099511627776) (bB.L0 k j (Z .i64 (M x0 1)) x1 (D.app x2 (E x1 (V x0) []))) none) none) none) none) none) (some x2):=(jn _ _).trans (by kernel_rfl)
def Hb:Code:=cB (bT P 11)
def Hw:Code:=cB Hb
def Hk:Code:=cB (bT P 52)
def FW:Code:=cA Hw
def aX(k:Nat)(a0:(LI)×(LJ))(a1:Int):Option (((LI)×(LJ))×Bool):=call k 11 (a0,a1)
def aX.J0(k:Nat)(x0:Int)(x1:LI)(x2:LJ)(x3:LI)(x4:LJ):Option (((LI)×(LJ))×Bool):=JJ (k+1) 11 Hw (R0 11) [frm 26 [(1,In x0),(2,.pv 0 0),(4,.pv 1 0)]] [.var [Sl 2,Sl 3],.var [Sl 4,Sl 5],Ro x1,Roo x2,Rw x3,Rww x4]
def aX.L1(k j:Nat)(x0 x1 x2 x3:Int)(x4:LJ)(x5:Int)(x6:LI)(x7:LJ)(x8:LI)(x9:LJ):Option (((LI)×(LJ))×Bool):=LL k 52 (cC (cC (cB (cA Hk)))) j (bm 0 (JK k 52 (cB Hk) (j6 (ef P (mD P 52) (fun z10 z11=>St.force (St.put z11 (Go.Oper.dst (oW (Code.ops FW) 3)) (nx z10)) ((fun z12 z13=>fN (Code.ops FW) 3 (oW (Code.ops FW) 3) z13 ((fun z14 z15=>dR P cfg (jH P cfg ext (k+1)) Option.none (Code.ops FW) [4,5,6] (trN 4) z15 (fun z16 z17=>JK (k+1) 11 (cB (cT (cB (cA Hb)))) (R0 11) .normal z17)) z12)) (Touch.mk [] [] [] Bool.true))))))) [frm 42 [(0,Sl 0),(3,.pv 1 0),(8,Sl 0),(9,In x0),(10,In x1)],frm 26 [(1,In x2),(2,.pv 2 0),(4,.pv 3 0),(21,.agg [Sl 4,Sl 5]),(22,Sl 0),(23,In x3)]] [Rww x4,.var [In x5],.var [Sl 4,Sl 5],.var [Sl 6,Sl 7],Ro x6,Roo x7,Rw x8,Rww x9]
theorem aX.eq(k:Nat)(a0 a1):aX (k+2) a0 a1=B (dn (k+1) (a0.1,a0.2)) fun r0=>T (D.no r0) (some ((([]:LI),([]:LJ)),false)) (B (cw (k+1) a1 1 9) fun r1=>T (D.no r1) (some ((([]:LI),([]:LJ)),false)) (B (bB (k+1) (a0.1,a0.2)) fun r2=>T (D.eq (O (N r2)) 9) (some ((([]:LI),([]:LJ)),false)) (aX.J0 k a1 a0.1 a0.2 ([]:LI) ([]:LJ)))):=by kernel_rfl
theorem aX.fG(k:Nat)(x0 x1 x2 x3 x4):aX.J0 k x0 x1 x2 x3 x4=B (aL (k+1) (x1,x2)) fun r3=>aX.L1 k k (O (N r3)) 0 x0 x0 r3 x0 x1 x2 x3 x4:=(jn _ _).trans (by kernel_rfl)
theorem aX.ep(k j:Nat)(x0 x1 x2 x3 x4 x5 x6 x7 x8 x9):aX.L1 k (j+1) x0 x1 x2 x3 x4 x5 x6 x7 x8 x9=T (D.lt x1 x0) (T (D.le 0 x1) (T (U (V x1) (N x4)) (T (U (V x1) (N x4)) (T (U (V x1) (N x4)) (B (aj k x5 (E x4 (V x1) [])) fun r4=>T (D.lt r4.1 0) (T (U (V x1) (N x4)) (T (D.leN (N (D.app (E x4 (V x1) []) (r4.2::([]:LI)))) 1099511627776) (T (D.le 0 x1) (T (U (V x1) (N x4)) (T (U (V x1) (N x4)) (T (D.eqP (((V x1),0)::([]:List (Nat×Nat))) (((V x1),0)::([]:List (Nat×Nat)))) (B (dH (k+1) (D.set x4 (V x1) (D.app (E x4 (V x1) []) (r4.2::([]:LI))))) fun r5=>some ((r5.1,r5.2),true)) none) none) none) none) none) none) (T (U (V x1) (N x4)) (T (D.le 0 r4.1) (T (U (V r4.1) (N (E x4 (V x1) []))) (T (U (V x1) (N x4)) (T (U (V r4.1) (N (E x4 (V x1) []))) (T (U (V x1) (N x4)) (T (D.le 0 r4.1) (T (U (V r4.1) (N (E x4 (V x1) []))) (T (U (V x1) (N x4)) (T (U (V r4.1) (N (E x4 (V x1) []))) (aX.L1 k j x0 (Z .i64 (A x1 1)) x2 x3 (D.set x4 (V x1) (D.set (E x4 (V x1) []) (V r4.1) r4.2)) (E (E x4 (V x1) []) (V r4.1) 0) x6 x7 x8 x9) none) none) none) none) none) none) none) none) none) none)) none) none) none) none) (T (D.leN (N (D.app x4 ((x5::([]:LI))::([]:LJ)))) 1099511627776) (B (dH (k+1) (D.app x4 ((x5::([]:LI))::([]:LJ)))) fun r6=>some ((r6.1,r6.2),true)) none):=(jn _ _).trans (by kernel_rfl)
def dq(k:Nat)(a0:(LI)×(LJ)):Option Bool:=call k 61 a0
theorem dq.eq(k:Nat)(a0):dq (k+1) a0=B (aB k (a0.1,a0.2)) fun r0=>T r0 (some (D.eq (O (N a0.1)) 0)) (some false):=by kernel_rfl
def HO:Code:=cB (cB (bT P 63))
def cn(k:Nat)(a0:(LI)×(LJ)):Option LI:=call k 63 a0
def cn.L0(k j:Nat)(x0:Int)(x1 x2:LI)(x3:LJ):Option LI:=LL k 63 (cC (cC (cB (cA HO)))) j (bm 0 (JK k 63 (cB HO) (R0 63))) [frm 21 [(1,.pv 0 0),(3,Sl 1),(4,In x0)]] [.var [Sl 2,Sl 3],Rw x1,Ro x2,Roo x3]
theorem cn.eq(k:Nat)(a0):cn (k+1) a0=cn.L0 k k 0 ([]:LI) a0.1 a0.2:=by kernel_rfl
theorem cn.bo(k j:Nat)(x0 x1 x2 x3):cn.L0 k (j+1) x0 x1 x2 x3=T (D.lt x0 (O (N x3))) (T (D.le 0 x0) (T (U (V x0) (N x3)) (T (U (V x0) (N x3)) (T (U (V x0) (N x3)) (T (D.leN (N (D.app x1 (E x3 (V x0) []))) 1099511627776) (cn.L0 k j (Z .i64 (A x0 1)) (D.app x1 (E x3 (V x0) [])) x2 x3) none) none) none) none) none) (some x1):=(jn _ _).trans (by kernel_rfl)
def ch(k:Nat)(a0:(LI)×(LJ))(a1:Int):Option (((LI)×(LJ))×Bool):=call k 12 (a0,a1)
def ch.J0(k:Nat)(x0:Int)(x1:LI)(x2:LJ)(x3:LI)(x4:LJ):Option (((LI)×(LJ))×Bool):=JJ k 12 (cB (cB (bT P 12))) (R0 12) [frm 24 [(1,In x0),(2,.pv 0 0),(4,.pv 1 0)]] [.var [Sl 2,Sl 3],.var [Sl 4,Sl 5],Ro x1,Roo x2,Rw x3,Rww x4]
theorem ch.eq(k:Nat)(a0 a1):ch (k+1) a0 a1=B (dq k (a0.1,a0.2)) fun r0=>T (D.no r0) (some ((([]:LI),([]:LJ)),false)) (B (fW k a1 1 9) fun r1=>T (D.no r1) (some ((([]:LI),([]:LJ)),false)) (B (cn k (a0.1,a0.2)) fun r2=>T (D.le 9 (O (N r2))) (some ((([]:LI),([]:LJ)),false)) (ch.J0 k a1 a0.1 a0.2 ([]:LI) ([]:LJ)))):=by kernel_rfl
theorem ch.fG(k:Nat)(x0 x1 x2 x3 x4):ch.J0 k x0 x1 x2 x3 x4=B (aG k (x1,x2) x0) fun r3=>some ((r3.1,r3.2),true):=(jn _ _).trans (by kernel_rfl)
def Hg:Code:=cB (cB (bT P 49))
def G9:Code:=cC (cC (cB (cA Hg)))
def Hm:Code:=cB Hg
def Ib:Code:=cB (bT P 64)
def FU:Code:=cA Ib
def H9:Code:=cB Ib
def H4(k:Nat):cy (den (resTy P 64)):=j6 (ef P (mD P 49) (fun z6 z7=>St.force (St.put z7 (Go.Oper.dst (oW (Code.ops FU) 1)) (nx z6)) ((fun z8 z9=>fN (Code.ops FU) 1 (oW (Code.ops FU) 1) z9 ((fun z10 z11=>dR P cfg (jH P cfg ext (k+1)) Option.none (Code.ops FU) [2] (trN 2) z11 (fun z12 z13=>JK (k+1) 64 H9 (R0 64) .normal z13)) z8)) (Touch.mk [] [] [] Bool.true))))
def Ho(k:Nat):cy (den (resTy P 64)):=bm 0 (JK k 49 Hm (H4 k))
def bu(k:Nat)(a0:LI):Option (((LI)×(LJ))×((LI)×(LJ))):=call k 64 a0
def bu.L0(k j:Nat)(x0 x1:Int)(x2 x3:LI)(x4:LJ)(x5:LI)(x6:LJ):Option (((LI)×(LJ))×((LI)×(LJ))):=LL k 49 G9 j (Ho k) [frm 32 [(0,Sl 0),(3,In x0),(4,In x1)],frm 19 [(0,Sl 0),(1,.tup []),(2,.pv 1 0),(3,.pv 2 0),(4,.tup []),(5,.tup []),(6,.tup []),(7,Sl 0),(8,.tup []),(9,.tup []),(10,.tup []),(11,.tup []),(12,.tup []),(13,.tup []),(14,.tup []),(15,.tup []),(16,.tup []),(17,.tup []),(18,.tup [])]] [.row Bool.false (.int .u8) x2,.var [Sl 3,Sl 4],.var [Sl 5,Sl 6],Rw x3,Rww x4,Rw x5,Rww x6]
def bu.J1(k k1:Nat)(x0 x1:Int)(x2 x3:LI)(x4:LJ)(x5:LI)(x6:LJ):Option (((LI)×(LJ))×((LI)×(LJ))):=JJ k 49 (cB G9) (LK k 49 G9 k1 (Ho k)) [frm 32 [(0,Sl 0),(3,In x0),(4,In x1)],frm 19 [(0,Sl 0),(1,.tup []),(2,.pv 1 0),(3,.pv 2 0),(4,.tup []),(5,.tup []),(6,.tup []),(7,Sl 0),(8,.tup []),(9,.tup []),(10,.tup []),(11,.tup []),(12,.tup []),(13,.tup []),(14,.tup []),(15,.tup []),(16,.tup []),(17,.tup []),(18,.tup [])]] [.row Bool.false (.int .u8) x2,.var [Sl 3,Sl 4],.var [Sl 5,Sl 6],Rw x3,Rww x4,Rw x5,Rww x6]
def bu.J2(k:Nat)(x0:Int)(x1 x2:LI)(x3:LJ)(x4:LI)(x5:LJ):Option (((LI)×(LJ))×((LI)×(LJ))):=JJ k 49 Hm (H4 k) [frm 32 [(0,Sl 0),(3,In x0)],frm 19 [(0,Sl 0),(1,.tup []),(2,.pv 1 0),(3,.pv 2 0),(4,.tup []),(5,.tup []),(6,.tup []),(7,Sl 0),(8,.tup []),(9,.tup []),(10,.tup []),(11,.tup []),(12,.tup []),(13,.tup []),(14,.tup []),(15,.tup []),(16,.tup []),(17,.tup []),(18,.tup [])]] [.row Bool.false (.int .u8) x1,.var [Sl 3,Sl 4],.var [Sl 5,Sl 6],Rw x2,Rww x3,Rw x4,Rww x5]
def bu.J3(k:Nat)(x0:LI)(x1:LJ)(x2:LI)(x3:LJ)(x4:LI)(x5:LJ)(x6:LI)(x7:LJ):Option (((LI)×(LJ))×((LI)×(LJ))):=JJ (k+1) 64 (cB (cB (cB H9))) (R0 64) [frm 19 [(2,.pv 0 0),(3,.pv 1 0),(5,.pv 2 0),(6,.pv 3 0)]] [.var [Sl 4,Sl 5],.var [Sl 6,Sl 7],.var [Sl 8,Sl 9],.var [Sl 10,Sl 11],Rw x0,Rww x1,Rw x2,Rww x3,Rw x4,Rww x5,Rw x6,Rww x7]
theorem bu.eq(k:Nat)(a0):bu (k+2) a0=bu.L0 k k (Z .i64 (A 26583 (O (N a0)))) 0 a0 ([]:LI) ([]:LJ) ([]:LI) ([]:LJ):=by kernel_rfl
theorem bu.bo(k j:Nat)(x0 x1 x2 x3 x4 x5 x6):bu.L0 k (j+1) x0 x1 x2 x3 x4 x5 x6=T (D.lt x1 (O (N x2))) (T (D.lt x1 4000) (bu.J1 k j x0 x1 x2 x3 x4 x5 x6) (bu.J2 k x0 x2 x3 x4 x5 x6)) (bu.J2 k x0 x2 x3 x4 x5 x6):=(jn _ _).trans (by kernel_rfl)
theorem bu.eV(k k1:Nat)(x0 x1 x2 x3 x4 x5 x6):bu.J1 k k1 x0 x1 x2 x3 x4 x5 x6=T (D.le 0 x1) (T (U (V x1) (N x2)) (T (U (V x1) (N x2)) (bu.L0 k k1 (D.andI .i64 (Z .i64 (A (Z .i64 (A (Z .i64 (D.mul x0 131)) (Z .i64 (E x2 (V x1) 0)))) 7)) 1073741823) (Z .i64 (A x1 1)) x2 x3 x4 x5 x6) none) none) none:=(jn _ _).trans (by kernel_rfl)
theorem bu.iJ(k:Nat)(x0 x1 x2 x3 x4 x5):bu.J2 k x0 x1 x2 x3 x4 x5=B (cz (k+1) 4 0 x0 x1) fun r0=>B (cz (k+1) 4 r0.2.2.1 r0.2.2.2 x1) fun r1=>B (cg (k+1) 10 r1.2.2.1 r1.2.2.2 x1) fun r2=>T r2.1 (B (dB (k+1) 7 r2.2.2.1 r2.2.2.2 x1) fun r3=>bu.J3 k x2 x3 x4 x5 r0.1.1 r0.1.2 r3.1.1 r3.1.2) (bu.J3 k x2 x3 x4 x5 r0.1.1 r0.1.2 r1.1.1 r1.1.2):=(jn _ _).trans (by kernel_rfl)
theorem bu.ky(k:Nat)(x0 x1 x2 x3 x4 x5 x6 x7):bu.J3 k x0 x1 x2 x3 x4 x5 x6 x7=some ((x4,x5),(x6,x7)):=(jn _ _).trans (by kernel_rfl)
def cF(k:Nat)(a0:LI):Option (((LI)×(LJ))×((LI)×(LJ))):=call k 13 a0
theorem cF.eq(k:Nat)(a0):cF (k+2) a0=B (bu (k+1) a0) fun r0=>some ((r0.1.1,r0.1.2),(r0.2.1,r0.2.2)):=by kernel_rfl
def IC:Code:=cB (cB (bT P 65))
def GX:Code:=cC (cC (cB (cA IC)))
def GA:Code:=cB IC
def Iy(k:Nat):cy (den (resTy P 65)):=bm 0 (JK (k+1) 65 GA (R0 65))
def FI:Code:=cA GA
def GI:Code:=cB GA
def HL:Code:=cC (cC (cB (cA GI)))
def ID(k:Nat):cy (den (resTy P 65)):=bm 2 (JK (k+1) 65 (cB GI) (R0 65))
def ah(k:Nat)(a0:LJ):Option LI:=call k 65 a0
def ah.L0(k j:Nat)(x0 x1 x2:Int)(x3:LJ):Option LI:=LL (k+1) 65 GX j (Iy k) [frm 36 [(0,Sl 0),(3,In x0),(9,Sl 0),(10,In x1),(11,In x2)]] [Roo x3]
def ah.J1(k k1:Nat)(x0 x1 x2:Int)(x3:LJ):Option LI:=JJ (k+1) 65 (cB (cB (cB GX))) (LK (k+1) 65 GX k1 (Iy k)) [frm 36 [(0,Sl 0),(3,In x0),(9,Sl 0),(10,In x1),(11,In x2)]] [Roo x3]
def ah.J2(k:Nat)(x0 x1 x2 x3:Int)(x4:Bool)(x5:Int)(x6:LJ):Option LI:=JJ k 123 (cB (cB (bT P 123))) (j6 (ef P (mD P 123) (fun z1 z2=>St.force (St.put z2 (Go.Oper.dst (oW (Code.ops FI) 1)) (nx z1)) ((fun z3 z4=>fN (Code.ops FI) 1 (oW (Code.ops FI) 1) z4 ((fun z5 z6=>dR P cfg (jH P cfg ext (k+1)) Option.none (Code.ops FI) [2] (trN 2) z6 (fun z7 z8=>JK (k+1) 65 GI (R0 65) .normal z8)) z3)) (Touch.mk [] [] [] Bool.true))))) [frm 27 [(0,.nilS),(1,In x0)],frm 36 [(0,Sl 0),(3,In x1),(9,Sl 0),(10,In x2),(11,In x3),(12,.bool x4),(23,In x5)]] [Roo x6]
def ah.L3(k j x0 x1:Nat)(x2 x3:Int)(x4:LI)(x5:LJ):Option LI:=LL (k+1) 65 HL j (ID k) [frm 36 [(6,.sl 0 [] (Option.some (x0,x1))),(25,Sl 1),(26,In x2),(27,In x3)]] [Rw x4,Roo x5]
def ah.L4(k j:Nat)(x0 x1:Int)(x2:LI)(x3:LJ):Option LI:=LL (k+1) 65 HL j (ID k) [frm 36 [(6,Sl 0),(25,Sl 1),(26,In x0),(27,In x1)]] [Rw x2,Roo x3]
theorem ah.eq(k:Nat)(a0):ah (k+2) a0=ah.L0 k (k+1) 0 (O (N a0)) 0 a0:=by kernel_rfl
theorem ah.bo(k j:Nat)(x0 x1 x2 x3):ah.L0 k (j+1) x0 x1 x2 x3=T (D.lt x2 x1) (T (D.le 0 x2) (T (U (V x2) (N x3)) (T (U (V x2) (N x3)) (T (U (V x2) (N x3)) (T (D.lt (Z .i64 (A x0 (O (N (E x3 (V x2) []))))) 0) none (ah.J1 k j (Z .i64 (A x0 (O (N (E x3 (V x2) []))))) x1 x2 x3)) none) none) none) none) (T (D.lt x0 0) none (ah.J2 k x0 x0 x1 x2 (D.lt x2 x1) x0 x3)):=(jn _ _).trans (by kernel_rfl)
theorem ah.eV(k k1:Nat)(x0 x1 x2 x3):ah.J1 k k1 x0 x1 x2 x3=ah.L0 k k1 x0 x1 (Z .i64 (A x2 1)) x3:=(jn _ _).trans (by kernel_rfl)
theorem ah.iJ(k:Nat)(x0 x1 x2 x3 x4 x5 x6):ah.J2 k x0 x1 x2 x3 x4 x5 x6=T (D.lt 0 (Z .i64 (M x0 (Z .i64 (M 0 0))))) (T (D.le 0 0) (T (D.leN (V 0) 0) (T (D.le 1 (Z .i64 (M x0 (Z .i64 (M 0 0))))) (T (D.leN (V (Z .i64 (M x0 (Z .i64 (M 0 0))))) 1099511627776) (T (D.le 0 0) (T (D.leN (V 0) (N (D.rep (V (Z .i64 (M x0 (Z .i64 (M 0 0))))) (0:Int)))) (ah.L3 k (k+1) 0 (D.subN (V 0) 0) (O (N x6)) 0 (D.rep (V (Z .i64 (M x0 (Z .i64 (M 0 0))))) (0:Int)) x6) none) none) none) none) none) none) (ah.L4 k (k+1) (O (N x6)) 0 ([]:LI) x6):=(jn _ _).trans (by kernel_rfl)
theorem ah.Im(k j:Nat)(x0 x1 x2 x3 x4 x5):ah.L3 k (j+1) x0 x1 x2 x3 x4 x5=T (D.lt x3 x2) (T (D.le 0 x3) (T (U (V x3) (N x5)) (T (U (V x3) (N x5)) (T (U (V x3) (N x5)) (T (D.leN (N (D.app (D.take x1 (D.drop x0 x4)) (E x5 (V x3) []))) 1099511627776) (ah.L4 k j x2 (Z .i64 (A x3 1)) (D.app (D.take x1 (D.drop x0 x4)) (E x5 (V x3) [])) x5) none) none) none) none) none) (some (D.take x1 (D.drop x0 x4))):=(jn _ _).trans (by kernel_rfl)
theorem ah.uw(k j:Nat)(x0 x1 x2 x3):ah.L4 k (j+1) x0 x1 x2 x3=T (D.lt x1 x0) (T (D.le 0 x1) (T (U (V x1) (N x3)) (T (U (V x1) (N x3)) (T (U (V x1) (N x3)) (T (D.leN (N (D.app x2 (E x3 (V x1) []))) 1099511627776) (ah.L4 k j x0 (Z .i64 (A x1 1)) (D.app x2 (E x3 (V x1) [])) x3) none) none) none) none) none) (some x2):=(jn _ _).trans (by kernel_rfl)
def Ic:Code:=cB (cB (bT P 73))
def dV(k:Nat)(a0:Int):Option LI:=call k 73 a0
def dV.L0(k j:Nat)(x0 x1:Int)(x2:LI):Option LI:=LL k 73 (cC (cC (cB (cA Ic)))) j (bm 0 (JK k 73 (cB Ic) (R0 73))) [frm 17 [(3,Sl 0),(6,In x0),(7,In x1)]] [Rw x2]
theorem dV.eq(k:Nat)(a0):dV (k+1) a0=dV.L0 k k a0 0 ([]:LI):=by kernel_rfl
theorem dV.bo(k j:Nat)(x0 x1 x2):dV.L0 k (j+1) x0 x1 x2=T (D.lt x1 x0) (T (D.leN (N (D.app x2 ((Z .i64 (A x1 1))::([]:LI)))) 1099511627776) (dV.L0 k j x0 (Z .i64 (A x1 1)) (D.app x2 ((Z .i64 (A x1 1))::([]:LI)))) none) (some x2):=(jn _ _).trans (by kernel_rfl)
def cM(k:Nat)(x0 x1:Int):Option (Bool×Int):=IO_ k 147 1 0 1 [.var [In 0]] [[In x0,.pv 0 0],[.pv 0 0]] [.var [In x1]]
theorem cM.eq(k:Nat)(x0 x1):cM (k+1) x0 x1=some ((D.lt x1 x0),x1):=by kernel_rfl
def HE:Code:=cB (bT P 119)
def ak(k:Nat)(x0:Int)(x1:LI):Option (Int×Int):=IO_ k 119 1 0 1 [.var [In 0],Ro []] [[Sl 1,.fn 147 [] [.pv 0 0]],[.pv 0 0,Sl 1]] [.var [In x0],Ro x1]
def ak.L0(k j:Nat)(x0 x1:Int)(x2:LI)(x3:Int):Option (Int×Int):=LL k 119 (cC (cC (cB (cA HE)))) j (bm 0 (JK k 119 (cB HE) (j6 (ef P (mD P 119) (fun z6 z7=>nc P 119 1 0 1 [.var [In 0],Ro []] z6 z7))))) [frm 19 [(0,Sl 0),(1,.fn 147 [] [.pv 1 0]),(7,In x0),(8,In x1)],[.pv 1 0,Sl 0]] [Ro x2,.var [In x3]]
theorem ak.eq(k:Nat)(x0 x1):ak (k+1) x0 x1=ak.L0 k k (O (N x1)) 0 x1 x0:=by kernel_rfl
theorem ak.bo(k j:Nat)(x0 x1 x2 x3):ak.L0 k (j+1) x0 x1 x2 x3=T (D.lt x1 x0) (T (D.le 0 x1) (T (U (V x1) (N x2)) (T (U (V x1) (N x2)) (B (cM k (E x2 (V x1) 0) x3) fun r0=>T r0.1 (some (x1,r0.2)) (ak.L0 k j x0 (Z .i64 (A x1 1)) x2 r0.2)) none) none) none) (some ((-1:Int),x3)):=(jn _ _).trans (by kernel_rfl)
def HW:Code:=cB (bT P 99)
def a7(k:Nat)(x0:Int)(x1:LI)(x2:LJ):Option (Int×((LI)×(LJ))):=IO_ k 99 1 0 3 [.var [Sl 1,Sl 2],Rw [],Rww []] [[.pv 0 0,In x0],[.pv 0 0,.undef,.undef]] [.var [Sl 1,Sl 2],Rw x1,Rww x2]
def a7.L0(k j:Nat)(x0 x1 x2:Int)(x3:LJ)(x4:LI):Option (Int×((LI)×(LJ))):=LL k 99 (cC (cC (cB (cA HW)))) j (bm 0 (JK k 99 (cB HW) (j6 (ef P (mD P 99) (fun z6 z7=>nc P 99 1 0 3 [.var [Sl 1,Sl 2],Rw [],Rww []] z6 z7))))) [frm 60 [(0,.pv 0 0),(3,.pv 1 0),(11,Sl 2),(12,In x0),(13,In x1)],[.pv 0 0,.undef,.undef]] [.var [Sl 3,Sl 2],.var [In x2],Rww x3,Rw x4]
theorem a7.eq(k:Nat)(x0 x1 x2):a7 (k+1) x0 x1 x2=a7.L0 k k (O (N x2)) 0 x0 x2 x1:=by kernel_rfl
theorem a7.bo(k j:Nat)(x0 x1 x2 x3 x4):a7.L0 k (j+1) x0 x1 x2 x3 x4=T (D.lt x1 x0) (T (D.le 0 x1) (T (U (V x1) (N x3)) (T (U (V x1) (N x3)) (T (U (V x1) (N x3)) (B (ak k x2 (E x3 (V x1) [])) fun r0=>T (D.lt r0.1 0) (T (U (V x1) (N x3)) (T (D.leN (N (D.app (E x3 (V x1) []) (r0.2::([]:LI)))) 1099511627776) (T (D.le 0 x1) (T (U (V x1) (N x3)) (T (U (V x1) (N x3)) (T (D.eqP (((V x1),0)::([]:List (Nat×Nat))) (((V x1),0)::([]:List (Nat×Nat)))) (some (x1,(x4,(D.set x3 (V x1) (D.app (E x3 (V x1) []) (r0.2::([]:LI))))))) none) none) none) none) none) none) (T (U (V x1) (N x3)) (T (D.le 0 r0.1) (T (U (V r0.1) (N (E x3 (V x1) []))) (T (U (V x1) (N x3)) (T (U (V r0.1) (N (E x3 (V x1) []))) (T (U (V x1) (N x3)) (T (D.le 0 r0.1) (T (U (V r0.1) (N (E x3 (V x1) []))) (T (U (V x1) (N x3)) (T (U (V r0.1) (N (E x3 (V x1) []))) (a7.L0 k j x0 (Z .i64 (A x1 1)) (E (E x3 (V x1) []) (V r0.1) 0) (D.set x3 (V x1) (D.set (E x3 (V x1) []) (V r0.1) r0.2)) x4) none) none) none) none) none) none) none) none) none) none)) none) none) none) none) (T (D.leN (N (D.app x3 ((x2::([]:LI))::([]:LJ)))) 1099511627776) (some ((Z .i64 (M (O (N (D.app x3 ((x2::([]:LI))::([]:LJ))))) 1)),(x4,(D.app x3 ((x2::([]:LI))::([]:LJ)))))) none):=(jn _ _).trans (by kernel_rfl)
def HX:Code:=cB (cB (bT P 72))
def Gt:Code:=cC (cC (cB (cA HX)))
def Hi(k:Nat):cy (den (resTy P 72)):=bm 0 (JK k 72 (cB HX) (R0 72))
def HS:Code:=cB (cB Gt)
def aP(k:Nat)(a0 a1:LI):Option (((LI)×(LJ))×((LI)×(LJ))):=call k 72 (a0,a1)
def aP.L0(k j:Nat)(x0 x1:Int)(x2 x3 x4:LI)(x5:LJ)(x6:LI)(x7:LJ)(x8:LI)(x9:LJ)(x10:LI)(x11:LJ):Option (((LI)×(LJ))×((LI)×(LJ))):=LL k 72 Gt j (Hi k) [frm 50 [(1,Sl 0),(4,.pv 1 0),(5,.pv 2 0),(6,.pv 3 0),(7,.pv 4 0),(13,Sl 5),(14,In x0),(15,In x1)]] [Ro x2,.var [Sl 6,Sl 7],.var [Sl 8,Sl 9],.var [Sl 10,Sl 11],.var [Sl 12,Sl 13],Ro x3,Rw x4,Rww x5,Rw x6,Rww x7,Rw x8,Rww x9,Rw x10,Rww x11]
def aP.J1(k k1:Nat)(x0 x1 x2 x3:Int)(x4 x5 x6:LI)(x7:LJ)(x8:LI)(x9:LJ)(x10:LI)(x11:LJ)(x12:LI)(x13:LJ):Option (((LI)×(LJ))×((LI)×(LJ))):=JJ k 72 (cB (cB (cB (cC (cA HS))))) (bm 1 (JK k 72 (cB HS) (LK k 72 Gt k1 (Hi k)))) [frm 50 [(1,Sl 0),(4,.pv 1 0),(5,.pv 2 0),(6,.pv 3 0),(7,.pv 4 0),(8,In x0),(10,In x1),(13,Sl 5),(14,In x2),(15,In x3)]] [Ro x4,.var [Sl 6,Sl 7],.var [Sl 8,Sl 9],.var [Sl 10,Sl 11],.var [Sl 12,Sl 13],Ro x5,Rw x6,Rww x7,Rw x8,Rww x9,Rw x10,Rww x11,Rw x12,Rww x13]
theorem aP.eq(k:Nat)(a0 a1):aP (k+1) a0 a1=aP.L0 k k (O (N a0)) 0 a1 a0 ([]:LI) ([]:LJ) ([]:LI) ([]:LJ) ([]:LI) ([]:LJ) ([]:LI) ([]:LJ):=by kernel_rfl
theorem aP.bo(k j:Nat)(x0 x1 x2 x3 x4 x5 x6 x7 x8 x9 x10 x11):aP.L0 k (j+1) x0 x1 x2 x3 x4 x5 x6 x7 x8 x9 x10 x11=T (D.lt x1 x0) (T (D.le 0 x1) (T (U (V x1) (N x3)) (T (U (V x1) (N x3)) (B (a7 k (E x3 (V x1) 0) x8 x9) fun r0=>T (D.eq r0.1 (O (N x11))) (T (D.leN (N (D.app x11 (([]:LI)::([]:LJ)))) 1099511627776) (aP.J1 k j x1 r0.1 x0 x1 x2 x3 x4 x5 x6 x7 r0.2.1 r0.2.2 x10 (D.app x11 (([]:LI)::([]:LJ)))) none) (aP.J1 k j x1 r0.1 x0 x1 x2 x3 x4 x5 x6 x7 r0.2.1 r0.2.2 x10 x11)) none) none) none) (some ((x8,x9),(x10,x11))):=(jn _ _).trans (by kernel_rfl)
theorem aP.eV(k k1:Nat)(x0 x1 x2 x3 x4 x5 x6 x7 x8 x9 x10 x11 x12 x13):aP.J1 k k1 x0 x1 x2 x3 x4 x5 x6 x7 x8 x9 x10 x11 x12 x13=T (D.le 0 x1) (T (U (V x1) (N x13)) (T (U (V x1) (N x13)) (T (D.le 0 x0) (T (U (V x0) (N x4)) (T (U (V x0) (N x4)) (T (U (V x1) (N x13)) (T (D.leN (N (D.app (E x13 (V x1) []) ((E x4 (V x0) 0)::([]:LI)))) 1099511627776) (T (D.le 0 x1) (T (U (V x1) (N x13)) (T (U (V x1) (N x13)) (T (D.eqP (((V x1),0)::([]:List (Nat×Nat))) (((V x1),0)::([]:List (Nat×Nat)))) (aP.L0 k k1 x2 (Z .i64 (A x3 1)) x4 x5 x6 x7 x8 x9 x10 x11 x12 (D.set x13 (V x1) (D.app (E x13 (V x1) []) ((E x4 (V x0) 0)::([]:LI))))) none) none) none) none) none) none) none) none) none) none) none) none:=(jn _ _).trans (by kernel_rfl)
def dY(k:Nat)(a0:LI):Option (((LI)×(LJ))×Bool):=call k 19 a0
theorem dY.eq(k:Nat)(a0):dY (k+1) a0=B (gJ k a0) fun r0=>T (D.no r0) (some ((([]:LI),([]:LJ)),false)) (B (dV k (O (N a0))) fun r1=>B (aP k a0 r1) fun r2=>some ((r2.1.1,r2.1.2),true)):=by kernel_rfl
def bW(k:Nat)(a0 a1:(LI)×(LJ)):Option (((LI)×(LJ))×Bool):=call k 14 (a0,a1)
def bW.J0(k:Nat)(x0:LI)(x1:LJ)(x2:LI)(x3:LJ)(x4:LI)(x5:LJ):Option (((LI)×(LJ))×Bool):=JJ k 14 (cB (cB (bT P 14))) (R0 14) [frm 24 [(2,.pv 0 0),(3,.pv 1 0),(4,.pv 2 0)]] [.var [Sl 3,Sl 4],.var [Sl 5,Sl 6],.var [Sl 7,Sl 8],Ro x0,Roo x1,Ro x2,Roo x3,Rw x4,Rww x5]
theorem bW.eq(k:Nat)(a0 a1):bW (k+1) a0 a1=B (dn k (a0.1,a0.2)) fun r0=>T (D.no r0) (some ((([]:LI),([]:LJ)),false)) (B (dn k (a1.1,a1.2)) fun r1=>T (D.no r1) (some ((([]:LI),([]:LJ)),false)) (bW.J0 k a0.1 a0.2 a1.1 a1.2 ([]:LI) ([]:LJ))):=by kernel_rfl
theorem bW.fG(k:Nat)(x0 x1 x2 x3 x4 x5):bW.J0 k x0 x1 x2 x3 x4 x5=B (bB k (x0,x1)) fun r2=>B (bB k (x2,x3)) fun r3=>B (ah k (r2::(r3::([]:LJ)))) fun r4=>B (dY k r4) fun r5=>some ((r5.1.1,r5.1.2),r5.2):=(jn _ _).trans (by kernel_rfl)
def H0:Code:=cB (cB (bT P 45))
def GN:Code:=cC (cC (cB (cA H0)))
def Hc(k:Nat):cy (den (resTy P 45)):=bm 0 (JK k 45 (cB H0) (R0 45))
def a9(k:Nat)(a0:(LI)×(LJ)):Option LI:=call k 45 a0
def a9.L0(k j:Nat)(x0:Int)(x1 x2:LI)(x3:LJ):Option LI:=LL k 45 GN j (Hc k) [frm 26 [(1,.pv 0 0),(3,Sl 1),(4,In x0)]] [.var [Sl 2,Sl 3],Rw x1,Ro x2,Roo x3]
def a9.J1(k k1:Nat)(x0:Int)(x1 x2:LI)(x3:LJ):Option LI:=JJ k 45 (cB GN) (LK k 45 GN k1 (Hc k)) [frm 26 [(1,.pv 0 0),(3,Sl 1),(4,In x0)]] [.var [Sl 2,Sl 3],Rw x1,Ro x2,Roo x3]
theorem a9.eq(k:Nat)(a0):a9 (k+1) a0=a9.L0 k k (Z .i64 (M (O (N a0.2)) 1)) ([]:LI) a0.1 a0.2:=by kernel_rfl
theorem a9.bo(k j:Nat)(x0 x1 x2 x3):a9.L0 k (j+1) x0 x1 x2 x3=T (D.le 0 x0) (B (aB k (x2,x3)) fun r0=>T r0 (a9.J1 k j x0 x1 x2 x3) (some x1)) (some x1):=(jn _ _).trans (by kernel_rfl)
theorem a9.eV(k k1:Nat)(x0 x1 x2 x3):a9.J1 k k1 x0 x1 x2 x3=T (D.le 0 x0) (T (U (V x0) (N x3)) (T (U (V x0) (N x3)) (T (U (V x0) (N x3)) (T (D.leN (N (D.app x1 (E x3 (V x0) []))) 1099511627776) (a9.L0 k k1 (Z .i64 (M x0 1)) (D.app x1 (E x3 (V x0) [])) x2 x3) none) none) none) none) none:=(jn _ _).trans (by kernel_rfl)
def IA:Code:=cB (cB (bT P 156))
def G6:Code:=cC (cC (cB (cA IA)))
def Ia(k:Nat):cy (den (resTy P 156)):=bm 0 (JK k 156 (cB IA) (R0 156))
def Is:Code:=cB G6
def H3:Code:=cB (cC (cA Is))
def G8:Code:=cC (cC (cA H3))
def Hn:Code:=cB H3
def HK(k k1:Nat):cy (den (resTy P 156)):=bm 1 (JK k 156 (cB Is) (LK k 156 G6 k1 (Ia k)))
def It(k k1:Nat):cy (den (resTy P 156)):=bm 2 (JK k 156 Hn (HK k k1))
def aS(k:Nat)(a0:(LI)×(LJ))(a1:Int):Option (((LI)×(LJ))×Int):=call k 156 (a0,a1)
def aS.L0(k j:Nat)(x0 x1:Int)(x2:LI)(x3:LJ)(x4:LI)(x5:LJ):Option (((LI)×(LJ))×Int):=LL k 156 G6 j (Ia k) [frm 92 [(1,In x0),(4,.pv 0 0),(6,.pv 1 0),(7,In x1)]] [.var [Sl 2,Sl 3],.var [Sl 4,Sl 5],Rw x2,Rww x3,Rw x4,Rww x5]
def aS.L1(k k1 j:Nat)(x0 x1 x2:Int)(x3:LI)(x4:LJ)(x5:LI)(x6:LJ):Option (((LI)×(LJ))×Int):=LL k 156 G8 j (It k k1) [frm 92 [(1,In x0),(4,.pv 0 0),(6,.pv 1 0),(7,In x1),(8,In x2)]] [.var [Sl 2,Sl 3],.var [Sl 4,Sl 5],Rw x3,Rww x4,Rw x5,Rww x6]
def aS.J2(k k1 k2:Nat)(x0 x1 x2:Int)(x3:LI)(x4:LJ)(x5:LI)(x6:LJ):Option (((LI)×(LJ))×Int):=JJ k 156 (cB G8) (LK k 156 G8 k2 (It k k1)) [frm 92 [(1,In x0),(4,.pv 0 0),(6,.pv 1 0),(7,In x1),(8,In x2)]] [.var [Sl 2,Sl 3],.var [Sl 4,Sl 5],Rw x3,Rww x4,Rw x5,Rww x6]
def aS.J3(k k1:Nat)(x0 x1 x2:Int)(x3:LI)(x4:LJ)(x5:LI)(x6:LJ):Option (((LI)×(LJ))×Int):=JJ k 156 Hn (HK k k1) [frm 92 [(1,In x0),(4,.pv 0 0),(6,.pv 1 0),(7,In x1),(8,In x2)]] [.var [Sl 2,Sl 3],.var [Sl 4,Sl 5],Rw x3,Rww x4,Rw x5,Rww x6]
theorem aS.eq(k:Nat)(a0 a1):aS (k+1) a0 a1=B (cJ k (a0.1,a0.2)) fun r0=>aS.L0 k k a1 0 ([]:LI) ([]:LJ) r0.1 r0.2:=by kernel_rfl
theorem aS.bo(k j:Nat)(x0 x1 x2 x3 x4 x5):aS.L0 k (j+1) x0 x1 x2 x3 x4 x5=T (D.lt x1 (O (N x5))) (aS.L1 k j k x0 x1 0 x2 x3 x4 x5) (T (D.leN (N (D.app x5 ((x0::([]:LI))::([]:LJ)))) 1099511627776) (some ((x4,(D.app x5 ((x0::([]:LI))::([]:LJ)))),(Z .i64 (M (O (N (D.app x5 ((x0::([]:LI))::([]:LJ))))) 1)))) none):=(jn _ _).trans (by kernel_rfl)
theorem aS.ep(k k1 j:Nat)(x0 x1 x2 x3 x4 x5 x6):aS.L1 k k1 (j+1) x0 x1 x2 x3 x4 x5 x6=T (D.le 0 x1) (T (U (V x1) (N x6)) (T (U (V x1) (N x6)) (T (U (V x1) (N x6)) (T (D.lt x2 (O (N (E x6 (V x1) [])))) (T (D.le 0 x1) (T (U (V x1) (N x6)) (T (U (V x1) (N x6)) (T (U (V x1) (N x6)) (T (D.le 0 x2) (T (U (V x2) (N (E x6 (V x1) []))) (T (U (V x1) (N x6)) (T (U (V x2) (N (E x6 (V x1) []))) (T (D.le (E (E x6 (V x1) []) (V x2) 0) x0) (aS.J2 k k1 j x0 x1 x2 x3 x4 x5 x6) (aS.J3 k k1 x0 x1 x2 x3 x4 x5 x6)) none) none) none) none) none) none) none) none) (aS.J3 k k1 x0 x1 x2 x3 x4 x5 x6)) none) none) none) none:=(jn _ _).trans (by kernel_rfl)
theorem aS.iJ(k k1 k2:Nat)(x0 x1 x2 x3 x4 x5 x6):aS.J2 k k1 k2 x0 x1 x2 x3 x4 x5 x6=aS.L1 k k1 k2 x0 x1 (Z .i64 (A x2 1)) x3 x4 x5 x6:=(jn _ _).trans (by kernel_rfl)
theorem aS.ky(k k1:Nat)(x0 x1 x2 x3 x4 x5 x6):aS.J3 k k1 x0 x1 x2 x3 x4 x5 x6=T (D.le 0 x1) (T (U (V x1) (N x6)) (T (U (V x1) (N x6)) (T (U (V x1) (N x6)) (T (D.eq x2 (O (N (E x6 (V x1) [])))) (T (D.le 0 x1) (T (U (V x1) (N x6)) (T (U (V x1) (N x6)) (T (U (V x1) (N x6)) (T (D.leN (N (D.app (E x6 (V x1) []) (x0::([]:LI)))) 1099511627776) (T (D.le 0 x1) (T (U (V x1) (N x6)) (T (U (V x1) (N x6)) (T (D.eqP (((V x1),0)::([]:List (Nat×Nat))) (((V x1),0)::([]:List (Nat×Nat)))) (some ((x5,(D.set x6 (V x1) (D.app (E x6 (V x1) []) (x0::([]:LI))))),x1)) none) none) none) none) none) none) none) none) none) (T (D.le 0 x1) (T (U (V x1) (N x6)) (T (U (V x1) (N x6)) (T (U (V x1) (N x6)) (T (D.le 0 x2) (T (U (V x2) (N (E x6 (V x1) []))) (T (U (V x1) (N x6)) (T (U (V x2) (N (E x6 (V x1) []))) (T (D.le 0 x1) (T (U (V x1) (N x6)) (T (U (V x1) (N x6)) (T (U (V x1) (N x6)) (T (D.le 0 x2) (T (U (V x2) (N (E x6 (V x1) []))) (T (U (V x1) (N x6)) (T (U (V x2) (N (E x6 (V x1) []))) (aS.L0 k k1 (E (E x6 (V x1) []) (V x2) 0) (Z .i64 (A x1 1)) x3 x4 x5 (D.set x6 (V x1) (D.set (E x6 (V x1) []) (V x2) x0))) none) none) none) none) none) none) none) none) none) none) none) none) none) none) none) none)) none) none) none) none:=(jn _ _).trans (by kernel_rfl)
def Iq:Code:=cB (cB (cB (bT P 124)))
def GH:Code:=cC (cC (cB (cA Iq)))
def HN(k:Nat):cy (den (resTy P 124)):=bm 0 (JK k 124 (cB Iq) (R0 124))
def Hy:Code:=cB GH
def bR(k:Nat)(a0:LI):Option (((LI)×(LJ))×((LI)×(LJ))):=call k 124 a0
def bR.L0(k j:Nat)(x0:Int)(x1 x2:LI)(x3:LJ)(x4:LI)(x5:LJ)(x6:LI)(x7:LJ)(x8:LI)(x9:LJ):Option (((LI)×(LJ))×((LI)×(LJ))):=LL k 124 GH j (HN k) [frm 53 [(0,Sl 0),(2,.pv 1 0),(3,.pv 2 0),(4,.pv 3 0),(5,.pv 4 0),(6,In x0)]] [Ro x1,.var [Sl 5,Sl 6],.var [Sl 7,Sl 8],.var [Sl 9,Sl 10],.var [Sl 11,Sl 12],Rw x2,Rww x3,Rw x4,Rww x5,Rw x6,Rww x7,Rw x8,Rww x9]
def bR.J1(k k1:Nat)(x0 x1:Int)(x2 x3:LI)(x4:LJ)(x5:LI)(x6:LJ)(x7:LI)(x8:LJ)(x9:LI)(x10:LJ):Option (((LI)×(LJ))×((LI)×(LJ))):=JJ k 124 (cB (cB (cB (cC (cA Hy))))) (bm 1 (JK k 124 (cB Hy) (LK k 124 GH k1 (HN k)))) [frm 53 [(0,Sl 0),(2,.pv 1 0),(3,.pv 2 0),(4,.pv 3 0),(5,.pv 4 0),(6,In x0),(8,In x1)]] [Ro x2,.var [Sl 5,Sl 6],.var [Sl 7,Sl 8],.var [Sl 9,Sl 10],.var [Sl 11,Sl 12],Rw x3,Rww x4,Rw x5,Rww x6,Rw x7,Rww x8,Rw x9,Rww x10]
theorem bR.eq(k:Nat)(a0):bR (k+1) a0=bR.L0 k k 0 a0 ([]:LI) ([]:LJ) ([]:LI) ([]:LJ) ([]:LI) ([]:LJ) ([]:LI) ([]:LJ):=by kernel_rfl
theorem bR.bo(k j:Nat)(x0 x1 x2 x3 x4 x5 x6 x7 x8 x9):bR.L0 k (j+1) x0 x1 x2 x3 x4 x5 x6 x7 x8 x9=T (D.lt x0 (O (N x1))) (T (D.le 0 x0) (T (U (V x0) (N x1)) (T (U (V x0) (N x1)) (B (aS k (x6,x7) (E x1 (V x0) 0)) fun r0=>T (D.eq r0.2 (O (N x9))) (T (D.leN (N (D.app x9 (([]:LI)::([]:LJ)))) 1099511627776) (bR.J1 k j x0 r0.2 x1 x2 x3 x4 x5 r0.1.1 r0.1.2 x8 (D.app x9 (([]:LI)::([]:LJ)))) none) (bR.J1 k j x0 r0.2 x1 x2 x3 x4 x5 r0.1.1 r0.1.2 x8 x9)) none) none) none) (some ((x6,x7),(x8,x9))):=(jn _ _).trans (by kernel_rfl)
theorem bR.eV(k k1:Nat)(x0 x1 x2 x3 x4 x5 x6 x7 x8 x9 x10):bR.J1 k k1 x0 x1 x2 x3 x4 x5 x6 x7 x8 x9 x10=T (D.le 0 x1) (T (U (V x1) (N x10)) (T (U (V x1) (N x10)) (T (U (V x1) (N x10)) (T (D.leN (N (D.app (E x10 (V x1) []) ((Z .i64 (A x0 1))::([]:LI)))) 1099511627776) (T (D.le 0 x1) (T (U (V x1) (N x10)) (T (U (V x1) (N x10)) (T (D.eqP (((V x1),0)::([]:List (Nat×Nat))) (((V x1),0)::([]:List (Nat×Nat)))) (bR.L0 k k1 (Z .i64 (A x0 1)) x2 x3 x4 x5 x6 x7 x8 x9 (D.set x10 (V x1) (D.app (E x10 (V x1) []) ((Z .i64 (A x0 1))::([]:LI))))) none) none) none) none) none) none) none) none) none:=(jn _ _).trans (by kernel_rfl)
def fL(k:Nat)(a0:LI):Option (((LI)×(LJ))×Bool):=call k 66 a0
theorem fL.eq(k:Nat)(a0):fL (k+1) a0=B (ca k a0) fun r0=>T (D.no r0) (some ((([]:LI),([]:LJ)),false)) (B (bR k a0) fun r1=>some ((r1.1.1,r1.1.2),true)):=by kernel_rfl
def bX(k:Nat)(a0 a1:(LI)×(LJ)):Option (((LI)×(LJ))×Bool):=call k 15 (a0,a1)
def bX.J0(k:Nat)(x0:LI)(x1:LJ)(x2:LI)(x3:LJ)(x4:LI)(x5:LJ):Option (((LI)×(LJ))×Bool):=JJ k 15 (cB (cB (bT P 15))) (R0 15) [frm 28 [(2,.pv 0 0),(3,.pv 1 0),(4,.pv 2 0)]] [.var [Sl 3,Sl 4],.var [Sl 5,Sl 6],.var [Sl 7,Sl 8],Ro x0,Roo x1,Ro x2,Roo x3,Rw x4,Rww x5]
theorem bX.eq(k:Nat)(a0 a1):bX (k+1) a0 a1=B (dq k (a0.1,a0.2)) fun r0=>T (D.no r0) (some ((([]:LI),([]:LJ)),false)) (B (dq k (a1.1,a1.2)) fun r1=>T (D.no r1) (some ((([]:LI),([]:LJ)),false)) (bX.J0 k a0.1 a0.2 a1.1 a1.2 ([]:LI) ([]:LJ))):=by kernel_rfl
theorem bX.fG(k:Nat)(x0 x1 x2 x3 x4 x5):bX.J0 k x0 x1 x2 x3 x4 x5=B (a9 k (x0,x1)) fun r2=>B (a9 k (x2,x3)) fun r3=>T (D.leN (N (D.app r2 r3)) 1099511627776) (B (fL k (D.app r2 r3)) fun r4=>some ((r4.1.1,r4.1.2),r4.2)) none:=(jn _ _).trans (by kernel_rfl)
def Ik:Code:=cB (cB (bT P 68))
def bz(k:Nat)(a0:(LI)×(LJ)):Option ((LI)×(LJ)):=call k 68 a0
def bz.L0(k j:Nat)(x0 x1:Int)(x2:LJ)(x3:LI)(x4:LJ)(x5:LI)(x6:LJ):Option ((LI)×(LJ)):=LL k 68 (cC (cC (cB (cA Ik)))) j (bm 0 (JK k 68 (cB Ik) (R0 68))) [frm 26 [(2,.pv 0 0),(3,.pv 1 0),(11,Sl 2),(12,In x0),(13,In x1)]] [.var [Sl 3,Sl 4],.var [Sl 5,Sl 6],Roo x2,Rw x3,Rww x4,Rw x5,Rww x6]
theorem bz.eq(k:Nat)(a0):bz (k+1) a0=B (bI k a0.1) fun r0=>bz.L0 k k (O (N a0.2)) 0 a0.2 ([]:LI) ([]:LJ) r0 ([]:LJ):=by kernel_rfl
theorem bz.bo(k j:Nat)(x0 x1 x2 x3 x4 x5 x6):bz.L0 k (j+1) x0 x1 x2 x3 x4 x5 x6=T (D.lt x1 x0) (T (D.le 0 x1) (T (U (V x1) (N x2)) (T (U (V x1) (N x2)) (T (U (V x1) (N x2)) (B (bI k (E x2 (V x1) [])) fun r1=>T (D.leN (N (D.app x6 (r1::([]:LJ)))) 1099511627776) (bz.L0 k j x0 (Z .i64 (A x1 1)) x2 x3 x4 x5 (D.app x6 (r1::([]:LJ)))) none) none) none) none) none) (some (x5,x6)):=(jn _ _).trans (by kernel_rfl)
def Il:Code:=cB (cB (cB (bT P 67)))
def Fw:Code:=cA Il
def bF(k:Nat)(x0 x1:LJ):Option ((LJ)×PUnit):=IO_ k 67 0 0 3 [.var [Sl 1,Sl 2],Rww [],Rww []] [[.lit 0 2],[.pv 0 0,.undef,.undef]] [.var [Sl 1,Sl 2],Rww x0,Rww x1]
def bF.J0(k:Nat)(x0 x1 x2 x3:Int)(x4:Bool)(x5 x6 x7 x8:Int)(x9:Bool)(x10 x11:Int)(x12 x13 x14:LJ):Option ((LJ)×PUnit):=JJ (k+6) 125 (cB (cB (bT P 125))) (j6 (ef P (mD P 125) (fun z1 z2=>St.force (St.put z2 (Go.Oper.dst (oW (Code.ops Fw) 1)) (nx z1)) ((fun z3 z4=>fN (Code.ops Fw) 1 (oW (Code.ops Fw) 1) z4 ((fun z5 z6=>dR P cfg (jH P cfg ext (k+7)) Option.none (Code.ops Fw) [2] (trN 2) z6 (fun z7 z8=>JK (k+7) 67 (cB Il) (j6 (ef P (mD P 67) (fun z12 z13=>nc P 67 0 0 3 [.var [Sl 1,Sl 2],Rww [],Rww []] z12 z13))) .normal z8)) z3)) (Touch.mk [] [] [] Bool.true))))) [frm 27 [(0,.nilS),(1,In x0)],frm 36 [(0,.lit 0 2),(1,.tup []),(2,Sl 1),(3,In x1),(4,.tup []),(5,Sl 2),(6,.tup []),(7,.tup []),(8,.tup []),(9,.lit 0 2),(10,In x2),(11,In x3),(12,.bool x4),(13,.pv 0 1),(14,Sl 2),(15,In x5),(16,Sl 2),(17,In x6),(18,In x7),(19,In x8),(20,.bool x9),(21,.tup []),(22,In x10),(23,In x11),(24,.tup []),(25,.tup []),(26,.tup []),(27,.tup []),(28,.tup []),(29,.tup []),(30,.tup []),(31,.tup []),(32,.tup []),(33,.tup []),(34,.tup []),(35,.tup [])],[.pv 0 0,.undef,.undef]] [.var [Sl 3,Sl 2],Rww x12,Rww x13,Rww x14]
theorem bF.eq(k:Nat)(x0 x1):bF (k+8) x0 x1=T (D.lt (Z .i64 (A 0 (O (N x0)))) 0) none (T (D.lt (Z .i64 (A (Z .i64 (A 0 (O (N x0)))) (O (N x1)))) 0) none (T (D.lt (Z .i64 (A (Z .i64 (A 0 (O (N x0)))) (O (N x1)))) 0) none (bF.J0 k (Z .i64 (A (Z .i64 (A 0 (O (N x0)))) (O (N x1)))) (Z .i64 (A (Z .i64 (A 0 (O (N x0)))) (O (N x1)))) 2 2 false (Z .i64 (A 0 (O (N x0)))) (O (N x1)) (Z .i64 (A (Z .i64 (A 0 (O (N x0)))) (O (N x1)))) (Z .i64 (A (Z .i64 (A 0 (O (N x0)))) (O (N x1)))) (D.lt (Z .i64 (A (Z .i64 (A 0 (O (N x0)))) (O (N x1)))) 0) 2 (Z .i64 (A (Z .i64 (A 0 (O (N x0)))) (O (N x1)))) ([]:LJ) x1 x0))):=by kernel_rfl
theorem bF.fG(k:Nat)(x0 x1 x2 x3 x4 x5 x6 x7 x8 x9 x10 x11 x12 x13 x14):bF.J0 k x0 x1 x2 x3 x4 x5 x6 x7 x8 x9 x10 x11 x12 x13 x14=T (D.lt 0 (Z .i64 (M x0 (Z .i64 (M 0 0))))) (T (D.le 0 0) (T (D.leN (V 0) 0) (T (D.le 1 (Z .i64 (M x0 (Z .i64 (M 0 0))))) (T (D.leN (V (Z .i64 (M x0 (Z .i64 (M 0 0))))) 1099511627776) (T (D.le 0 0) (T (D.leN (V 0) (N (D.rep (V (Z .i64 (M x0 (Z .i64 (M 0 0))))) ([]:LI)))) (T (D.leN (N (D.app (D.take (D.subN (V 0) 0) (D.drop 0 (D.rep (V (Z .i64 (M x0 (Z .i64 (M 0 0))))) ([]:LI)))) x14)) 1099511627776) (T (D.leN (N (D.app (D.app (D.take (D.subN (V 0) 0) (D.drop 0 (D.rep (V (Z .i64 (M x0 (Z .i64 (M 0 0))))) ([]:LI)))) x14) x13)) 1099511627776) (some ((D.app (D.app (D.take (D.subN (V 0) 0) (D.drop 0 (D.rep (V (Z .i64 (M x0 (Z .i64 (M 0 0))))) ([]:LI)))) x14) x13),())) none) none) none) none) none) none) none) none) (T (D.leN (N (D.app ([]:LJ) x14)) 1099511627776) (T (D.leN (N (D.app (D.app ([]:LJ) x14) x13)) 1099511627776) (some ((D.app (D.app ([]:LJ) x14) x13),())) none) none):=(jn _ _).trans (by kernel_rfl)
def fH(k:Nat)(a0 a1:Int):Option (Int×Int):=call k 158 (a0,a1)
theorem fH.eq(k:Nat)(a0 a1):fH (k+1) a0 a1=T (D.le 0 32) (T (D.le 0 32) (T (D.le 0 32) (T (D.le 0 32) (T (D.le 0 32) (some ((Z .u64 (A (Z .u64 (A (Z .u64 (D.mul (D.shrI .u64 a0 32) (D.shrI .u64 a1 32))) (D.shrI .u64 (Z .u64 (A (Z .u64 (D.mul (D.shrI .u64 a0 32) (D.andI .u64 a1 4294967295))) (D.shrI .u64 (Z .u64 (D.mul (D.andI .u64 a0 4294967295) (D.andI .u64 a1 4294967295))) 32))) 32))) (D.shrI .u64 (Z .u64 (A (D.andI .u64 (Z .u64 (A (Z .u64 (D.mul (D.shrI .u64 a0 32) (D.andI .u64 a1 4294967295))) (D.shrI .u64 (Z .u64 (D.mul (D.andI .u64 a0 4294967295) (D.andI .u64 a1 4294967295))) 32))) 4294967295) (Z .u64 (D.mul (D.andI .u64 a0 4294967295) (D.shrI .u64 a1 32))))) 32))),(Z .u64 (D.mul a0 a1)))) none) none) none) none) none:=by kernel_rfl
def fS(k:Nat)(a0 a1:Int):Option (Int×Int):=call k 127 (a0,a1)
theorem fS.eq(k:Nat)(a0 a1):fS (k+1) a0 a1=B (fH k a0 a1) fun r0=>some (r0.1,r0.2):=by kernel_rfl
def Hp:Code:=cB (cB (bT P 69))
def HB:Code:=cB (cB Hp)
def Hj:Code:=cB (cB HB)
def aE(k:Nat)(a0:LI)(a1:Int):Option LI:=call k 69 (a0,a1)
def aE.J0(k:Nat)(x0:Int)(x1:LI):Option LI:=JJ k 69 Hp (R0 69) [frm 48 [(0,Sl 0),(1,In x0)]] [Ro x1]
def aE.J1(k:Nat)(x0:Int)(x1:LI):Option LI:=JJ k 69 HB (R0 69) [frm 48 [(0,Sl 0),(6,.int .u64 x0)]] [Ro x1]
def aE.L2(k j:Nat)(x0:Int)(x1:LI):Option LI:=LL k 69 (cC (cC (cA Hj))) j (bm 0 (JK k 69 (cB Hj) (R0 69))) [frm 48 [(7,Sl 0),(8,In x0)]] [Rw x1]
theorem aE.eq(k:Nat)(a0 a1):aE (k+1) a0 a1=T (D.lt a1 0) none (aE.J0 k a1 a0):=by kernel_rfl
theorem aE.fG(k:Nat)(x0 x1):aE.J0 k x0 x1=B (fS k (Z .u64 (O (N x1))) (Z .u64 x0)) fun r0=>T (D.lt 0 r0.1) none (T (D.lt 9223372036854775807 r0.2) none (aE.J1 k r0.2 x1)):=(jn _ _).trans (by kernel_rfl)
theorem aE.eV(k:Nat)(x0 x1):aE.J1 k x0 x1=T (D.le 0 (Z .i64 x0)) (T (D.le (Z .i64 x0) (Z .i64 x0)) (T (D.leN (V (Z .i64 x0)) 1099511627776) (aE.L2 k k (O (N (D.take (N (D.rep (V (Z .i64 x0)) (0:Int))) x1))) (D.app (D.take 0 (D.rep (V (Z .i64 x0)) (0:Int))) (D.app (D.take (N (D.rep (V (Z .i64 x0)) (0:Int))) x1) (D.drop (N (D.take (N (D.rep (V (Z .i64 x0)) (0:Int))) x1)) (D.rep (V (Z .i64 x0)) (0:Int)))))) none) none) none:=(jn _ _).trans (by kernel_rfl)
theorem aE.qZ(k j:Nat)(x0 x1):aE.L2 k (j+1) x0 x1=T (D.lt x0 (O (N x1))) (T (D.le 0 x0) (T (D.leN (V x0) (N x1)) (T (D.le 0 x0) (T (D.leN (V x0) (N x1)) (aE.L2 k j (Z .i64 (A x0 (O (N (D.take (D.subN (N x1) (V x0)) (D.take (D.subN (V x0) 0) (D.drop 0 x1))))))) (D.app (D.take (D.addN (V x0) 0) x1) (D.app (D.take (D.subN (N x1) (V x0)) (D.take (D.subN (V x0) 0) (D.drop 0 x1))) (D.drop (D.addN (V x0) (N (D.take (D.subN (N x1) (V x0)) (D.take (D.subN (V x0) 0) (D.drop 0 x1))))) x1)))) none) none) none) none) (some x1):=(jn _ _).trans (by kernel_rfl)
def HY:Code:=cB (cB (bT P 16))
def bC(k:Nat)(a0 a1:(LI)×(LJ)):Option (((LI)×(LJ))×Bool):=call k 16 (a0,a1)
def bC.J0(k:Nat)(x0:LI)(x1:LJ)(x2:LI)(x3:LJ)(x4:LI)(x5:LJ):Option (((LI)×(LJ))×Bool):=JJ (k+5) 16 HY (R0 16) [frm 43 [(2,.pv 0 0),(3,.pv 1 0),(4,.pv 2 0)]] [.var [Sl 3,Sl 4],.var [Sl 5,Sl 6],.var [Sl 7,Sl 8],Ro x0,Roo x1,Ro x2,Roo x3,Rw x4,Rww x5]
def bC.J1(k:Nat)(x0:LI)(x1:LJ)(x2:LI)(x3:LJ):Option (((LI)×(LJ))×Bool):=JJ (k+5) 16 (cB (cB HY)) (R0 16) [frm 43 [(4,.pv 0 0),(6,.pv 1 0)]] [.var [Sl 2,Sl 3],.var [Sl 4,Sl 5],Rw x0,Rww x1,Rw x2,Rww x3]
theorem bC.eq(k:Nat)(a0 a1):bC (k+6) a0 a1=B (dn (k+5) (a0.1,a0.2)) fun r0=>T (D.no r0) (some ((([]:LI),([]:LJ)),false)) (B (dn (k+5) (a1.1,a1.2)) fun r1=>T (D.no r1) (some ((([]:LI),([]:LJ)),false)) (bC.J0 k a0.1 a0.2 a1.1 a1.2 ([]:LI) ([]:LJ))):=by kernel_rfl
theorem bC.fG(k:Nat)(x0 x1 x2 x3 x4 x5):bC.J0 k x0 x1 x2 x3 x4 x5=B (bz (k+5) (x2,x3)) fun r2=>B (bz (k+5) (x0,x1)) fun r3=>B (bF (k+5) r2.2 r3.2) fun r4=>B (aL (k+5) (x0,x1)) fun r5=>T (D.lt 0 (O (N r5))) (B (aE (k+5) ((O (N r5))::([]:LI)) (O (N x3))) fun r6=>bC.J1 k x4 x5 r6 r4.1) (bC.J1 k x4 x5 ([]:LI) r4.1):=(jn _ _).trans (by kernel_rfl)
theorem bC.eV(k:Nat)(x0 x1 x2 x3):bC.J1 k x0 x1 x2 x3=B (aF (k+5) (x2,x3)) fun r7=>T (D.no r7) (some ((([]:LI),([]:LJ)),false)) (some ((x2,x3),true)):=(jn _ _).trans (by kernel_rfl)
def Hs:Code:=cB (cB (bT P 17))
def Hl:Code:=cB (cB Hs)
def Ix:Code:=cB Hl
def GY:Code:=cC (cC (cB (cA Ix)))
def GV:Code:=cB Ix
def Iu(k:Nat):cy (den (resTy P 17)):=bm 0 (JK k 17 GV (R0 17))
def H8:Code:=cB GY
def an(k:Nat)(a0 a1:(LI)×(LJ)):Option (((LI)×(LJ))×Bool):=call k 17 (a0,a1)
def an.J0(k:Nat)(x0:LI)(x1:LJ)(x2:LI)(x3:LJ)(x4:LI)(x5:LJ):Option (((LI)×(LJ))×Bool):=JJ k 17 Hs (R0 17) [frm 80 [(2,.pv 0 0),(3,.pv 1 0),(4,.pv 2 0)]] [.var [Sl 3,Sl 4],.var [Sl 5,Sl 6],.var [Sl 7,Sl 8],Ro x0,Roo x1,Ro x2,Roo x3,Rw x4,Rww x5]
def an.J1(k:Nat)(x0:Int)(x1:LI)(x2:LJ)(x3:LI)(x4:LJ)(x5:LI)(x6:LJ):Option (((LI)×(LJ))×Bool):=JJ k 17 Hl (R0 17) [frm 80 [(2,.pv 0 0),(3,.pv 1 0),(4,.pv 2 0),(6,In x0)]] [.var [Sl 3,Sl 4],.var [Sl 5,Sl 6],.var [Sl 7,Sl 8],Ro x1,Roo x2,Ro x3,Roo x4,Rw x5,Rww x6]
def an.L2(k j:Nat)(x0 x1:Int)(x2:LI)(x3:LJ)(x4:LI)(x5:LJ)(x6:LI)(x7:LJ)(x8:LI)(x9:LJ):Option (((LI)×(LJ))×Bool):=LL k 17 GY j (Iu k) [frm 80 [(2,.pv 0 0),(3,.pv 1 0),(4,.pv 2 0),(6,In x0),(7,.pv 3 0),(8,In x1)]] [.var [Sl 4,Sl 5],.var [Sl 6,Sl 7],.var [Sl 8,Sl 9],.var [Sl 10,Sl 11],Ro x2,Roo x3,Ro x4,Roo x5,Rw x6,Rww x7,Rw x8,Rww x9]
def an.J3(k k1:Nat)(x0 x1:Int)(x2:LI)(x3:LJ)(x4:LI)(x5:LJ)(x6:LI)(x7:LJ)(x8:LI)(x9:LJ):Option (((LI)×(LJ))×Bool):=JJ k 17 (cB (cC (cA H8))) (bm 1 (JK k 17 (cB H8) (LK k 17 GY k1 (Iu k)))) [frm 80 [(2,.pv 0 0),(3,.pv 1 0),(4,.pv 2 0),(6,In x0),(7,.pv 3 0),(8,In x1)]] [.var [Sl 4,Sl 5],.var [Sl 6,Sl 7],.var [Sl 8,Sl 9],.var [Sl 10,Sl 11],Ro x2,Roo x3,Ro x4,Roo x5,Rw x6,Rww x7,Rw x8,Rww x9]
def an.L4(k j:Nat)(x0:Int)(x1:LI)(x2:LJ)(x3:LI)(x4:LJ)(x5:LI)(x6:LJ):Option (((LI)×(LJ))×Bool):=LL k 17 (cC (cC (cB (cA GV)))) j (bm 2 (JK k 17 (cB GV) (R0 17))) [frm 80 [(2,.pv 0 0),(4,.pv 1 0),(7,.pv 2 0),(9,In x0)]] [.var [Sl 3,Sl 4],.var [Sl 5,Sl 6],.var [Sl 7,Sl 8],Ro x1,Roo x2,Rw x3,Rww x4,Rw x5,Rww x6]
theorem an.eq(k:Nat)(a0 a1):an (k+1) a0 a1=B (dq k (a0.1,a0.2)) fun r0=>T (D.no r0) (some ((([]:LI),([]:LJ)),false)) (B (dq k (a1.1,a1.2)) fun r1=>T (D.no r1) (some ((([]:LI),([]:LJ)),false)) (an.J0 k a0.1 a0.2 a1.1 a1.2 ([]:LI) ([]:LJ))):=by kernel_rfl
theorem an.fG(k:Nat)(x0 x1 x2 x3 x4 x5):an.J0 k x0 x1 x2 x3 x4 x5=T (D.lt 0 (O (N x1))) (T (D.le 0 0) (T (U (V 0) (N x1)) (T (U (V 0) (N x1)) (T (U (V 0) (N x1)) (an.J1 k (O (N (E x1 (V 0) []))) x0 x1 x2 x3 x4 x5) none) none) none) none) (an.J1 k 0 x0 x1 x2 x3 x4 x5):=(jn _ _).trans (by kernel_rfl)
theorem an.eV(k:Nat)(x0 x1 x2 x3 x4 x5 x6):an.J1 k x0 x1 x2 x3 x4 x5 x6=an.L2 k k x0 0 x1 x2 x3 x4 x5 x6 ([]:LI) ([]:LJ):=(jn _ _).trans (by kernel_rfl)
theorem an.qZ(k j:Nat)(x0 x1 x2 x3 x4 x5 x6 x7 x8 x9):an.L2 k (j+1) x0 x1 x2 x3 x4 x5 x6 x7 x8 x9=T (D.lt x1 (O (N x5))) (T (D.lt 0 x0) (T (D.leN (N (D.app x8 (x0::([]:LI)))) 1099511627776) (an.J3 k j x0 x1 x2 x3 x4 x5 x6 x7 (D.app x8 (x0::([]:LI))) x9) none) (an.J3 k j x0 x1 x2 x3 x4 x5 x6 x7 x8 x9)) (an.L4 k k 0 x2 x3 x6 x7 x8 x9):=(jn _ _).trans (by kernel_rfl)
theorem an.ky(k k1:Nat)(x0 x1 x2 x3 x4 x5 x6 x7 x8 x9):an.J3 k k1 x0 x1 x2 x3 x4 x5 x6 x7 x8 x9=T (D.le 0 x1) (T (U (V x1) (N x5)) (T (U (V x1) (N x5)) (T (U (V x1) (N x5)) (T (D.leN (N (D.app ([]:LI) (E x5 (V x1) []))) 1099511627776) (T (D.leN (N (D.app x9 ((D.app ([]:LI) (E x5 (V x1) []))::([]:LJ)))) 1099511627776) (an.L2 k k1 x0 (Z .i64 (A x1 1)) x2 x3 x4 x5 x6 x7 x8 (D.app x9 ((D.app ([]:LI) (E x5 (V x1) []))::([]:LJ)))) none) none) none) none) none) none:=(jn _ _).trans (by kernel_rfl)
theorem an.uw(k j:Nat)(x0 x1 x2 x3 x4 x5 x6):an.L4 k (j+1) x0 x1 x2 x3 x4 x5 x6=T (D.lt x0 (O (N x2))) (T (D.le 0 x0) (T (U (V x0) (N x2)) (T (U (V x0) (N x2)) (T (U (V x0) (N x2)) (T (D.leN (N (D.app ([]:LI) (E x2 (V x0) []))) 1099511627776) (T (D.leN (N (D.app x6 ((D.app ([]:LI) (E x2 (V x0) []))::([]:LJ)))) 1099511627776) (an.L4 k j (Z .i64 (A x0 1)) x1 x2 x3 x4 x5 (D.app x6 ((D.app ([]:LI) (E x2 (V x0) []))::([]:LJ)))) none) none) none) none) none) none) (B (aB k (x5,x6)) fun r2=>T (D.no r2) (some ((([]:LI),([]:LJ)),false)) (some ((x5,x6),true))):=(jn _ _).trans (by kernel_rfl)
def Ha:Code:=cB (cB (bT P 71))
def cI(k:Nat)(a0 a1:LI):Option Bool:=call k 71 (a0,a1)
def cI.L0(k j:Nat)(x0:Int)(x1 x2:LI):Option Bool:=LL k 71 (cC (cC (cB (cA Ha)))) j (bm 0 (JK k 71 (cB Ha) (R0 71))) [frm 26 [(0,Sl 0),(1,Sl 1),(5,In x0)]] [Ro x1,Ro x2]
theorem cI.eq(k:Nat)(a0 a1):cI (k+1) a0 a1=T (D.no (D.eq (O (N a0)) (O (N a1)))) (some false) (cI.L0 k k 0 a0 a1):=by kernel_rfl
theorem cI.bo(k j:Nat)(x0 x1 x2):cI.L0 k (j+1) x0 x1 x2=T (D.lt x0 (O (N x1))) (T (D.le 0 x0) (T (U (V x0) (N x1)) (T (U (V x0) (N x1)) (T (D.le 0 x0) (T (U (V x0) (N x2)) (T (U (V x0) (N x2)) (T (D.no (D.eq (E x1 (V x0) 0) (E x2 (V x0) 0))) (some false) (cI.L0 k j (Z .i64 (A x0 1)) x1 x2)) none) none) none) none) none) none) (some true):=(jn _ _).trans (by kernel_rfl)
def GK:Code:=cB (cB (bT P 18))
def aU(k:Nat)(a0 a1:(LI)×(LJ)):Option Bool:=call k 18 (a0,a1)
def aU.J0(k:Nat)(x0:LI)(x1:LJ)(x2:LI)(x3:LJ):Option Bool:=JJ k 18 GK (R0 18) [frm 40 [(2,.pv 0 0),(3,.pv 1 0)]] [.var [Sl 2,Sl 3],.var [Sl 4,Sl 5],Ro x0,Roo x1,Ro x2,Roo x3]
def aU.L1(k j:Nat)(x0:Int)(x1:LI)(x2:LJ)(x3:LI)(x4:LJ):Option Bool:=LL k 18 (cC (cC (cB (cA GK)))) j (bm 0 (JK k 18 (cB GK) (R0 18))) [frm 40 [(2,.pv 0 0),(3,.pv 1 0),(5,In x0)]] [.var [Sl 2,Sl 3],.var [Sl 4,Sl 5],Ro x1,Roo x2,Ro x3,Roo x4]
theorem aU.eq(k:Nat)(a0 a1):aU (k+1) a0 a1=B (cI k a0.1 a1.1) fun r0=>T (D.no r0) (some false) (T (D.no (D.eq (O (N a0.2)) (O (N a1.2)))) (some false) (aU.J0 k a0.1 a0.2 a1.1 a1.2)):=by kernel_rfl
theorem aU.fG(k:Nat)(x0 x1 x2 x3):aU.J0 k x0 x1 x2 x3=aU.L1 k k 0 x0 x1 x2 x3:=(jn _ _).trans (by kernel_rfl)
theorem aU.ep(k j:Nat)(x0 x1 x2 x3 x4):aU.L1 k (j+1) x0 x1 x2 x3 x4=T (D.lt x0 (O (N x2))) (T (D.le 0 x0) (T (U (V x0) (N x2)) (T (U (V x0) (N x2)) (T (D.le 0 x0) (T (U (V x0) (N x4)) (T (U (V x0) (N x4)) (T (U (V x0) (N x2)) (T (U (V x0) (N x4)) (B (cI k (E x2 (V x0) []) (E x4 (V x0) [])) fun r1=>T (D.no r1) (some false) (aU.L1 k j (Z .i64 (A x0 1)) x1 x2 x3 x4)) none) none) none) none) none) none) none) none) (some true):=(jn _ _).trans (by kernel_rfl)
def Ht:Code:=cB (cB (cB (bT P 83)))
def G5:Code:=cC (cC (cB (cA Ht)))
def Hv(k:Nat):cy (den (resTy P 83)):=bm 0 (JK k 83 (cB Ht) (R0 83))
def bO(k:Nat)(a0:LI):Option LI:=call k 83 a0
def bO.L0(k j:Nat)(x0 x1:Int)(x2 x3:LI):Option LI:=LL k 83 G5 j (Hv k) [frm 29 [(0,Sl 0),(3,Sl 1),(10,Sl 0),(11,In x0),(12,In x1)]] [Ro x2,Rw x3]
def bO.J1(k k1:Nat)(x0 x1:Int)(x2 x3:LI):Option LI:=JJ k 83 (cB (cB (cB G5))) (LK k 83 G5 k1 (Hv k)) [frm 29 [(0,Sl 0),(3,Sl 1),(10,Sl 0),(11,In x0),(12,In x1)]] [Ro x2,Rw x3]
theorem bO.eq(k:Nat)(a0):bO (k+1) a0=B (aW k a0) fun r0=>T (D.no r0) (some ([]:LI)) (bO.L0 k k (O (N a0)) 0 a0 ([]:LI)):=by kernel_rfl
theorem bO.bo(k j:Nat)(x0 x1 x2 x3):bO.L0 k (j+1) x0 x1 x2 x3=T (D.lt x1 x0) (T (D.le 0 x1) (T (U (V x1) (N x2)) (T (U (V x1) (N x2)) (B (eM k x2 (Z .i64 (A x1 1))) fun r1=>T (D.lt r1 (E x2 (V x1) 0)) (T (D.leN (N (D.app x3 (x1::([]:LI)))) 1099511627776) (bO.J1 k j x0 x1 x2 (D.app x3 (x1::([]:LI)))) none) (bO.J1 k j x0 x1 x2 x3)) none) none) none) (some x3):=(jn _ _).trans (by kernel_rfl)
theorem bO.eV(k k1:Nat)(x0 x1 x2 x3):bO.J1 k k1 x0 x1 x2 x3=bO.L0 k k1 x0 (Z .i64 (A x1 1)) x2 x3:=(jn _ _).trans (by kernel_rfl)
def Hf:Code:=cB (bT P 138)
def bH(k:Nat)(a0:LI)(a1:Int):Option Int:=call k 138 (a0,a1)
def bH.L0(k j:Nat)(x0 x1 x2:Int)(x3:LI):Option Int:=LL k 138 (cC (cC (cB (cA Hf)))) j (bm 0 (JK k 138 (cB Hf) (R0 138))) [frm 19 [(0,Sl 0),(1,In x0),(7,In x1),(8,In x2)]] [Ro x3]
theorem bH.eq(k:Nat)(a0 a1):bH (k+1) a0 a1=bH.L0 k k a1 (O (N a0)) 0 a0:=by kernel_rfl
theorem bH.bo(k j:Nat)(x0 x1 x2 x3):bH.L0 k (j+1) x0 x1 x2 x3=T (D.lt x2 x1) (T (D.le 0 x2) (T (U (V x2) (N x3)) (T (U (V x2) (N x3)) (T (D.eq x0 (E x3 (V x2) 0)) (some x2) (bH.L0 k j x0 x1 (Z .i64 (A x2 1)) x3)) none) none) none) (some (-1)):=(jn _ _).trans (by kernel_rfl)
def cp(k:Nat)(a0:LI)(a1:Int):Option Bool:=call k 82 (a0,a1)
theorem cp.eq(k:Nat)(a0 a1):cp (k+1) a0 a1=B (bH k a0 a1) fun r0=>some (D.le 0 r0):=by kernel_rfl
def HI:Code:=cB (bT P 160)
def FP:Code:=cC (cC (cA HI))
def Hu:Code:=cB (bT P 130)
def F3:Code:=cA (cB (cB (cB Hu)))
def GM(k:Nat):cy (den (resTy P 130)):=bm 0 (JK (k+1) 160 (cB HI) (j6 (ef P (mD P 160) (fun z9 z10=>St.force (St.put z10 (Go.Oper.dst (oW (Code.ops F3) 1)) (nx z9)) ((fun z11 z12=>fN (Code.ops F3) 1 (oW (Code.ops F3) 1) z12 ((fun z13 z14=>dR P cfg (jH P cfg ext (k+2)) Option.none (Code.ops F3) [2,3] (trN 2) z14 (fun z15 z16=>JK (k+2) 130 (cB (cT (cB (cA Hu)))) (R0 130) .normal z16)) z11)) (Touch.mk [] [] [] Bool.true))))))
def Hr:Code:=cB FP
def HU(k k1:Nat):cy (den (resTy P 130)):=LK (k+1) 160 FP k1 (GM k)
def aY(k:Nat)(a0:LI)(a1:Int):Option ((LI)×Bool):=call k 130 (a0,a1)
def aY.L0(k j:Nat)(x0:Int)(x1:Bool)(x2:Int)(x3 x4:Bool)(x5:Int)(x6:Nat)(x7 x8:Int)(x9:Nat)(x10 x11 x12 x13:LI):Option ((LI)×Bool):=LL (k+1) 160 FP j (GM k) [frm 22 [(0,Sl 0)],frm 22 [(0,Sl 1),(1,In x0),(2,.tup []),(3,.tup []),(4,Sl 2),(5,.bool x1),(6,Sl 0),(7,Sl 1),(8,Sl 3),(9,In x2),(10,.bool x3),(11,.bool x4),(12,Sl 1),(13,Sl 0),(14,Sl 0),(15,In x5),(16,.pe 0 [] x6 0),(17,In x7),(18,In x8),(19,.pe 0 [] x9 0),(20,Sl 0),(21,.tup [])]] [Rw x10,Ro x11,Rw x12,Rw x13]
def aY.J1(k k1:Nat)(x0:Int)(x1:Bool)(x2:Int)(x3 x4:Bool)(x5:Int)(x6:Nat)(x7 x8:Int)(x9:Nat)(x10 x11 x12 x13:LI):Option ((LI)×Bool):=JJ (k+1) 160 Hr (HU k k1) [frm 22 [(0,Sl 0)],frm 22 [(0,Sl 1),(1,In x0),(2,.tup []),(3,.tup []),(4,Sl 2),(5,.bool x1),(6,Sl 0),(7,Sl 1),(8,Sl 3),(9,In x2),(10,.bool x3),(11,.bool x4),(12,Sl 1),(13,Sl 0),(14,Sl 0),(15,In x5),(16,.pe 0 [] x6 0),(17,In x7),(18,In x8),(19,.pe 0 [] x9 0),(20,Sl 0),(21,.tup [])]] [Rw x10,Ro x11,Rw x12,Rw x13]
def aY.L2(k j x0 x1:Nat)(x2:Int)(x3:Bool)(x4:Int)(x5 x6:Bool)(x7:Int)(x8:Nat)(x9 x10:Int)(x11:Nat)(x12 x13 x14 x15:LI):Option ((LI)×Bool):=LL (k+1) 160 FP j (GM k) [frm 22 [(0,.sl 0 [] (Option.some (x0,x1)))],frm 22 [(0,Sl 1),(1,In x2),(2,.tup []),(3,.tup []),(4,Sl 2),(5,.bool x3),(6,Sl 0),(7,Sl 1),(8,Sl 3),(9,In x4),(10,.bool x5),(11,.bool x6),(12,Sl 1),(13,Sl 0),(14,Sl 0),(15,In x7),(16,.pe 0 [] x8 0),(17,In x9),(18,In x10),(19,.pe 0 [] x11 0),(20,Sl 0),(21,.tup [])]] [Rw x12,Ro x13,Rw x14,Rw x15]
def aY.J3(k k1 x0 x1:Nat)(x2:Int)(x3:Bool)(x4:Int)(x5 x6:Bool)(x7:Int)(x8:Nat)(x9 x10:Int)(x11:Nat)(x12 x13 x14 x15:LI):Option ((LI)×Bool):=JJ (k+1) 160 Hr (HU k k1) [frm 22 [(0,.sl 0 [] (Option.some (x0,x1)))],frm 22 [(0,Sl 1),(1,In x2),(2,.tup []),(3,.tup []),(4,Sl 2),(5,.bool x3),(6,Sl 0),(7,Sl 1),(8,Sl 3),(9,In x4),(10,.bool x5),(11,.bool x6),(12,Sl 1),(13,Sl 0),(14,Sl 0),(15,In x7),(16,.pe 0 [] x8 0),(17,In x9),(18,In x10),(19,.pe 0 [] x11 0),(20,Sl 0),(21,.tup [])]] [Rw x12,Ro x13,Rw x14,Rw x15]
theorem aY.eq(k:Nat)(a0 a1):aY (k+3) a0 a1=B (bO (k+2) a0) fun r0=>B (cp (k+2) r0 a1) fun r1=>T (D.no r1) (some (([]:LI),false)) (B (bI (k+2) a0) fun r2=>T (D.le 0 a1) (T (U (V a1) (N r2)) (T (U (V a1) (N r2)) (T (D.le 0 a1) (T (U (V a1) (N r2)) (T (U (V a1) (N r2)) (aY.L0 k (k+1) a1 false a1 r1 (D.no r1) a1 (V a1) (E r2 (V a1) 0) (Z .i64 (M (E r2 (V a1) 0) 1)) (V a1) (D.set r2 (V a1) (Z .i64 (M (E r2 (V a1) 0) 1))) a0 ([]:LI) r0) none) none) none) none) none) none):=by kernel_rfl
theorem aY.bo(k j:Nat)(x0 x1 x2 x3 x4 x5 x6 x7 x8 x9 x10 x11 x12 x13):aY.L0 k (j+1) x0 x1 x2 x3 x4 x5 x6 x7 x8 x9 x10 x11 x12 x13=T (D.lt 0 (O (N x10))) (T (D.le 0 (Z .i64 (M (O (N x10)) 1))) (T (U (V (Z .i64 (M (O (N x10)) 1))) (N x10)) (T (U (V (Z .i64 (M (O (N x10)) 1))) (N x10)) (T (D.eq (E x10 (V (Z .i64 (M (O (N x10)) 1))) 0) 0) (aY.J1 k j x0 x1 x2 x3 x4 x5 x6 x7 x8 x9 x10 x11 x12 x13) (T (D.le 0 (O (N x10))) (T (D.le (O (N x10)) (O (N x10))) (T (D.leN (V (O (N x10))) (N x10)) (some ((D.take (V (O (N x10))) x10),true)) none) none) none)) none) none) none) (T (D.le 0 (O (N x10))) (T (D.le (O (N x10)) (O (N x10))) (T (D.leN (V (O (N x10))) (N x10)) (some ((D.take (V (O (N x10))) x10),true)) none) none) none):=(jn _ _).trans (by kernel_rfl)
theorem aY.eV(k k1:Nat)(x0 x1 x2 x3 x4 x5 x6 x7 x8 x9 x10 x11 x12 x13):aY.J1 k k1 x0 x1 x2 x3 x4 x5 x6 x7 x8 x9 x10 x11 x12 x13=T (D.le 0 (Z .i64 (M (O (N x10)) 1))) (T (D.leN (V (Z .i64 (M (O (N x10)) 1))) (N x10)) (aY.L2 k k1 0 (D.subN (V (Z .i64 (M (O (N x10)) 1))) 0) x0 x1 x2 x3 x4 x5 x6 x7 x8 x9 x10 x11 x12 x13) none) none:=(jn _ _).trans (by kernel_rfl)
theorem aY.qZ(k j:Nat)(x0 x1 x2 x3 x4 x5 x6 x7 x8 x9 x10 x11 x12 x13 x14 x15):aY.L2 k (j+1) x0 x1 x2 x3 x4 x5 x6 x7 x8 x9 x10 x11 x12 x13 x14 x15=T (D.lt 0 (O x1)) (T (D.le 0 (Z .i64 (M (O x1) 1))) (T (U (V (Z .i64 (M (O x1) 1))) x1) (T (U (D.addN x0 (V (Z .i64 (M (O x1) 1)))) (N x12)) (T (D.eq (E x12 (D.addN x0 (V (Z .i64 (M (O x1) 1)))) 0) 0) (aY.J3 k j x0 x1 x2 x3 x4 x5 x6 x7 x8 x9 x10 x11 x12 x13 x14 x15) (T (D.le 0 (O x1)) (T (D.le (O x1) (O x1)) (T (D.leN (V (O x1)) x1) (some ((D.take (V (O x1)) (D.take x1 (D.drop x0 x12))),true)) none) none) none)) none) none) none) (T (D.le 0 (O x1)) (T (D.le (O x1) (O x1)) (T (D.leN (V (O x1)) x1) (some ((D.take (V (O x1)) (D.take x1 (D.drop x0 x12))),true)) none) none) none):=(jn _ _).trans (by kernel_rfl)
def Io:Code:=cB (cB (bT P 131))
def bN(k:Nat)(a0:(LI)×(LJ)):Option LJ:=call k 131 a0
def bN.L0(k j:Nat)(x0 x1:Int)(x2 x3:LJ)(x4:LI):Option LJ:=LL k 131 (cC (cC (cB (cA Io)))) j (bm 0 (JK k 131 (cB Io) (R0 131))) [frm 28 [(1,.pv 0 0),(3,Sl 1),(8,Sl 2),(9,In x0),(10,In x1)]] [.var [Sl 3,Sl 2],Rww x2,Roo x3,Ro x4]
theorem bN.eq(k:Nat)(a0):bN (k+1) a0=bN.L0 k k (O (N a0.2)) 0 ([]:LJ) a0.2 a0.1:=by kernel_rfl
theorem bN.bo(k j:Nat)(x0 x1 x2 x3 x4):bN.L0 k (j+1) x0 x1 x2 x3 x4=T (D.lt x1 x0) (T (D.le 0 x1) (T (U (V x1) (N x3)) (T (U (V x1) (N x3)) (B (eM k x4 x1) fun r0=>T (D.le 0 r0) (T (D.le r0 r0) (T (D.leN (V r0) 1099511627776) (T (U (V x1) (N x3)) (B (ah k ((D.rep (V r0) (0:Int))::((E x3 (V x1) [])::([]:LJ)))) fun r1=>T (D.leN (N (D.app x2 (r1::([]:LJ)))) 1099511627776) (bN.L0 k j x0 (Z .i64 (A x1 1)) (D.app x2 (r1::([]:LJ))) x3 x4) none) none) none) none) none) none) none) none) (some x2):=(jn _ _).trans (by kernel_rfl)
def hM(k:Nat)(a0:LJ)(a1 a2:Int):Option Int:=call k 132 (a0,a1,a2)
theorem hM.eq(k:Nat)(a0 a1 a2):hM (k+1) a0 a1 a2=B (cw k a1 0 (Z .i64 (M (O (N a0)) 1))) fun r0=>T (D.no r0) (some 0) (T (D.le 0 a1) (T (U (V a1) (N a0)) (T (U (V a1) (N a0)) (T (U (V a1) (N a0)) (B (eM k (E a0 (V a1) []) a2) fun r1=>some r1) none) none) none) none):=by kernel_rfl
def HA:Code:=cB (bT P 77)
def HQ:Code:=cB HA
def Iw:Code:=cB (cB (cB HQ))
def Gz:Code:=cC (cC (cA Iw))
def GO:Code:=cB Iw
def H7(k:Nat):cy (den (resTy P 77)):=bm 0 (JK (k+1) 77 GO (R0 77))
def HG:Code:=cB (cB (bT P 133))
def Gw:Code:=cC (cC (cB (cA HG)))
def FF:Code:=cA (cB GO)
def HR(k:Nat):cy (den (resTy P 77)):=bm 0 (JK k 133 (cB HG) (j6 (ef P (mD P 133) (fun z13 z14=>St.force (St.put z14 (Go.Oper.dst (oW (Code.ops FF) 2)) (nx z13)) ((fun z15 z16=>fN (Code.ops FF) 2 (oW (Code.ops FF) 2) z16 ((fun z17 z18=>dR P cfg (jH P cfg ext (k+1)) Option.none (Code.ops FF) [3,4,5,6] (trN 3) z18 (fun z19 z20=>JK (k+1) 77 (cB (cT (cB (cA HA)))) (R0 77) .normal z20)) z15)) (Touch.mk [] [] [] Bool.true))))))
def ar(k:Nat)(a0:(LI)×(LJ))(a1:Int):Option (((LI)×(LJ))×(Int×Bool)):=call k 77 (a0,a1)
def ar.J0(k:Nat)(x0:Int)(x1:LI)(x2:LJ)(x3:LI)(x4:LJ):Option (((LI)×(LJ))×(Int×Bool)):=JJ (k+1) 77 HQ (R0 77) [frm 100 [(1,In x0),(2,.pv 0 0),(4,.pv 1 0)]] [.var [Sl 2,Sl 3],.var [Sl 4,Sl 5],Ro x1,Roo x2,Rw x3,Rww x4]
def ar.L1(k j:Nat)(x0 x1:Int)(x2:LI)(x3:LJ)(x4:LI)(x5:LJ):Option (((LI)×(LJ))×(Int×Bool)):=LL (k+1) 77 Gz j (H7 k) [frm 100 [(4,.pv 0 0),(7,Sl 1),(9,Sl 2),(10,In x0),(11,In x1)]] [.var [Sl 3,Sl 4],Rw x2,Rww x3,Rw x4,Rww x5]
def ar.J2(k:Nat)(x0 x1:Int)(x2:LI)(x3:LJ)(x4:LI)(x5:LJ):Option (((LI)×(LJ))×(Int×Bool)):=JJ (k+1) 77 GO (R0 77) [frm 100 [(4,.pv 0 0),(7,Sl 1),(9,Sl 2),(10,In x0),(11,In x1)]] [.var [Sl 3,Sl 4],Rw x2,Rww x3,Rw x4,Rww x5]
def ar.J3(k k1:Nat)(x0 x1 x2 x3:Int)(x4:LI)(x5:LJ)(x6:LI)(x7:LJ):Option (((LI)×(LJ))×(Int×Bool)):=JJ (k+1) 77 (cB (cB (cC Gz))) (bm 1 (LK (k+1) 77 Gz k1 (H7 k))) [frm 100 [(4,.pv 0 0),(7,Sl 1),(9,Sl 2),(10,In x0),(11,In x1),(12,In x2),(13,In x3)]] [.var [Sl 3,Sl 4],Rw x4,Rww x5,Rw x6,Rww x7]
def ar.L4(k j:Nat)(x0 x1 x2 x3 x4 x5:Int)(x6:Nat)(x7:Int)(x8:Nat)(x9:LI)(x10:LJ)(x11:LI)(x12 x13:LJ)(x14:LI)(x15:LJ):Option (((LI)×(LJ))×(Int×Bool)):=LL k 133 Gw j (HR k) [frm 33 [(0,Sl 0),(4,.pv 1 0),(5,.pv 2 0),(10,Sl 3),(11,In x0),(12,In x1)],frm 100 [(4,.pv 4 0),(7,Sl 0),(9,Sl 3),(10,In x2),(11,In x3),(87,Sl 3),(88,In x4),(89,Sl 3),(90,In x5),(91,.pe 3 [] x6 0),(93,In x7),(95,.pe 3 [] x8 0),(96,Sl 0),(97,Sl 3)]] [Rw x9,.var [Sl 5,Sl 6],.var [Sl 0,Sl 7],Rww x10,.var [Sl 8,Sl 9],Rw x11,Rww x12,Rww x13,Rw x14,Rww x15]
def ar.J5(k k1:Nat)(x0 x1 x2 x3 x4 x5:Int)(x6:Nat)(x7:Int)(x8:Nat)(x9:LI)(x10:LJ)(x11:LI)(x12 x13:LJ)(x14:LI)(x15:LJ):Option (((LI)×(LJ))×(Int×Bool)):=JJ k 133 (cB (cB (cB Gw))) (LK k 133 Gw k1 (HR k)) [frm 33 [(0,Sl 0),(4,.pv 1 0),(5,.pv 2 0),(10,Sl 3),(11,In x0),(12,In x1)],frm 100 [(4,.pv 4 0),(7,Sl 0),(9,Sl 3),(10,In x2),(11,In x3),(87,Sl 3),(88,In x4),(89,Sl 3),(90,In x5),(91,.pe 3 [] x6 0),(93,In x7),(95,.pe 3 [] x8 0),(96,Sl 0),(97,Sl 3)]] [Rw x9,.var [Sl 5,Sl 6],.var [Sl 0,Sl 7],Rww x10,.var [Sl 8,Sl 9],Rw x11,Rww x12,Rww x13,Rw x14,Rww x15]
theorem ar.eq(k:Nat)(a0 a1):ar (k+2) a0 a1=B (aF (k+1) (a0.1,a0.2)) fun r0=>T (D.no r0) (some ((([]:LI),([]:LJ)),((0:Int),false))) (B (bO (k+1) a0.1) fun r1=>B (cp (k+1) r1 a1) fun r2=>T (D.no r2) (some ((([]:LI),([]:LJ)),((0:Int),false))) (ar.J0 k a1 a0.1 a0.2 ([]:LI) ([]:LJ))):=by kernel_rfl
theorem ar.fG(k:Nat)(x0 x1 x2 x3 x4):ar.J0 k x0 x1 x2 x3 x4=B (aY (k+1) x1 x0) fun r3=>B (bN (k+1) (x1,x2)) fun r4=>T (D.le 0 x0) (T (U (V x0) (N x1)) (T (U (V x0) (N x1)) (ar.L1 k (k+1) x0 (Z .i64 (M (E x1 (V x0) 0) 1)) r3.1 r4 x3 x4) none) none) none:=(jn _ _).trans (by kernel_rfl)
theorem ar.ep(k j:Nat)(x0 x1 x2 x3 x4 x5):ar.L1 k (j+1) x0 x1 x2 x3 x4 x5=B (hM (k+1) x3 x0 (Z .i64 (A x1 1))) fun r5=>B (hM (k+1) x3 (Z .i64 (A x0 1)) x1) fun r6=>T (D.eq r5 0) (T (D.eq r6 0) (ar.J2 k x0 x1 x2 x3 x4 x5) (ar.J3 k j x0 x1 r5 r6 x2 x3 x4 x5)) (ar.J3 k j x0 x1 r5 r6 x2 x3 x4 x5):=(jn _ _).trans (by kernel_rfl)
theorem ar.iJ(k:Nat)(x0 x1 x2 x3 x4 x5):ar.J2 k x0 x1 x2 x3 x4 x5=T (D.le 0 x0) (T (U (V x0) (N x3)) (T (U (V x0) (N x3)) (T (U (V x0) (N x3)) (T (D.le 0 x1) (T (D.leN (V x1) (N (E x3 (V x0) []))) (T (D.le 0 x0) (T (U (V x0) (N x3)) (T (U (V x0) (N x3)) (T (U (V x0) (N x3)) (T (D.eqP (((V x0),0)::([]:List (Nat×Nat))) (((V x0),0)::([]:List (Nat×Nat)))) (ar.L4 k k (O (N (D.set x3 (V x0) (D.take (D.subN (V x1) 0) (D.drop 0 (E x3 (V x0) [])))))) 0 x0 x1 x0 x0 (V x0) x1 (V x0) x2 (D.set x3 (V x0) (D.take (D.subN (V x1) 0) (D.drop 0 (E x3 (V x0) [])))) ([]:LI) ([]:LJ) ([]:LJ) x4 x5) none) none) none) none) none) none) none) none) none) none) none:=(jn _ _).trans (by kernel_rfl)
theorem ar.ky(k k1:Nat)(x0 x1 x2 x3 x4 x5 x6 x7):ar.J3 k k1 x0 x1 x2 x3 x4 x5 x6 x7=T (D.eq x2 0) (T (D.le 0 x0) (T (U (V x0) (N x5)) (T (U (V x0) (N x5)) (T (U (V x0) (N x5)) (T (D.le 0 x1) (T (U (V x1) (N (E x5 (V x0) []))) (T (U (V x0) (N x5)) (T (U (V x1) (N (E x5 (V x0) []))) (ar.L1 k k1 (Z .i64 (A x0 1)) x1 x4 (D.set x5 (V x0) (D.set (E x5 (V x0) []) (V x1) x3)) x6 x7) none) none) none) none) none) none) none) none) (T (D.lt 0 x3) (T (D.le x3 x2) (T (D.le 0 x0) (T (U (V x0) (N x5)) (T (U (V x0) (N x5)) (T (U (V x0) (N x5)) (T (D.le 0 x1) (T (U (V x1) (N (E x5 (V x0) []))) (T (U (V x0) (N x5)) (T (U (V x1) (N (E x5 (V x0) []))) (ar.L1 k k1 (Z .i64 (A x0 1)) x1 x4 (D.set x5 (V x0) (D.set (E x5 (V x0) []) (V x1) x3)) x6 x7) none) none) none) none) none) none) none) none) (T (D.le 0 x0) (T (U (V x0) (N x5)) (T (U (V x0) (N x5)) (T (U (V x0) (N x5)) (T (D.le 0 x1) (T (U (V x1) (N (E x5 (V x0) []))) (T (U (V x0) (N x5)) (T (U (V x1) (N (E x5 (V x0) []))) (ar.L1 k k1 x0 (Z .i64 (A x1 1)) x4 (D.set x5 (V x0) (D.set (E x5 (V x0) []) (V x1) x2)) x6 x7) none) none) none) none) none) none) none) none)) (T (D.le 0 x0) (T (U (V x0) (N x5)) (T (U (V x0) (N x5)) (T (U (V x0) (N x5)) (T (D.le 0 x1) (T (U (V x1) (N (E x5 (V x0) []))) (T (U (V x0) (N x5)) (T (U (V x1) (N (E x5 (V x0) []))) (ar.L1 k k1 x0 (Z .i64 (A x1 1)) x4 (D.set x5 (V x0) (D.set (E x5 (V x0) []) (V x1) x2)) x6 x7) none) none) none) none) none) none) none) none)):=(jn _ _).trans (by kernel_rfl)
theorem ar.uw(k j:Nat)(x0 x1 x2 x3 x4 x5 x6 x7 x8 x9 x10 x11 x12 x13 x14 x15):ar.L4 k (j+1) x0 x1 x2 x3 x4 x5 x6 x7 x8 x9 x10 x11 x12 x13 x14 x15=T (D.lt x1 x0) (T (D.le 0 x1) (T (U (V x1) (N x10)) (T (U (V x1) (N x10)) (T (U (V x1) (N x10)) (T (D.lt 0 (O (N (E x10 (V x1) [])))) (B (eM k x9 x1) fun r7=>T (U (V x1) (N x10)) (T (D.le 0 r7) (T (D.leN (V r7) (N (E x10 (V x1) []))) (T (U (V x1) (N x10)) (B (bI k (D.take (D.subN (N (E x10 (V x1) [])) (V r7)) (D.drop (V r7) (E x10 (V x1) [])))) fun r8=>T (D.leN (N (D.app x13 (r8::([]:LJ)))) 1099511627776) (ar.J5 k j x0 x1 x2 x3 x4 x5 x6 x7 x8 x9 x10 x11 x12 (D.app x13 (r8::([]:LJ))) x14 x15) none) none) none) none) none) (ar.J5 k j x0 x1 x2 x3 x4 x5 x6 x7 x8 x9 x10 x11 x12 x13 x14 x15)) none) none) none) none) (some ((x9,x13),(x2,true))):=(jn _ _).trans (by kernel_rfl)
theorem ar.Gi(k k1:Nat)(x0 x1 x2 x3 x4 x5 x6 x7 x8 x9 x10 x11 x12 x13 x14 x15):ar.J5 k k1 x0 x1 x2 x3 x4 x5 x6 x7 x8 x9 x10 x11 x12 x13 x14 x15=ar.L4 k k1 x0 (Z .i64 (A x1 1)) x2 x3 x4 x5 x6 x7 x8 x9 x10 x11 x12 x13 x14 x15:=(jn _ _).trans (by kernel_rfl)
def HJ:Code:=cB (cB (cB (bT P 21)))
def cG(k:Nat)(a0:(LI)×(LJ)):Option (((LI)×(LJ))×Bool):=call k 21 a0
def cG.L0(k j:Nat)(x0:LI)(x1:LJ)(x2:LI)(x3:LJ):Option (((LI)×(LJ))×Bool):=LL k 21 (cC (cC (cA HJ))) j (bm 0 (JK k 21 (cB HJ) (R0 21))) [frm 26 [(2,.pv 0 0),(4,.pv 1 0)]] [.var [Sl 2,Sl 3],.var [Sl 4,Sl 5],Rw x0,Rww x1,Rw x2,Rww x3]
theorem cG.eq(k:Nat)(a0):cG (k+1) a0=B (aF k (a0.1,a0.2)) fun r0=>T (D.no r0) (some ((([]:LI),([]:LJ)),false)) (B (bz k (a0.1,a0.2)) fun r1=>cG.L0 k k ([]:LI) ([]:LJ) r1.1 r1.2):=by kernel_rfl
theorem cG.bo(k j:Nat)(x0 x1 x2 x3):cG.L0 k (j+1) x0 x1 x2 x3=T (D.lt 0 (O (N x2))) (B (ar k (x2,x3) (Z .i64 (M (O (N x2)) 1))) fun r2=>cG.L0 k j x0 x1 r2.1.1 r2.1.2) (some ((x2,x3),true)):=(jn _ _).trans (by kernel_rfl)
def Hq:Code:=cB (cB (cB (cB (cB (cB (cB (cB (cB (cB (cB (cB (cB (cB (bT P 3))))))))))))))
def Hh:Code:=cB Hq
def bc(k:Nat)(a0:LI):Option Bool:=call k 3 a0
def bc.J0(k:Nat)(x0 x1 x2 x3:Bool)(x4 x5:LI)(x6:LJ)(x7:LI)(x8:LJ)(x9:LI)(x10:LJ)(x11:LI)(x12:LJ):Option Bool:=JJ k 3 Hq (R0 3) [frm 166 [(3,Sl 0),(4,.pv 1 0),(5,.bool x0),(10,.pv 2 0),(11,.bool x1),(16,.pv 3 0),(17,.bool x2),(20,.pv 4 0),(21,.bool x3)]] [Rw x4,.var [Sl 5,Sl 6],.var [Sl 7,Sl 8],.var [Sl 9,Sl 10],.var [Sl 11,Sl 12],Rw x5,Rww x6,Rw x7,Rww x8,Rw x9,Rww x10,Rw x11,Rww x12]
def bc.J1(k:Nat)(x0 x1 x2:Bool)(x3:LI)(x4:LJ)(x5:LI)(x6:LJ)(x7:LI)(x8:LJ):Option Bool:=JJ k 3 Hh (R0 3) [frm 166 [(10,.pv 0 0),(11,.bool x0),(16,.pv 1 0),(17,.bool x1),(20,.pv 2 0),(21,.bool x2)]] [.var [Sl 3,Sl 4],.var [Sl 5,Sl 6],.var [Sl 7,Sl 8],Rw x3,Rww x4,Rw x5,Rww x6,Rw x7,Rww x8]
def bc.J2(k:Nat)(x0 x1:Bool)(x2:LI)(x3:LJ)(x4:LI)(x5:LJ):Option Bool:=JJ k 3 (cB Hh) (R0 3) [frm 166 [(16,.pv 0 0),(17,.bool x0),(20,.pv 1 0),(21,.bool x1)]] [.var [Sl 2,Sl 3],.var [Sl 4,Sl 5],Rw x2,Rww x3,Rw x4,Rww x5]
theorem bc.eq(k:Nat)(a0):bc (k+1) a0=B (mF k a0) fun r0=>T r0 (some true) (B (aD k a0) fun r1=>B (aN k r1) fun r2=>B (aO k r1) fun r3=>B (cR k a0) fun r4=>B (aX k (r4.1.1,r4.1.2) r4.2) fun r5=>B (ch k (r4.1.1,r4.1.2) r4.2) fun r6=>B (cF k a0) fun r7=>B (bW k (r7.1.1,r7.1.2) (r7.2.1,r7.2.2)) fun r8=>B (bX k (r7.1.1,r7.1.2) (r7.2.1,r7.2.2)) fun r9=>B (bC k (r7.1.1,r7.1.2) (r7.2.1,r7.2.2)) fun r10=>B (an k (r7.1.1,r7.1.2) (r7.2.1,r7.2.2)) fun r11=>T (D.no (D.eqB r2.2 r3.2)) (some false) (B (aU k (r2.1.1,r2.1.2) (r3.1.1,r3.1.2)) fun r12=>T (D.no r12) (some false) (T (D.no (D.eqB r5.2 r6.2)) (some false) (B (aU k (r5.1.1,r5.1.2) (r6.1.1,r6.1.2)) fun r13=>T (D.no r13) (some false) (T (D.no (D.eqB r8.2 r9.2)) (some false) (B (aU k (r8.1.1,r8.1.2) (r9.1.1,r9.1.2)) fun r14=>T (D.no r14) (some false) (T (D.no (D.eqB r10.2 r11.2)) (some false) (B (aU k (r10.1.1,r10.1.2) (r11.1.1,r11.1.2)) fun r15=>T (D.no r15) (some false) (bc.J0 k r2.2 r5.2 r8.2 r10.2 r1 r2.1.1 r2.1.2 r5.1.1 r5.1.2 r8.1.1 r8.1.2 r10.1.1 r10.1.2))))))))):=by kernel_rfl
theorem bc.fG(k:Nat)(x0 x1 x2 x3 x4 x5 x6 x7 x8 x9 x10 x11 x12):bc.J0 k x0 x1 x2 x3 x4 x5 x6 x7 x8 x9 x10 x11 x12=T x0 (B (dY k x4) fun r16=>T (D.no r16.2) (some false) (B (aU k (x5,x6) (r16.1.1,r16.1.2)) fun r17=>T (D.no r17) (some false) (bc.J1 k x1 x2 x3 x7 x8 x9 x10 x11 x12))) (bc.J1 k x1 x2 x3 x7 x8 x9 x10 x11 x12):=(jn _ _).trans (by kernel_rfl)
theorem bc.eV(k:Nat)(x0 x1 x2 x3 x4 x5 x6 x7 x8):bc.J1 k x0 x1 x2 x3 x4 x5 x6 x7 x8=T x0 (B (aF k (x3,x4)) fun r18=>T (D.no r18) (some false) (bc.J2 k x1 x2 x5 x6 x7 x8)) (bc.J2 k x1 x2 x5 x6 x7 x8):=(jn _ _).trans (by kernel_rfl)
theorem bc.iJ(k:Nat)(x0 x1 x2 x3 x4 x5):bc.J2 k x0 x1 x2 x3 x4 x5=T (D.no x1) (some true) (B (cG k (x4,x5)) fun r19=>T r19.2 (T x0 (B (aU k (r19.1.1,r19.1.2) (x2,x3)) fun r20=>some r20) (some false)) (some false)):=(jn _ _).trans (by kernel_rfl)
end Go.Am.Seat
