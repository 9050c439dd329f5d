/- The machine's equations for the functions that the law reaches, each checked by the kernel; no conditions. -/
import Derived.Test.YtloognjnfelgfaaGreatDoorCfgDescribeExample
import Derived.Test.YtloognjnfelgfaaGreatDoorProg
set_option linter.unusedSimpArgs false
set_option linter.unusedVariables false
set_option linter.unnecessarySimpa false
set_option linter.unusedSectionVars false
noncomputable section
namespace Go.Am.Seat
open Go Go.Am Go.Proofs
set_option linter.unusedVariables false
set_option linter.unusedSectionVars false
set_option maxRecDepth 100000
variable [D] [DJ]
abbrev LI:=List Int
abbrev LJ:=List (List Int)
abbrev P:Program:=Go.Proofs.Tryz.prog
def ext:Ext P:=C3 P CZ
def X{R:Type}(k f:Nat)(c:Code):St→cW R→Option R:=exec P cfg (qH P cfg ext k) k f c
abbrev call(k f:Nat)(x:den (fM P f)):Option (den (resTy P f)):=xx P cfg ext k f x
def R0(f:Nat):cW (den (resTy P f)):=sx (finish P f (De P f))
def JK{T:Type}(k f:Nat)(c:Code)(K:cW T):cW T:=pW (fun a b=>ij (Cfg.joins cfg f (key c)) (fun s=>X k f c s b) a) K
def LK{T:Type}(k f:Nat)(c:Code)(j:Nat)(K:cW T):cW T:=pW (fun a b=>ij (Cfg.loops cfg f (key c)) (fun s=>jU (fun x y=>X k f c x y) (Cfg.loops cfg f (key c)) j s b) a) K
def LL{T:Type}(k f:Nat)(c:Code)(j:Nat)(K:cW T)(fr:List (List AV))(rs:List ak):Option T:=D.jn (fun a=>jU (fun x y=>X k f c x y) (Cfg.loops cfg f (key c)) j a K) (St.mk fr rs)
def JJ{T:Type}(k f:Nat)(c:Code)(K:cW T)(fr:List (List AV))(rs:List ak):Option T:=D.jn (fun a=>X k f c a K) (St.mk fr rs)
abbrev IO_(k f nV nD n:Nat)(rs0:List ak)(fr:List (List AV))(rs:List ak):Option (den (resTy P f)×den (rH nV nD n rs0)):=kJ (qH P cfg ext k) f nV nD n rs0 (St.mk fr rs)
def Sl(n:Nat):AV:= .sl n [] none
def In(n:Int):AV:= .int .i64 n
def Rw(x:LI):ak:= .row Bool.true (.int .i64) x
def Rww(x:LJ):ak:= .row Bool.true (.sl (.int .i64)) x
def Ro(x:LI):ak:= .row Bool.false (.int .i64) x
def Roo(x:LJ):ak:= .row Bool.false (.sl (.int .i64)) x
open Go.Am.D renaming test → T, bnd → B, len → N, nat → V, ltN → U, rd → E, ofN → O, wrap → Z, add → A, sub → M
open Go.Am.DJ renaming jn_eq → jn
open Go.Am.Code (cA cB cC cT)
def eH(k:Nat)(a0:Int):Option ByteArray:=call k 14 a0
theorem eH.eq(k:Nat)(a0):eH (k+1) a0=T (D.eq a0 1) (some (⟨#[51,49,50]⟩:ByteArray)) (T (D.eq a0 2) (some (⟨#[50,49,49,51]⟩:ByteArray)) (T (D.eq a0 3) (some (⟨#[53,52,51,50,49]⟩:ByteArray)) (T (D.eq a0 4) (some (⟨#[49,50,49,50]⟩:ByteArray)) (T (D.eq a0 5) (some (⟨#[45]⟩:ByteArray)) (T (D.eq a0 6) (some (⟨#[51,53,49,52,50]⟩:ByteArray)) (some (⟨#[]⟩:ByteArray))))))):=by kernel_rfl
def fA(k:Nat)(a0 a1 a2:Int):Option Bool:=call k 92 (a0,a1,a2)
theorem fA.eq(k:Nat)(a0 a1 a2):fA (k+1) a0 a1 a2=T (D.le a1 a0) (some (D.le a0 a2)) (some false):=by kernel_rfl
def c1:Code:=cB (cU P 49)
def aU(k:Nat)(a0:LI):Option Bool:=call k 49 a0
def aU.L0(k j:Nat)(x0:Int)(x1:LI):Option Bool:=LL k 49 (cC (cC (cB (cA c1)))) j (bM 0 (JK k 49 (cB c1) (R0 49))) [frm 19 [(0,Sl 0),(3,In x0)]] [Ro x1]
theorem aU.eq(k:Nat)(a0):aU (k+1) a0=aU.L0 k k 0 a0:=by kernel_rfl
theorem aU.bw(k j:Nat)(x0 x1):aU.L0 k (j+1) x0 x1=T (D.lt x0 (O (N x1))) (T (D.le 0 x0) (T (U (V x0) (N x1)) (T (U (V x0) (N x1)) (B (fA k (E x1 (V x0) 0) 1 9) fun r0=>T (D.no r0) (some false) (aU.L0 k j (Z .i64 (A x0 1)) x1)) none) none) none) (some (D.le (O (N x1)) 9)):=(jn _ _).trans (by kernel_rfl)
def c2:Code:=cB (cB (cB (cB (cU P 56))))
def c3:Code:=cC (cC (cA c2))
def K4(k:Nat):cW (den (resTy P 56)):=bM 0 (JK k 56 (cB c2) (R0 56))
def aO(k:Nat)(a0:Int):Option ByteArray:=call k 56 a0
def aO.L0(k j:Nat)(x0:Int)(x1:Bool)(x2:ByteArray):Option ByteArray:=LL k 56 c3 j (K4 k) [frm 31 [(0,In x0),(3,.bool x1),(4,.str x2)]] []
def aO.J1(k k1:Nat)(x0:Int)(x1:Bool)(x2:ByteArray)(x3:Int):Option ByteArray:=JJ k 56 (cB (cB (cC (cB c3)))) (bM 1 (LK k 56 c3 k1 (K4 k))) [frm 31 [(0,In x0),(3,.bool x1),(4,.str x2),(5,In x3)]] []
theorem aO.eq(k:Nat)(a0):aO (k+1) a0=T (D.eq a0 0) (some (⟨#[48]⟩:ByteArray)) (aO.L0 k k a0 (D.lt a0 0) (⟨#[]⟩:ByteArray)):=by kernel_rfl
theorem aO.bw(k j:Nat)(x0 x1 x2):aO.L0 k (j+1) x0 x1 x2=T (D.no (D.eq x0 0)) (T (D.no (D.eq 10 0)) (T (D.lt (D.rem x0 10) 0) (aO.J1 k j x0 x1 x2 (Z .i64 (M 0 (D.rem x0 10)))) (aO.J1 k j x0 x1 x2 (D.rem x0 10))) none) (T x1 (T (D.leN (D.addN (D.lenS (⟨#[45]⟩:ByteArray)) (D.lenS x2)) 1099511627776) (some (D.catS (⟨#[45]⟩:ByteArray) x2)) none) (some x2)):=(jn _ _).trans (by kernel_rfl)
theorem aO.gw(k k1:Nat)(x0 x1 x2 x3):aO.J1 k k1 x0 x1 x2 x3=T (D.leN (D.addN (D.lenS (D.ofInts ((Z .u8 (Z .i64 (A 48 x3)))::([]:LI)))) (D.lenS x2)) 1099511627776) (T (D.no (D.eq 10 0)) (aO.L0 k k1 (Z .i64 (D.quo x0 10)) x1 (D.catS (D.ofInts ((Z .u8 (Z .i64 (A 48 x3)))::([]:LI))) x2)) none) none:=(jn _ _).trans (by kernel_rfl)
def c5:Code:=cB (cB (cB (cB (cU P 35))))
def cf(k:Nat)(a0:LI):Option ByteArray:=call k 35 a0
def cf.L0(k j:Nat)(x0:ByteArray)(x1:Int)(x2:LI):Option ByteArray:=LL k 35 (cC (cC (cB (cA c5)))) j (bM 0 (JK k 35 (cB c5) (R0 35))) [frm 25 [(0,Sl 0),(3,.str x0),(4,In x1)]] [Ro x2]
theorem cf.eq(k:Nat)(a0):cf (k+1) a0=B (aU k a0) fun r0=>T (D.no r0) (some (⟨#[]⟩:ByteArray)) (T (D.eq (O (N a0)) 0) (some (⟨#[45]⟩:ByteArray)) (cf.L0 k k (⟨#[]⟩:ByteArray) 0 a0)):=by kernel_rfl
theorem cf.bw(k j:Nat)(x0 x1 x2):cf.L0 k (j+1) x0 x1 x2=T (D.lt x1 (O (N x2))) (T (D.le 0 x1) (T (U (V x1) (N x2)) (T (U (V x1) (N x2)) (B (aO k (E x2 (V x1) 0)) fun r1=>T (D.leN (D.addN (D.lenS x0) (D.lenS r1)) 1099511627776) (cf.L0 k j (D.catS x0 r1) (Z .i64 (A x1 1)) x2) none) none) none) none) (some x0):=(jn _ _).trans (by kernel_rfl)
def c6:Code:=cB (cB (cU P 12))
def c7:Code:=cC (cC (cB (cA c6)))
def c8:Code:=cB c6
def K9(k:Nat):cW (den (resTy P 12)):=bM 0 (JK k 12 c8 (R0 12))
def aJ(k:Nat)(a0:ByteArray):Option ((LI)×Bool):=call k 12 a0
def aJ.L0(k j:Nat)(x0:ByteArray)(x1:Int)(x2:LI):Option ((LI)×Bool):=LL k 12 c7 j (K9 k) [frm 31 [(0,.str x0),(4,Sl 0),(5,In x1)]] [Rw x2]
def aJ.J1(k k1:Nat)(x0:ByteArray)(x1:Int)(x2:LI):Option ((LI)×Bool):=JJ k 12 (cB c7) (LK k 12 c7 k1 (K9 k)) [frm 31 [(0,.str x0),(4,Sl 0),(5,In x1)]] [Rw x2]
def aJ.J2(k:Nat)(x0:ByteArray)(x1:LI):Option ((LI)×Bool):=JJ k 12 c8 (R0 12) [frm 31 [(0,.str x0),(4,Sl 0)]] [Rw x1]
theorem aJ.eq(k:Nat)(a0):aJ (k+1) a0=aJ.L0 k k a0 0 ([]:LI):=by kernel_rfl
theorem aJ.bw(k j:Nat)(x0 x1 x2):aJ.L0 k (j+1) x0 x1 x2=T (D.lt x1 (O (D.lenS x0))) (T (D.no (D.eqS x0 (⟨#[45]⟩:ByteArray))) (aJ.J1 k j x0 x1 x2) (aJ.J2 k x0 x2)) (aJ.J2 k x0 x2):=(jn _ _).trans (by kernel_rfl)
theorem aJ.gw(k k1:Nat)(x0 x1 x2):aJ.J1 k k1 x0 x1 x2=T (D.le 0 x1) (T (U (V x1) (D.lenS x0)) (T (D.leN (N (D.app x2 ((Z .i64 (M (Z .i64 (D.byte x0 (V x1))) 48))::([]:LI)))) 1099511627776) (aJ.L0 k k1 x0 (Z .i64 (A x1 1)) (D.app x2 ((Z .i64 (M (Z .i64 (D.byte x0 (V x1))) 48))::([]:LI)))) none) none) none:=(jn _ _).trans (by kernel_rfl)
theorem aJ.lf(k:Nat)(x0 x1):aJ.J2 k x0 x1=B (cf k x1) fun r0=>T (D.no (D.eqS r0 x0)) (some (([]:LI),false)) (some (x1,true)):=(jn _ _).trans (by kernel_rfl)
def c10:Code:=cB (cB (cU P 134))
def cR(k:Nat)(a0:(LI)×(LJ)):Option ((LI)×(LJ)):=call k 134 a0
def cR.L0(k j:Nat)(x0:Int)(x1:LI)(x2:LJ)(x3:LI)(x4:LJ)(x5:LI)(x6:LJ):Option ((LI)×(LJ)):=LL k 134 (cC (cC (cB (cA c10)))) j (bM 0 (JK k 134 (cB c10) (R0 134))) [frm 30 [(1,.pv 0 0),(2,.pv 1 0),(3,.pv 2 0),(4,In x0)]] [.var [Sl 3,Sl 4],.var [Sl 5,Sl 6],.var [Sl 7,Sl 8],Ro x1,Roo x2,Rw x3,Rww x4,Rw x5,Rww x6]
theorem cR.eq(k:Nat)(a0):cR (k+1) a0=T (D.leN (N (D.app ([]:LI) a0.1)) 1099511627776) (cR.L0 k k 0 a0.1 a0.2 ([]:LI) ([]:LJ) (D.app ([]:LI) a0.1) ([]:LJ)) none:=by kernel_rfl
theorem cR.bw(k j:Nat)(x0 x1 x2 x3 x4 x5 x6):cR.L0 k (j+1) x0 x1 x2 x3 x4 x5 x6=T (D.lt x0 (O (N x2))) (T (D.le 0 x0) (T (U (V x0) (N x2)) (T (U (V x0) (N x2)) (T (U (V x0) (N x2)) (T (D.leN (N (D.app ([]:LI) (E x2 (V x0) []))) 1099511627776) (T (D.leN (N (D.app x6 ((D.app ([]:LI) (E x2 (V x0) []))::([]:LJ)))) 1099511627776) (cR.L0 k j (Z .i64 (A x0 1)) x1 x2 x3 x4 x5 (D.app x6 ((D.app ([]:LI) (E x2 (V x0) []))::([]:LJ)))) none) none) none) none) none) none) (some (x5,x6)):=(jn _ _).trans (by kernel_rfl)
def c11:Code:=cB (cB (cU P 93))
def c12:Code:=cC (cC (cB (cA c11)))
def K13(k:Nat):cW (den (resTy P 93)):=bM 0 (JK k 93 (cB c11) (R0 93))
def c14:Code:=cB c12
def c15:Code:=cB (cC (cA c14))
def c16:Code:=cC (cC (cA c15))
def c17:Code:=cB c15
def K18(k k1:Nat):cW (den (resTy P 93)):=bM 1 (JK k 93 (cB c14) (LK k 93 c12 k1 (K13 k)))
def K19(k k1:Nat):cW (den (resTy P 93)):=bM 2 (JK k 93 c17 (K18 k k1))
def aE(k:Nat)(a0:(LI)×(LJ))(a1:Int):Option (((LI)×(LJ))×Int):=call k 93 (a0,a1)
def aE.L0(k j:Nat)(x0 x1:Int)(x2:LI)(x3:LJ)(x4:LI)(x5:LJ):Option (((LI)×(LJ))×Int):=LL k 93 c12 j (K13 k) [frm 92 [(1,In x0),(4,.pv 0 0),(6,.pv 1 0),(7,In x1)]] [.var [Sl 2,Sl 3],.var [Sl 4,Sl 5],Rw x2,Rww x3,Rw x4,Rww x5]
def aE.L1(k k1 j:Nat)(x0 x1 x2:Int)(x3:LI)(x4:LJ)(x5:LI)(x6:LJ):Option (((LI)×(LJ))×Int):=LL k 93 c16 j (K19 k k1) [frm 92 [(1,In x0),(4,.pv 0 0),(6,.pv 1 0),(7,In x1),(8,In x2)]] [.var [Sl 2,Sl 3],.var [Sl 4,Sl 5],Rw x3,Rww x4,Rw x5,Rww x6]
def aE.J2(k k1 k2:Nat)(x0 x1 x2:Int)(x3:LI)(x4:LJ)(x5:LI)(x6:LJ):Option (((LI)×(LJ))×Int):=JJ k 93 (cB c16) (LK k 93 c16 k2 (K19 k k1)) [frm 92 [(1,In x0),(4,.pv 0 0),(6,.pv 1 0),(7,In x1),(8,In x2)]] [.var [Sl 2,Sl 3],.var [Sl 4,Sl 5],Rw x3,Rww x4,Rw x5,Rww x6]
def aE.J3(k k1:Nat)(x0 x1 x2:Int)(x3:LI)(x4:LJ)(x5:LI)(x6:LJ):Option (((LI)×(LJ))×Int):=JJ k 93 c17 (K18 k k1) [frm 92 [(1,In x0),(4,.pv 0 0),(6,.pv 1 0),(7,In x1),(8,In x2)]] [.var [Sl 2,Sl 3],.var [Sl 4,Sl 5],Rw x3,Rww x4,Rw x5,Rww x6]
theorem aE.eq(k:Nat)(a0 a1):aE (k+1) a0 a1=B (cR k (a0.1,a0.2)) fun r0=>aE.L0 k k a1 0 ([]:LI) ([]:LJ) r0.1 r0.2:=by kernel_rfl
theorem aE.bw(k j:Nat)(x0 x1 x2 x3 x4 x5):aE.L0 k (j+1) x0 x1 x2 x3 x4 x5=T (D.lt x1 (O (N x5))) (aE.L1 k j k x0 x1 0 x2 x3 x4 x5) (T (D.leN (N (D.app x5 ((x0::([]:LI))::([]:LJ)))) 1099511627776) (some ((x4,(D.app x5 ((x0::([]:LI))::([]:LJ)))),(Z .i64 (M (O (N (D.app x5 ((x0::([]:LI))::([]:LJ))))) 1)))) none):=(jn _ _).trans (by kernel_rfl)
theorem aE.fx(k k1 j:Nat)(x0 x1 x2 x3 x4 x5 x6):aE.L1 k k1 (j+1) x0 x1 x2 x3 x4 x5 x6=T (D.le 0 x1) (T (U (V x1) (N x6)) (T (U (V x1) (N x6)) (T (U (V x1) (N x6)) (T (D.lt x2 (O (N (E x6 (V x1) [])))) (T (D.le 0 x1) (T (U (V x1) (N x6)) (T (U (V x1) (N x6)) (T (U (V x1) (N x6)) (T (D.le 0 x2) (T (U (V x2) (N (E x6 (V x1) []))) (T (U (V x1) (N x6)) (T (U (V x2) (N (E x6 (V x1) []))) (T (D.le (E (E x6 (V x1) []) (V x2) 0) x0) (aE.J2 k k1 j x0 x1 x2 x3 x4 x5 x6) (aE.J3 k k1 x0 x1 x2 x3 x4 x5 x6)) none) none) none) none) none) none) none) none) (aE.J3 k k1 x0 x1 x2 x3 x4 x5 x6)) none) none) none) none:=(jn _ _).trans (by kernel_rfl)
theorem aE.lf(k k1 k2:Nat)(x0 x1 x2 x3 x4 x5 x6):aE.J2 k k1 k2 x0 x1 x2 x3 x4 x5 x6=aE.L1 k k1 k2 x0 x1 (Z .i64 (A x2 1)) x3 x4 x5 x6:=(jn _ _).trans (by kernel_rfl)
theorem aE.yK(k k1:Nat)(x0 x1 x2 x3 x4 x5 x6):aE.J3 k k1 x0 x1 x2 x3 x4 x5 x6=T (D.le 0 x1) (T (U (V x1) (N x6)) (T (U (V x1) (N x6)) (T (U (V x1) (N x6)) (T (D.eq x2 (O (N (E x6 (V x1) [])))) (T (D.le 0 x1) (T (U (V x1) (N x6)) (T (U (V x1) (N x6)) (T (U (V x1) (N x6)) (T (D.leN (N (D.app (E x6 (V x1) []) (x0::([]:LI)))) 1099511627776) (T (D.le 0 x1) (T (U (V x1) (N x6)) (T (U (V x1) (N x6)) (T (D.eqP (((V x1),0)::([]:List (Nat×Nat))) (((V x1),0)::([]:List (Nat×Nat)))) (some ((x5,(D.set x6 (V x1) (D.app (E x6 (V x1) []) (x0::([]:LI))))),x1)) none) none) none) none) none) none) none) none) none) (T (D.le 0 x1) (T (U (V x1) (N x6)) (T (U (V x1) (N x6)) (T (U (V x1) (N x6)) (T (D.le 0 x2) (T (U (V x2) (N (E x6 (V x1) []))) (T (U (V x1) (N x6)) (T (U (V x2) (N (E x6 (V x1) []))) (T (D.le 0 x1) (T (U (V x1) (N x6)) (T (U (V x1) (N x6)) (T (U (V x1) (N x6)) (T (D.le 0 x2) (T (U (V x2) (N (E x6 (V x1) []))) (T (U (V x1) (N x6)) (T (U (V x2) (N (E x6 (V x1) []))) (aE.L0 k k1 (E (E x6 (V x1) []) (V x2) 0) (Z .i64 (A x1 1)) x3 x4 x5 (D.set x6 (V x1) (D.set (E x6 (V x1) []) (V x2) x0))) none) none) none) none) none) none) none) none) none) none) none) none) none) none) none) none)) none) none) none) none:=(jn _ _).trans (by kernel_rfl)
def c20:Code:=cB (cB (cB (cU P 50)))
def c21:Code:=cC (cC (cB (cA c20)))
def K22(k:Nat):cW (den (resTy P 50)):=bM 0 (JK k 50 (cB c20) (R0 50))
def c23:Code:=cB c21
def bu(k:Nat)(a0:LI):Option (((LI)×(LJ))×((LI)×(LJ))):=call k 50 a0
def bu.L0(k j:Nat)(x0:Int)(x1 x2:LI)(x3:LJ)(x4:LI)(x5:LJ)(x6:LI)(x7:LJ)(x8:LI)(x9:LJ):Option (((LI)×(LJ))×((LI)×(LJ))):=LL k 50 c21 j (K22 k) [frm 53 [(0,Sl 0),(2,.pv 1 0),(3,.pv 2 0),(4,.pv 3 0),(5,.pv 4 0),(6,In x0)]] [Ro x1,.var [Sl 5,Sl 6],.var [Sl 7,Sl 8],.var [Sl 9,Sl 10],.var [Sl 11,Sl 12],Rw x2,Rww x3,Rw x4,Rww x5,Rw x6,Rww x7,Rw x8,Rww x9]
def bu.J1(k k1:Nat)(x0 x1:Int)(x2 x3:LI)(x4:LJ)(x5:LI)(x6:LJ)(x7:LI)(x8:LJ)(x9:LI)(x10:LJ):Option (((LI)×(LJ))×((LI)×(LJ))):=JJ k 50 (cB (cB (cB (cC (cA c23))))) (bM 1 (JK k 50 (cB c23) (LK k 50 c21 k1 (K22 k)))) [frm 53 [(0,Sl 0),(2,.pv 1 0),(3,.pv 2 0),(4,.pv 3 0),(5,.pv 4 0),(6,In x0),(8,In x1)]] [Ro x2,.var [Sl 5,Sl 6],.var [Sl 7,Sl 8],.var [Sl 9,Sl 10],.var [Sl 11,Sl 12],Rw x3,Rww x4,Rw x5,Rww x6,Rw x7,Rww x8,Rw x9,Rww x10]
theorem bu.eq(k:Nat)(a0):bu (k+1) a0=bu.L0 k k 0 a0 ([]:LI) ([]:LJ) ([]:LI) ([]:LJ) ([]:LI) ([]:LJ) ([]:LI) ([]:LJ):=by kernel_rfl
theorem bu.bw(k j:Nat)(x0 x1 x2 x3 x4 x5 x6 x7 x8 x9):bu.L0 k (j+1) x0 x1 x2 x3 x4 x5 x6 x7 x8 x9=T (D.lt x0 (O (N x1))) (T (D.le 0 x0) (T (U (V x0) (N x1)) (T (U (V x0) (N x1)) (B (aE k (x6,x7) (E x1 (V x0) 0)) fun r0=>T (D.eq r0.2 (O (N x9))) (T (D.leN (N (D.app x9 (([]:LI)::([]:LJ)))) 1099511627776) (bu.J1 k j x0 r0.2 x1 x2 x3 x4 x5 r0.1.1 r0.1.2 x8 (D.app x9 (([]:LI)::([]:LJ)))) none) (bu.J1 k j x0 r0.2 x1 x2 x3 x4 x5 r0.1.1 r0.1.2 x8 x9)) none) none) none) (some ((x6,x7),(x8,x9))):=(jn _ _).trans (by kernel_rfl)
theorem bu.gw(k k1:Nat)(x0 x1 x2 x3 x4 x5 x6 x7 x8 x9 x10):bu.J1 k k1 x0 x1 x2 x3 x4 x5 x6 x7 x8 x9 x10=T (D.le 0 x1) (T (U (V x1) (N x10)) (T (U (V x1) (N x10)) (T (U (V x1) (N x10)) (T (D.leN (N (D.app (E x10 (V x1) []) ((Z .i64 (A x0 1))::([]:LI)))) 1099511627776) (T (D.le 0 x1) (T (U (V x1) (N x10)) (T (U (V x1) (N x10)) (T (D.eqP (((V x1),0)::([]:List (Nat×Nat))) (((V x1),0)::([]:List (Nat×Nat)))) (bu.L0 k k1 (Z .i64 (A x0 1)) x2 x3 x4 x5 x6 x7 x8 x9 (D.set x10 (V x1) (D.app (E x10 (V x1) []) ((Z .i64 (A x0 1))::([]:LI))))) none) none) none) none) none) none) none) none) none:=(jn _ _).trans (by kernel_rfl)
def c24:Code:=cB (cB (cU P 51))
def c25:Code:=cC (cC (cB (cA c24)))
def K26(k:Nat):cW (den (resTy P 51)):=bM 0 (JK k 51 (cB c24) (R0 51))
def c27:Code:=cB c25
def K28(k k1:Nat):cW (den (resTy P 51)):=LK k 51 c25 k1 (K26 k)
def aN(k:Nat)(a0:LI):Option Bool:=call k 51 a0
def aN.L0(k j:Nat)(x0:Int)(x1 x2:LI):Option Bool:=LL k 51 c25 j (K26 k) [frm 56 [(0,Sl 0),(3,Sl 1),(4,In x0)]] [Ro x1,Rw x2]
def aN.J1(k k1:Nat)(x0:Int)(x1 x2:LI):Option Bool:=JJ k 51 c27 (K28 k k1) [frm 56 [(0,Sl 0),(3,Sl 1),(4,In x0)]] [Ro x1,Rw x2]
def aN.J2(k k1:Nat)(x0:Int)(x1 x2:LI):Option Bool:=JJ k 51 (cB c27) (K28 k k1) [frm 56 [(0,Sl 0),(3,Sl 1),(4,In x0)]] [Ro x1,Rw x2]
theorem aN.eq(k:Nat)(a0):aN (k+1) a0=T (D.le 0 11) (T (D.le 11 11) (T (D.leN (V 11) 1099511627776) (aN.L0 k k (Z .i64 (M (O (N a0)) 1)) a0 (D.rep (V 11) (0:Int))) none) none) none:=by kernel_rfl
theorem aN.bw(k j:Nat)(x0 x1 x2):aN.L0 k (j+1) x0 x1 x2=T (D.le 0 x0) (B (aU k x1) fun r0=>T r0 (aN.J1 k j x0 x1 x2) (B (aU k x1) fun r1=>some r1)) (B (aU k x1) fun r2=>some r2):=(jn _ _).trans (by kernel_rfl)
theorem aN.gw(k k1:Nat)(x0 x1 x2):aN.J1 k k1 x0 x1 x2=T (D.le 0 x0) (T (U (V x0) (N x1)) (T (U (V x0) (N x1)) (T (D.le 0 x0) (T (U (V x0) (N x1)) (T (U (V x0) (N x1)) (T (D.le 0 (E x1 (V x0) 0)) (T (U (V (E x1 (V x0) 0)) (N x2)) (T (U (V (E x1 (V x0) 0)) (N x2)) (T (D.le 0 (E x1 (V x0) 0)) (T (U (V (E x1 (V x0) 0)) (N x2)) (T (U (V (E x1 (V x0) 0)) (N x2)) (T (D.le 0 x0) (T (U (V x0) (N x1)) (T (U (V x0) (N x1)) (T (D.lt 1 (E x1 (V x0) 0)) (T (D.le 0 x0) (T (U (V x0) (N x1)) (T (U (V x0) (N x1)) (T (D.le 0 (E x1 (V x0) 0)) (T (U (V (E x1 (V x0) 0)) (N (D.set x2 (V (E x1 (V x0) 0)) (Z .i64 (A (E x2 (V (E x1 (V x0) 0)) 0) 1))))) (T (U (V (E x1 (V x0) 0)) (N (D.set x2 (V (E x1 (V x0) 0)) (Z .i64 (A (E x2 (V (E x1 (V x0) 0)) 0) 1))))) (T (D.le 0 x0) (T (U (V x0) (N x1)) (T (U (V x0) (N x1)) (T (D.le 0 (Z .i64 (M (E x1 (V x0) 0) 1))) (T (U (V (Z .i64 (M (E x1 (V x0) 0) 1))) (N (D.set x2 (V (E x1 (V x0) 0)) (Z .i64 (A (E x2 (V (E x1 (V x0) 0)) 0) 1))))) (T (U (V (Z .i64 (M (E x1 (V x0) 0) 1))) (N (D.set x2 (V (E x1 (V x0) 0)) (Z .i64 (A (E x2 (V (E x1 (V x0) 0)) 0) 1))))) (T (D.lt (E (D.set x2 (V (E x1 (V x0) 0)) (Z .i64 (A (E x2 (V (E x1 (V x0) 0)) 0) 1))) (V (Z .i64 (M (E x1 (V x0) 0) 1))) 0) (E (D.set x2 (V (E x1 (V x0) 0)) (Z .i64 (A (E x2 (V (E x1 (V x0) 0)) 0) 1))) (V (E x1 (V x0) 0)) 0)) (some false) (aN.J2 k k1 x0 x1 (D.set x2 (V (E x1 (V x0) 0)) (Z .i64 (A (E x2 (V (E x1 (V x0) 0)) 0) 1))))) none) none) none) none) none) none) none) none) none) none) none) none) (aN.J2 k k1 x0 x1 (D.set x2 (V (E x1 (V x0) 0)) (Z .i64 (A (E x2 (V (E x1 (V x0) 0)) 0) 1))))) none) none) none) none) none) none) none) none) none) none) none) none) none) none) none:=(jn _ _).trans (by kernel_rfl)
theorem aN.lf(k k1:Nat)(x0 x1 x2):aN.J2 k k1 x0 x1 x2=aN.L0 k k1 (Z .i64 (M x0 1)) x1 x2:=(jn _ _).trans (by kernel_rfl)
def gW(k:Nat)(a0:LI)(a1:Int):Option Bool:=call k 135 (a0,a1)
theorem gW.eq(k:Nat)(a0 a1):gW (k+1) a0 a1=B (aU k a0) fun r0=>T r0 (B (fA k a1 1 8) fun r1=>some r1) (some false):=by kernel_rfl
def c29:Code:=cB (cB (cB (cU P 136)))
def c30:Code:=cC (cC (cB (cA c29)))
def K31(k:Nat):cW (den (resTy P 136)):=bM 0 (JK k 136 (cB c29) (R0 136))
def c32:Code:=cB (cB c30)
def K33(k k1:Nat):cW (den (resTy P 136)):=LK k 136 c30 k1 (K31 k)
def aC(k:Nat)(a0:LI)(a1:Int):Option ((LI)×(LI)):=call k 136 (a0,a1)
def aC.L0(k j:Nat)(x0 x1:Int)(x2 x3 x4:LI):Option ((LI)×(LI)):=LL k 136 c30 j (K31 k) [frm 59 [(0,Sl 0),(1,In x0),(6,Sl 1),(7,Sl 2),(8,In x1)]] [Ro x2,Rw x3,Rw x4]
def aC.J1(k k1:Nat)(x0 x1:Int)(x2 x3 x4:LI):Option ((LI)×(LI)):=JJ k 136 c32 (K33 k k1) [frm 59 [(0,Sl 0),(1,In x0),(6,Sl 1),(7,Sl 2),(8,In x1)]] [Ro x2,Rw x3,Rw x4]
def aC.J2(k k1:Nat)(x0:Int)(x1 x2:Nat)(x3:Int)(x4 x5 x6:LI):Option ((LI)×(LI)):=JJ k 136 c32 (K33 k k1) [frm 59 [(0,Sl 0),(1,In x0),(6,Sl 1),(7,.sl 2 [] (Option.some (x1,x2))),(8,In x3)]] [Ro x4,Rw x5,Rw x6]
def aC.L3(k j:Nat)(x0:Int)(x1 x2:Nat)(x3:Int)(x4 x5 x6:LI):Option ((LI)×(LI)):=LL k 136 c30 j (K31 k) [frm 59 [(0,Sl 0),(1,In x0),(6,Sl 1),(7,.sl 2 [] (Option.some (x1,x2))),(8,In x3)]] [Ro x4,Rw x5,Rw x6]
theorem aC.eq(k:Nat)(a0 a1):aC (k+1) a0 a1=aC.L0 k k a1 0 a0 ([]:LI) ([]:LI):=by kernel_rfl
theorem aC.bw(k j:Nat)(x0 x1 x2 x3 x4):aC.L0 k (j+1) x0 x1 x2 x3 x4=T (D.lt x1 (O (N x2))) (T (D.le 0 x1) (T (U (V x1) (N x2)) (T (U (V x1) (N x2)) (T (D.eq (E x2 (V x1) 0) (Z .i64 (A x0 1))) (T (D.leN (N (D.app x4 (x1::([]:LI)))) 1099511627776) (aC.J1 k j x0 x1 x2 x3 (D.app x4 (x1::([]:LI)))) none) (T (D.le 0 x1) (T (U (V x1) (N x2)) (T (U (V x1) (N x2)) (T (D.eq (E x2 (V x1) 0) x0) (T (D.lt 0 (O (N x4))) (T (D.le 0 (Z .i64 (M (O (N x4)) 1))) (T (D.leN (V (Z .i64 (M (O (N x4)) 1))) (N x4)) (aC.J2 k j x0 0 (D.subN (V (Z .i64 (M (O (N x4)) 1))) 0) x1 x2 x3 x4) none) none) (T (D.le 0 x1) (T (U (V x1) (N x2)) (T (U (V x1) (N x2)) (T (D.eq (E x2 (V x1) 0) x0) (T (D.leN (N (D.app x3 (x1::([]:LI)))) 1099511627776) (aC.J1 k j x0 x1 x2 (D.app x3 (x1::([]:LI))) x4) none) (aC.J1 k j x0 x1 x2 x3 x4)) none) none) none)) (T (D.le 0 x1) (T (U (V x1) (N x2)) (T (U (V x1) (N x2)) (T (D.eq (E x2 (V x1) 0) x0) (T (D.leN (N (D.app x3 (x1::([]:LI)))) 1099511627776) (aC.J1 k j x0 x1 x2 (D.app x3 (x1::([]:LI))) x4) none) (aC.J1 k j x0 x1 x2 x3 x4)) none) none) none)) none) none) none)) none) none) none) (some (x3,x4)):=(jn _ _).trans (by kernel_rfl)
theorem aC.gw(k k1:Nat)(x0 x1 x2 x3 x4):aC.J1 k k1 x0 x1 x2 x3 x4=aC.L0 k k1 x0 (Z .i64 (A x1 1)) x2 x3 x4:=(jn _ _).trans (by kernel_rfl)
theorem aC.lf(k k1:Nat)(x0 x1 x2 x3 x4 x5 x6):aC.J2 k k1 x0 x1 x2 x3 x4 x5 x6=aC.L3 k k1 x0 x1 x2 (Z .i64 (A x3 1)) x4 x5 x6:=(jn _ _).trans (by kernel_rfl)
theorem aC.EU(k j:Nat)(x0 x1 x2 x3 x4 x5 x6):aC.L3 k (j+1) x0 x1 x2 x3 x4 x5 x6=T (D.lt x3 (O (N x4))) (T (D.le 0 x3) (T (U (V x3) (N x4)) (T (U (V x3) (N x4)) (T (D.eq (E x4 (V x3) 0) (Z .i64 (A x0 1))) (T (D.leN (N (D.app (D.take x2 (D.drop x1 x6)) (x3::([]:LI)))) 1099511627776) (aC.J1 k j x0 x3 x4 x5 (D.app (D.take x2 (D.drop x1 x6)) (x3::([]:LI)))) none) (T (D.le 0 x3) (T (U (V x3) (N x4)) (T (U (V x3) (N x4)) (T (D.eq (E x4 (V x3) 0) x0) (T (D.lt 0 (O x2)) (T (D.le 0 (Z .i64 (M (O x2) 1))) (T (D.leN (V (Z .i64 (M (O x2) 1))) x2) (aC.J2 k j x0 (D.addN x1 0) (D.subN (V (Z .i64 (M (O x2) 1))) 0) x3 x4 x5 x6) none) none) (T (D.le 0 x3) (T (U (V x3) (N x4)) (T (U (V x3) (N x4)) (T (D.eq (E x4 (V x3) 0) x0) (T (D.leN (N (D.app x5 (x3::([]:LI)))) 1099511627776) (aC.J2 k j x0 x1 x2 x3 x4 (D.app x5 (x3::([]:LI))) x6) none) (aC.J2 k j x0 x1 x2 x3 x4 x5 x6)) none) none) none)) (T (D.le 0 x3) (T (U (V x3) (N x4)) (T (U (V x3) (N x4)) (T (D.eq (E x4 (V x3) 0) x0) (T (D.leN (N (D.app x5 (x3::([]:LI)))) 1099511627776) (aC.J2 k j x0 x1 x2 x3 x4 (D.app x5 (x3::([]:LI))) x6) none) (aC.J2 k j x0 x1 x2 x3 x4 x5 x6)) none) none) none)) none) none) none)) none) none) none) (some (x5,(D.take x2 (D.drop x1 x6)))):=(jn _ _).trans (by kernel_rfl)
def fC(k:Nat)(a0:LI)(a1:Int):Option ((LI)×Bool):=call k 94 (a0,a1)
theorem fC.eq(k:Nat)(a0 a1):fC (k+1) a0 a1=B (gW k a0 a1) fun r0=>T (D.no r0) (some (([]:LI),false)) (B (aC k a0 a1) fun r1=>T (D.eq (O (N r1.2)) 0) (some (([]:LI),false)) (T (D.leN (N (D.app ([]:LI) a0)) 1099511627776) (T (D.le 0 0) (T (U (V 0) (N r1.2)) (T (U (V 0) (N r1.2)) (T (D.le 0 (E r1.2 (V 0) 0)) (T (U (V (E r1.2 (V 0) 0)) (N (D.app ([]:LI) a0))) (T (U (V (E r1.2 (V 0) 0)) (N (D.app ([]:LI) a0))) (some ((D.set (D.app ([]:LI) a0) (V (E r1.2 (V 0) 0)) a1),true)) none) none) none) none) none) none) none)):=by kernel_rfl
def c34:Code:=cB (cB (cB (cU P 52)))
def bY(k:Nat)(a0:LI):Option ((LI)×Bool):=call k 52 a0
def bY.L0(k j:Nat)(x0:Int)(x1:LI):Option ((LI)×Bool):=LL k 52 (cC (cC (cB (cA c34)))) j (bM 0 (JK k 52 (cB c34) (R0 52))) [frm 28 [(4,Sl 0),(5,In x0)]] [Rw x1]
theorem bY.eq(k:Nat)(a0):bY (k+1) a0=B (aU k a0) fun r0=>T (D.no r0) (some (([]:LI),false)) (T (D.leN (N (D.app ([]:LI) a0)) 1099511627776) (bY.L0 k k 1 (D.app ([]:LI) a0)) none):=by kernel_rfl
theorem bY.bw(k j:Nat)(x0 x1):bY.L0 k (j+1) x0 x1=T (D.lt x0 9) (B (fC k x1 x0) fun r1=>T r1.2 (bY.L0 k j 1 r1.1) (bY.L0 k j (Z .i64 (A x0 1)) x1)) (some (x1,true)):=(jn _ _).trans (by kernel_rfl)
def c35:Code:=cB (cB (cU P 98))
def c36:Code:=cC (cC (cB (cA c35)))
def K37(k:Nat):cW (den (resTy P 98)):=bM 0 (JK k 98 (cB c35) (R0 98))
def c38:Code:=cB c36
def aG(k:Nat)(a0:LI):Option Bool:=call k 98 a0
def aG.L0(k j:Nat)(x0 x1:Int)(x2:LI):Option Bool:=LL k 98 c36 j (K37 k) [frm 41 [(0,Sl 0),(3,In x0),(4,In x1)]] [Ro x2]
def aG.J1(k k1:Nat)(x0 x1:Int)(x2:LI):Option Bool:=JJ k 98 (cB (cC (cA c38))) (bM 1 (JK k 98 (cB c38) (LK k 98 c36 k1 (K37 k)))) [frm 41 [(0,Sl 0),(3,In x0),(4,In x1)]] [Ro x2]
theorem aG.eq(k:Nat)(a0):aG (k+1) a0=aG.L0 k k 0 0 a0:=by kernel_rfl
theorem aG.bw(k j:Nat)(x0 x1 x2):aG.L0 k (j+1) x0 x1 x2=T (D.lt x1 (O (N x2))) (T (D.le 0 x1) (T (U (V x1) (N x2)) (T (U (V x1) (N x2)) (B (fA k (E x2 (V x1) 0) 1 9) fun r0=>T (D.no r0) (some false) (T (D.lt 0 x1) (T (D.le 0 x1) (T (U (V x1) (N x2)) (T (U (V x1) (N x2)) (T (D.le 0 (Z .i64 (M x1 1))) (T (U (V (Z .i64 (M x1 1))) (N x2)) (T (U (V (Z .i64 (M x1 1))) (N x2)) (T (D.lt (E x2 (V (Z .i64 (M x1 1))) 0) (E x2 (V x1) 0)) (some false) (aG.J1 k j x0 x1 x2)) none) none) none) none) none) none) (aG.J1 k j x0 x1 x2))) none) none) none) (some true):=(jn _ _).trans (by kernel_rfl)
theorem aG.gw(k k1:Nat)(x0 x1 x2):aG.J1 k k1 x0 x1 x2=T (D.le 0 x1) (T (U (V x1) (N x2)) (T (U (V x1) (N x2)) (T (D.lt 9 (Z .i64 (A x0 (E x2 (V x1) 0)))) (some false) (aG.L0 k k1 (Z .i64 (A x0 (E x2 (V x1) 0))) (Z .i64 (A x1 1)) x2)) none) none) none:=(jn _ _).trans (by kernel_rfl)
def dB(k:Nat)(a0:LI)(a1:Int):Option Int:=call k 96 (a0,a1)
def dB.J0(k:Nat)(x0:Int)(x1:LI):Option Int:=JJ k 96 (cB (cB (cU P 96))) (R0 96) [frm 17 [(0,Sl 0),(1,In x0)]] [Ro x1]
theorem dB.eq(k:Nat)(a0 a1):dB (k+1) a0 a1=T (D.lt a1 0) (some 0) (T (D.le (O (N a0)) a1) (some 0) (dB.J0 k a1 a0)):=by kernel_rfl
theorem dB.kP(k:Nat)(x0 x1):dB.J0 k x0 x1=T (D.le 0 x0) (T (U (V x0) (N x1)) (T (U (V x0) (N x1)) (some (E x1 (V x0) 0)) none) none) none:=(jn _ _).trans (by kernel_rfl)
def c39:Code:=cB (cB (cU P 103))
def bG(k:Nat)(a0 a1:LI):Option Bool:=call k 103 (a0,a1)
def bG.J0(k:Nat)(x0 x1:LI):Option Bool:=JJ k 103 c39 (R0 103) [frm 36 [(0,Sl 0),(1,Sl 1)]] [Ro x0,Ro x1]
def bG.L1(k j:Nat)(x0:Int)(x1 x2:LI):Option Bool:=LL k 103 (cC (cC (cB (cA c39)))) j (bM 0 (JK k 103 (cB c39) (R0 103))) [frm 36 [(0,Sl 0),(1,Sl 1),(5,In x0)]] [Ro x1,Ro x2]
theorem bG.eq(k:Nat)(a0 a1):bG (k+1) a0 a1=B (aG k a0) fun r0=>T (D.no r0) (some false) (B (aG k a1) fun r1=>T (D.no r1) (some false) (T (D.lt (O (N a1)) (O (N a0))) (some false) (bG.J0 k a0 a1))):=by kernel_rfl
theorem bG.kP(k:Nat)(x0 x1):bG.J0 k x0 x1=bG.L1 k k 0 x0 x1:=(jn _ _).trans (by kernel_rfl)
theorem bG.fx(k j:Nat)(x0 x1 x2):bG.L1 k (j+1) x0 x1 x2=T (D.lt x0 (O (N x1))) (T (D.le 0 x0) (T (U (V x0) (N x1)) (T (U (V x0) (N x1)) (T (D.le 0 x0) (T (U (V x0) (N x2)) (T (U (V x0) (N x2)) (T (D.lt (E x2 (V x0) 0) (E x1 (V x0) 0)) (some false) (bG.L1 k j (Z .i64 (A x0 1)) x1 x2)) none) none) none) none) none) none) (some true):=(jn _ _).trans (by kernel_rfl)
def gQ(k:Nat)(a0:(LI)×(LI)):Option Bool:=call k 60 a0
theorem gQ.eq(k:Nat)(a0):gQ (k+1) a0=B (bG k a0.2 a0.1) fun r0=>some r0:=by kernel_rfl
def c40:Code:=cB (cB (cB (cU P 101)))
def bI(k:Nat)(a0:(LI)×(LJ)):Option (((LI)×(LI))×Bool):=call k 101 a0
def bI.J0(k:Nat)(x0:LI)(x1:LJ)(x2 x3 x4 x5:LI):Option (((LI)×(LI))×Bool):=JJ k 101 c40 (R0 101) [frm 59 [(1,.pv 0 0),(2,.pv 1 0),(4,.pv 2 0)]] [.var [Sl 3,Sl 4],.var [Sl 5,Sl 6],.var [Sl 7,Sl 8],Ro x0,Roo x1,Rw x2,Rw x3,Rw x4,Rw x5]
def bI.L1(k j:Nat)(x0:Int)(x1:LI)(x2:LJ)(x3 x4 x5 x6:LI):Option (((LI)×(LI))×Bool):=LL k 101 (cC (cC (cB (cA c40)))) j (bM 0 (JK k 101 (cB c40) (R0 101))) [frm 59 [(1,.pv 0 0),(2,.pv 1 0),(4,.pv 2 0),(5,In x0)]] [.var [Sl 3,Sl 4],.var [Sl 5,Sl 6],.var [Sl 7,Sl 8],Ro x1,Roo x2,Rw x3,Rw x4,Rw x5,Rw x6]
theorem bI.eq(k:Nat)(a0):bI (k+1) a0=T (D.leN (N (D.app ([]:LI) a0.1)) 1099511627776) (B (aG k a0.1) fun r0=>T (D.no r0) (some ((([]:LI),([]:LI)),false)) (T (D.lt (O (N a0.2)) (O (N a0.1))) (some ((([]:LI),([]:LI)),false)) (T (D.lt 9 (O (N a0.2))) (some ((([]:LI),([]:LI)),false)) (bI.J0 k a0.1 a0.2 ([]:LI) ([]:LI) ([]:LI) (D.app ([]:LI) a0.1))))) none:=by kernel_rfl
theorem bI.kP(k:Nat)(x0 x1 x2 x3 x4 x5):bI.J0 k x0 x1 x2 x3 x4 x5=bI.L1 k k 0 x0 x1 x2 x3 x4 x5:=(jn _ _).trans (by kernel_rfl)
theorem bI.fx(k j:Nat)(x0 x1 x2 x3 x4 x5 x6):bI.L1 k (j+1) x0 x1 x2 x3 x4 x5 x6=T (D.lt x0 (O (N x2))) (B (dB k x1 x0) fun r1=>T (D.le 0 x0) (T (U (V x0) (N x2)) (T (U (V x0) (N x2)) (T (U (V x0) (N x2)) (T (D.leN (N (D.app x5 ((Z .i64 (A r1 (O (N (E x2 (V x0) [])))))::([]:LI)))) 1099511627776) (bI.L1 k j (Z .i64 (A x0 1)) x1 x2 x3 x4 (D.app x5 ((Z .i64 (A r1 (O (N (E x2 (V x0) [])))))::([]:LI))) x6) none) none) none) none) none) (B (gQ k (x5,x6)) fun r2=>T (D.no r2) (some ((([]:LI),([]:LI)),false)) (some ((x5,x6),true))):=(jn _ _).trans (by kernel_rfl)
def c41:Code:=cB (cB (cU P 137))
def cm(k:Nat)(a0:(LI)×(LJ))(a1 a2:Int):Option Int:=call k 137 (a0,a1,a2)
def cm.J0(k:Nat)(x0 x1:Int)(x2:LI)(x3:LJ):Option Int:=JJ k 137 c41 (R0 137) [frm 43 [(1,In x0),(2,In x1),(3,.pv 0 0)]] [.var [Sl 1,Sl 2],Ro x2,Roo x3]
def cm.J1(k:Nat)(x0 x1:Int)(x2:LI)(x3:LJ):Option Int:=JJ k 137 (cB (cB c41)) (R0 137) [frm 43 [(1,In x0),(3,.pv 0 0),(7,In x1)]] [.var [Sl 1,Sl 2],Ro x2,Roo x3]
theorem cm.eq(k:Nat)(a0 a1 a2):cm (k+1) a0 a1 a2=T (D.lt a1 0) (some 0) (T (D.le (O (N a0.2)) a1) (some 0) (cm.J0 k a1 a2 a0.1 a0.2)):=by kernel_rfl
theorem cm.kP(k:Nat)(x0 x1 x2 x3):cm.J0 k x0 x1 x2 x3=B (dB k x2 x0) fun r0=>T (D.lt (Z .i64 (M x1 r0)) 0) (some 0) (T (D.le 0 x0) (T (U (V x0) (N x3)) (T (U (V x0) (N x3)) (T (U (V x0) (N x3)) (T (D.le (O (N (E x3 (V x0) []))) (Z .i64 (M x1 r0))) (some 0) (cm.J1 k x0 (Z .i64 (M x1 r0)) x2 x3)) none) none) none) none):=(jn _ _).trans (by kernel_rfl)
theorem cm.gw(k:Nat)(x0 x1 x2 x3):cm.J1 k x0 x1 x2 x3=T (D.le 0 x0) (T (U (V x0) (N x3)) (T (U (V x0) (N x3)) (T (U (V x0) (N x3)) (T (D.le 0 x1) (T (U (V x1) (N (E x3 (V x0) []))) (T (U (V x0) (N x3)) (T (U (V x1) (N (E x3 (V x0) []))) (some (E (E x3 (V x0) []) (V x1) 0)) none) none) none) none) none) none) none) none:=(jn _ _).trans (by kernel_rfl)
def c42:Code:=cB (cB (cB (cU P 95)))
def c43:Code:=cC (cC (cB (cA c42)))
def K44(k:Nat):cW (den (resTy P 95)):=bM 0 (JK k 95 (cB c42) (R0 95))
def c45:Code:=cB c43
def c46:Code:=cC (cC (cB (cC (cA c45))))
def K47(k k1:Nat):cW (den (resTy P 95)):=bM 2 (bM 1 (JK k 95 (cB c45) (LK k 95 c43 k1 (K44 k))))
def c48:Code:=cB c46
def c49:Code:=cB c48
def K50(k k1 k2:Nat):cW (den (resTy P 95)):=LK k 95 c46 k2 (K47 k k1)
def az(k:Nat)(a0:(LI)×(LJ)):Option Bool:=call k 95 a0
def az.L0(k j:Nat)(x0:Int)(x1:LI)(x2:LJ)(x3 x4:LI):Option Bool:=LL k 95 c43 j (K44 k) [frm 64 [(1,.pv 0 0),(3,.pv 1 0),(5,In x0)]] [.var [Sl 2,Sl 3],.var [Sl 4,Sl 5],Ro x1,Roo x2,Rw x3,Rw x4]
def az.L1(k k1 j:Nat)(x0 x1:Int)(x2:LI)(x3:LJ)(x4 x5:LI):Option Bool:=LL k 95 c46 j (K47 k k1) [frm 64 [(1,.pv 0 0),(3,.pv 1 0),(5,In x0),(6,In x1)]] [.var [Sl 2,Sl 3],.var [Sl 4,Sl 5],Ro x2,Roo x3,Rw x4,Rw x5]
def az.J2(k k1 k2:Nat)(x0 x1 x2 x3:Int)(x4:LI)(x5:LJ)(x6 x7:LI):Option Bool:=JJ k 95 (cB (cB (cB (cC (cA c48))))) (bM 3 (JK k 95 c49 (K50 k k1 k2))) [frm 64 [(1,.pv 0 0),(3,.pv 1 0),(5,In x0),(6,In x1),(7,In x2),(8,In x3)]] [.var [Sl 2,Sl 3],.var [Sl 4,Sl 5],Ro x4,Roo x5,Rw x6,Rw x7]
def az.J3(k k1 k2:Nat)(x0 x1:Int)(x2:LI)(x3:LJ)(x4 x5:LI):Option Bool:=JJ k 95 c49 (K50 k k1 k2) [frm 64 [(1,.pv 0 0),(3,.pv 1 0),(5,In x0),(6,In x1)]] [.var [Sl 2,Sl 3],.var [Sl 4,Sl 5],Ro x2,Roo x3,Rw x4,Rw x5]
theorem az.eq(k:Nat)(a0):az (k+1) a0=B (bI k (a0.1,a0.2)) fun r0=>T (D.no r0.2) (some false) (az.L0 k k 0 a0.1 a0.2 r0.1.1 r0.1.2):=by kernel_rfl
theorem az.bw(k j:Nat)(x0 x1 x2 x3 x4):az.L0 k (j+1) x0 x1 x2 x3 x4=T (D.lt x0 (O (N x3))) (B (dB k x4 x0) fun r1=>az.L1 k j k x0 r1 x1 x2 x3 x4) (some true):=(jn _ _).trans (by kernel_rfl)
theorem az.fx(k k1 j:Nat)(x0 x1 x2 x3 x4 x5):az.L1 k k1 (j+1) x0 x1 x2 x3 x4 x5=T (D.le 0 x0) (T (U (V x0) (N x4)) (T (U (V x0) (N x4)) (T (D.lt x1 (E x4 (V x0) 0)) (B (cm k (x2,x3) x0 x1) fun r2=>T (D.lt 0 x1) (B (cm k (x2,x3) x0 (Z .i64 (M x1 1))) fun r3=>az.J2 k k1 j x0 x1 r2 r3 x2 x3 x4 x5) (az.J2 k k1 j x0 x1 r2 0 x2 x3 x4 x5)) (az.L0 k k1 (Z .i64 (A x0 1)) x2 x3 x4 x5)) none) none) none:=(jn _ _).trans (by kernel_rfl)
theorem az.lf(k k1 k2:Nat)(x0 x1 x2 x3 x4 x5 x6 x7):az.J2 k k1 k2 x0 x1 x2 x3 x4 x5 x6 x7=B (fA k x2 1 9) fun r4=>T (D.no r4) (some false) (T (D.lt x2 x3) (some false) (B (cm k (x4,x5) (Z .i64 (M x0 1)) x1) fun r5=>T (D.le x2 r5) (some false) (az.J3 k k1 k2 x0 x1 x4 x5 x6 x7))):=(jn _ _).trans (by kernel_rfl)
theorem az.yK(k k1 k2:Nat)(x0 x1 x2 x3 x4 x5):az.J3 k k1 k2 x0 x1 x2 x3 x4 x5=az.L1 k k1 k2 x0 (Z .i64 (A x1 1)) x2 x3 x4 x5:=(jn _ _).trans (by kernel_rfl)
def c51:Code:=cB (cB (cU P 97))
def c52:Code:=cC (cC (cB (cA c51)))
def K53(k:Nat):cW (den (resTy P 97)):=bM 0 (JK k 97 (cB c51) (R0 97))
def c54:Code:=cB c52
def cx(k:Nat)(a0:List ByteArray)(a1:ByteArray):Option ByteArray:=call k 97 (a0,a1)
def cx.L0(k j:Nat)(x0:ByteArray)(x1:Int)(x2:List ByteArray)(x3:LI):Option ByteArray:=LL k 97 c52 j (K53 k) [frm 27 [(0,Sl 0),(1,.str x0),(5,Sl 1),(6,In x1)]] [.row Bool.false .str x2,.row Bool.true (.int .u8) x3]
def cx.J1(k k1:Nat)(x0:ByteArray)(x1:Int)(x2:List ByteArray)(x3:LI):Option ByteArray:=JJ k 97 (cB (cC (cA c54))) (bM 1 (JK k 97 (cB c54) (LK k 97 c52 k1 (K53 k)))) [frm 27 [(0,Sl 0),(1,.str x0),(5,Sl 1),(6,In x1)]] [.row Bool.false .str x2,.row Bool.true (.int .u8) x3]
theorem cx.eq(k:Nat)(a0 a1):cx (k+1) a0 a1=cx.L0 k k a1 0 a0 ([]:LI):=by kernel_rfl
theorem cx.bw(k j:Nat)(x0 x1 x2 x3):cx.L0 k (j+1) x0 x1 x2 x3=T (D.lt x1 (O (N x2))) (T (D.lt 0 x1) (T (D.leN (N (D.app x3 (D.ints x0))) 1099511627776) (cx.J1 k j x0 x1 x2 (D.app x3 (D.ints x0))) none) (cx.J1 k j x0 x1 x2 x3)) (some (D.ofInts x3)):=(jn _ _).trans (by kernel_rfl)
theorem cx.gw(k k1:Nat)(x0 x1 x2 x3):cx.J1 k k1 x0 x1 x2 x3=T (D.le 0 x1) (T (U (V x1) (N x2)) (T (U (V x1) (N x2)) (T (D.leN (N (D.app x3 (D.ints (E x2 (V x1) (⟨#[]⟩:ByteArray))))) 1099511627776) (cx.L0 k k1 x0 (Z .i64 (A x1 1)) x2 (D.app x3 (D.ints (E x2 (V x1) (⟨#[]⟩:ByteArray))))) none) none) none) none:=(jn _ _).trans (by kernel_rfl)
def c55:Code:=cB (cB (cB (cB (cU P 53))))
def c56:Code:=cC (cC (cB (cA c55)))
def K57(k:Nat):cW (den (resTy P 53)):=bM 0 (JK k 53 (cB c55) (R0 53))
def c58:Code:=cB c56
def c59:Code:=cB (cC (cA c58))
def c60:Code:=cB c59
def K61(k k1:Nat):cW (den (resTy P 53)):=bM 1 (JK k 53 (cB c58) (LK k 53 c56 k1 (K57 k)))
def ao(k:Nat)(a0:(LI)×(LJ)):Option ByteArray:=call k 53 a0
def ao.L0(k j:Nat)(x0:Int)(x1:List ByteArray)(x2:LI)(x3:LJ):Option ByteArray:=LL k 53 c56 j (K57 k) [frm 60 [(1,.pv 0 0),(3,Sl 1),(4,In x0)]] [.var [Sl 2,Sl 3],.row Bool.true .str x1,Ro x2,Roo x3]
def ao.L1(k k1 j:Nat)(x0:Int)(x1:ByteArray)(x2:Int)(x3:List ByteArray)(x4:LI)(x5:LJ):Option ByteArray:=LL k 53 (cC (cC (cB (cA c59)))) j (bM 2 (JK k 53 c60 (K61 k k1))) [frm 60 [(1,.pv 0 0),(3,Sl 1),(4,In x0),(5,.str x1),(6,In x2)]] [.var [Sl 2,Sl 3],.row Bool.true .str x3,Ro x4,Roo x5]
def ao.L2(k k1 j:Nat)(x0:Int)(x1:ByteArray)(x2:Int)(x3:List ByteArray)(x4:LI)(x5:LJ):Option ByteArray:=LL k 53 (cC (cC (cB (cA c60)))) j (bM 4 (JK k 53 (cB c60) (K61 k k1))) [frm 60 [(1,.pv 0 0),(3,Sl 1),(4,In x0),(5,.str x1),(7,In x2)]] [.var [Sl 2,Sl 3],.row Bool.true .str x3,Ro x4,Roo x5]
theorem ao.eq(k:Nat)(a0):ao (k+1) a0=B (az k (a0.1,a0.2)) fun r0=>T (D.no r0) (some (⟨#[]⟩:ByteArray)) (T (D.eq (O (N a0.2)) 0) (some (⟨#[45]⟩:ByteArray)) (ao.L0 k k 0 ([]:List ByteArray) a0.1 a0.2)):=by kernel_rfl
theorem ao.bw(k j:Nat)(x0 x1 x2 x3):ao.L0 k (j+1) x0 x1 x2 x3=T (D.lt x0 (O (N x3))) (ao.L1 k j k x0 (⟨#[]⟩:ByteArray) 0 x1 x2 x3) (B (cx k x1 (⟨#[47]⟩:ByteArray)) fun r1=>some r1):=(jn _ _).trans (by kernel_rfl)
theorem ao.fx(k k1 j:Nat)(x0 x1 x2 x3 x4 x5):ao.L1 k k1 (j+1) x0 x1 x2 x3 x4 x5=B (dB k x4 x0) fun r2=>T (D.lt x2 r2) (T (D.leN (D.addN (D.lenS x1) (D.lenS (⟨#[46]⟩:ByteArray))) 1099511627776) (ao.L1 k k1 j x0 (D.catS x1 (⟨#[46]⟩:ByteArray)) (Z .i64 (A x2 1)) x3 x4 x5) none) (ao.L2 k k1 k x0 x1 0 x3 x4 x5):=(jn _ _).trans (by kernel_rfl)
theorem ao.EM(k k1 j:Nat)(x0 x1 x2 x3 x4 x5):ao.L2 k k1 (j+1) x0 x1 x2 x3 x4 x5=T (D.le 0 x0) (T (U (V x0) (N x5)) (T (U (V x0) (N x5)) (T (U (V x0) (N x5)) (T (D.lt x2 (O (N (E x5 (V x0) [])))) (T (D.le 0 x0) (T (U (V x0) (N x5)) (T (U (V x0) (N x5)) (T (U (V x0) (N x5)) (T (D.le 0 x2) (T (U (V x2) (N (E x5 (V x0) []))) (T (U (V x0) (N x5)) (T (U (V x2) (N (E x5 (V x0) []))) (B (aO k (E (E x5 (V x0) []) (V x2) 0)) fun r3=>T (D.leN (D.addN (D.lenS x1) (D.lenS r3)) 1099511627776) (ao.L2 k k1 j x0 (D.catS x1 r3) (Z .i64 (A x2 1)) x3 x4 x5) none) none) none) none) none) none) none) none) none) (T (D.leN (N (D.app x3 (x1::([]:List ByteArray)))) 1099511627776) (ao.L0 k k1 (Z .i64 (A x0 1)) (D.app x3 (x1::([]:List ByteArray))) x4 x5) none)) none) none) none) none:=(jn _ _).trans (by kernel_rfl)
def fe(k:Nat)(a0:LI):Option (((LI)×(LJ))×Bool):=call k 100 a0
theorem fe.eq(k:Nat)(a0):fe (k+1) a0=B (aU k a0) fun r0=>T (D.no r0) (some ((([]:LI),([]:LJ)),false)) (B (bu k a0) fun r1=>some ((r1.1.1,r1.1.2),true)):=by kernel_rfl
def eE(k:Nat)(a0:LI):Option LI:=call k 55 a0
theorem eE.eq(k:Nat)(a0):eE (k+1) a0=B (fe k a0) fun r0=>T (D.no r0.2) (some ([]:LI)) (B (bI k (r0.1.1,r0.1.2)) fun r1=>T (D.leN (N (D.app ([]:LI) r1.1.1)) 1099511627776) (some (D.app ([]:LI) r1.1.1)) none):=by kernel_rfl
def c62:Code:=cB (cB (cU P 99))
def cp(k:Nat)(a0:LI):Option ByteArray:=call k 99 a0
def cp.L0(k j:Nat)(x0:Int)(x1:LI)(x2:List ByteArray):Option ByteArray:=LL k 99 (cC (cC (cB (cA c62)))) j (bM 0 (JK k 99 (cB c62) (R0 99))) [frm 22 [(0,Sl 0),(3,Sl 1),(4,In x0)]] [Ro x1,.row Bool.true .str x2]
theorem cp.eq(k:Nat)(a0):cp (k+1) a0=cp.L0 k k 0 a0 ([]:List ByteArray):=by kernel_rfl
theorem cp.bw(k j:Nat)(x0 x1 x2):cp.L0 k (j+1) x0 x1 x2=T (D.lt x0 (O (N x1))) (T (D.le 0 x0) (T (U (V x0) (N x1)) (T (U (V x0) (N x1)) (B (aO k (E x1 (V x0) 0)) fun r0=>T (D.leN (N (D.app x2 (r0::([]:List ByteArray)))) 1099511627776) (cp.L0 k j (Z .i64 (A x0 1)) x1 (D.app x2 (r0::([]:List ByteArray)))) none) none) none) none) (B (cx k x2 (⟨#[44]⟩:ByteArray)) fun r1=>some r1):=(jn _ _).trans (by kernel_rfl)
def dU(k:Nat)(a0:LI):Option ByteArray:=call k 54 a0
theorem dU.eq(k:Nat)(a0):dU (k+1) a0=B (aG k a0) fun r0=>T (D.no r0) (some (⟨#[]⟩:ByteArray)) (T (D.eq (O (N a0)) 0) (some (⟨#[45]⟩:ByteArray)) (B (cp k a0) fun r1=>some r1)):=by kernel_rfl
def gY(k:Nat)(a0:Bool):Option Int:=call k 102 a0
theorem gY.eq(k:Nat)(a0):gY (k+1) a0=T a0 (some 1) (some 0):=by kernel_rfl
def c63:Code:=cB (cB (cB (cU P 57)))
def c64:Code:=cC (cC (cB (cA c63)))
def K65(k:Nat):cW (den (resTy P 57)):=bM 0 (JK k 57 (cB c63) (R0 57))
def c66:Code:=cB c64
def ay(k:Nat)(a0:LI):Option Int:=call k 57 a0
def ay.L0(k j:Nat)(x0 x1:Int)(x2:LI):Option Int:=LL k 57 c64 j (K65 k) [frm 33 [(0,Sl 0),(3,In x0),(4,In x1)]] [Ro x2]
def ay.L1(k k1 j:Nat)(x0 x1 x2:Int)(x3:LI):Option Int:=LL k 57 (cC (cC (cB (cC (cA c66))))) j (bM 2 (bM 1 (JK k 57 (cB c66) (LK k 57 c64 k1 (K65 k))))) [frm 33 [(0,Sl 0),(3,In x0),(4,In x1),(5,In x2)]] [Ro x3]
theorem ay.eq(k:Nat)(a0):ay (k+1) a0=B (aU k a0) fun r0=>T (D.no r0) (some (-1)) (ay.L0 k k 0 1 a0):=by kernel_rfl
theorem ay.bw(k j:Nat)(x0 x1 x2):ay.L0 k (j+1) x0 x1 x2=T (D.lt x1 (O (N x2))) (ay.L1 k j k x0 x1 0 x2) (some x0):=(jn _ _).trans (by kernel_rfl)
theorem ay.fx(k k1 j:Nat)(x0 x1 x2 x3):ay.L1 k k1 (j+1) x0 x1 x2 x3=T (D.lt x2 x1) (T (D.le 0 x2) (T (U (V x2) (N x3)) (T (U (V x2) (N x3)) (T (D.le 0 x1) (T (U (V x1) (N x3)) (T (U (V x1) (N x3)) (B (gY k (D.lt (E x3 (V x1) 0) (E x3 (V x2) 0))) fun r1=>ay.L1 k k1 j (Z .i64 (A x0 r1)) x1 (Z .i64 (A x2 1)) x3) none) none) none) none) none) none) (ay.L0 k k1 x0 (Z .i64 (A x1 1)) x3):=(jn _ _).trans (by kernel_rfl)
def c67:Code:=cB (cB (cB (cU P 58)))
def bH(k:Nat)(a0:LI):Option Int:=call k 58 a0
def bH.L0(k j:Nat)(x0 x1:Int)(x2:LI):Option Int:=LL k 58 (cC (cC (cB (cA c67)))) j (bM 0 (JK k 58 (cB c67) (R0 58))) [frm 30 [(0,Sl 0),(3,In x0),(4,In x1)]] [Ro x2]
theorem bH.eq(k:Nat)(a0):bH (k+1) a0=B (aU k a0) fun r0=>T (D.no r0) (some (-1)) (bH.L0 k k 0 1 a0):=by kernel_rfl
theorem bH.bw(k j:Nat)(x0 x1 x2):bH.L0 k (j+1) x0 x1 x2=T (D.lt x1 (O (N x2))) (T (D.le 0 (Z .i64 (M x1 1))) (T (U (V (Z .i64 (M x1 1))) (N x2)) (T (U (V (Z .i64 (M x1 1))) (N x2)) (T (D.le 0 x1) (T (U (V x1) (N x2)) (T (U (V x1) (N x2)) (B (gY k (D.lt (E x2 (V x1) 0) (E x2 (V (Z .i64 (M x1 1))) 0))) fun r1=>bH.L0 k j (Z .i64 (A x0 (Z .i64 (D.mul x1 r1)))) (Z .i64 (A x1 1)) x2) none) none) none) none) none) none) (some x0):=(jn _ _).trans (by kernel_rfl)
def bD(k:Nat)(a0:LI):Option ByteArray:=call k 16 a0
def bD.J0(k:Nat)(x0:ByteArray)(x1 x2:LI)(x3:LJ)(x4:LI)(x5:LJ):Option ByteArray:=JJ k 16 (cB (cB (cB (cB (cB (cU P 16)))))) (R0 16) [frm 52 [(0,Sl 0),(3,.pv 1 0),(4,.pv 2 0),(5,.str x0)]] [Ro x1,.var [Sl 3,Sl 4],.var [Sl 5,Sl 6],Rw x2,Rww x3,Rw x4,Rww x5]
theorem bD.eq(k:Nat)(a0):bD (k+1) a0=B (aU k a0) fun r0=>T (D.no r0) (some (⟨#[]⟩:ByteArray)) (B (bu k a0) fun r1=>B (aN k a0) fun r2=>T r2 (bD.J0 k (⟨#[108,97,116,116,105,99,101]⟩:ByteArray) a0 r1.1.1 r1.1.2 r1.2.1 r1.2.2) (bD.J0 k (⟨#[111,116,104,101,114]⟩:ByteArray) a0 r1.1.1 r1.1.2 r1.2.1 r1.2.2)):=by kernel_rfl
theorem bD.kP(k:Nat)(x0 x1 x2 x3 x4 x5):bD.J0 k x0 x1 x2 x3 x4 x5=B (bY k x1) fun r3=>B (ao k (x2,x3)) fun r4=>T (D.leN (D.addN (D.lenS (⟨#[105,110,115,101,114,116,32]⟩:ByteArray)) (D.lenS r4)) 1099511627776) (T (D.leN (D.addN (D.lenS (D.catS (⟨#[105,110,115,101,114,116,32]⟩:ByteArray) r4)) (D.lenS (⟨#[32,114,101,99,111,114,100,32]⟩:ByteArray))) 1099511627776) (B (ao k (x4,x5)) fun r5=>T (D.leN (D.addN (D.lenS (D.catS (D.catS (⟨#[105,110,115,101,114,116,32]⟩:ByteArray) r4) (⟨#[32,114,101,99,111,114,100,32]⟩:ByteArray))) (D.lenS r5)) 1099511627776) (T (D.leN (D.addN (D.lenS (D.catS (D.catS (D.catS (⟨#[105,110,115,101,114,116,32]⟩:ByteArray) r4) (⟨#[32,114,101,99,111,114,100,32]⟩:ByteArray)) r5)) (D.lenS (⟨#[32,115,104,97,112,101,32]⟩:ByteArray))) 1099511627776) (B (eE k x1) fun r6=>B (dU k r6) fun r7=>T (D.leN (D.addN (D.lenS (D.catS (D.catS (D.catS (D.catS (⟨#[105,110,115,101,114,116,32]⟩:ByteArray) r4) (⟨#[32,114,101,99,111,114,100,32]⟩:ByteArray)) r5) (⟨#[32,115,104,97,112,101,32]⟩:ByteArray))) (D.lenS r7)) 1099511627776) (T (D.leN (D.addN (D.lenS (D.catS (D.catS (D.catS (D.catS (D.catS (⟨#[105,110,115,101,114,116,32]⟩:ByteArray) r4) (⟨#[32,114,101,99,111,114,100,32]⟩:ByteArray)) r5) (⟨#[32,115,104,97,112,101,32]⟩:ByteArray)) r7)) (D.lenS (⟨#[32,105,110,118,101,114,115,105,111,110,115,32]⟩:ByteArray))) 1099511627776) (B (ay k x1) fun r8=>B (aO k r8) fun r9=>T (D.leN (D.addN (D.lenS (D.catS (D.catS (D.catS (D.catS (D.catS (D.catS (⟨#[105,110,115,101,114,116,32]⟩:ByteArray) r4) (⟨#[32,114,101,99,111,114,100,32]⟩:ByteArray)) r5) (⟨#[32,115,104,97,112,101,32]⟩:ByteArray)) r7) (⟨#[32,105,110,118,101,114,115,105,111,110,115,32]⟩:ByteArray))) (D.lenS r9)) 1099511627776) (T (D.leN (D.addN (D.lenS (D.catS (D.catS (D.catS (D.catS (D.catS (D.catS (D.catS (⟨#[105,110,115,101,114,116,32]⟩:ByteArray) r4) (⟨#[32,114,101,99,111,114,100,32]⟩:ByteArray)) r5) (⟨#[32,115,104,97,112,101,32]⟩:ByteArray)) r7) (⟨#[32,105,110,118,101,114,115,105,111,110,115,32]⟩:ByteArray)) r9)) (D.lenS (⟨#[32,109,97,106,111,114,32]⟩:ByteArray))) 1099511627776) (B (bH k x1) fun r10=>B (aO k r10) fun r11=>T (D.leN (D.addN (D.lenS (D.catS (D.catS (D.catS (D.catS (D.catS (D.catS (D.catS (D.catS (⟨#[105,110,115,101,114,116,32]⟩:ByteArray) r4) (⟨#[32,114,101,99,111,114,100,32]⟩:ByteArray)) r5) (⟨#[32,115,104,97,112,101,32]⟩:ByteArray)) r7) (⟨#[32,105,110,118,101,114,115,105,111,110,115,32]⟩:ByteArray)) r9) (⟨#[32,109,97,106,111,114,32]⟩:ByteArray))) (D.lenS r11)) 1099511627776) (T (D.leN (D.addN (D.lenS (D.catS (D.catS (D.catS (D.catS (D.catS (D.catS (D.catS (D.catS (D.catS (⟨#[105,110,115,101,114,116,32]⟩:ByteArray) r4) (⟨#[32,114,101,99,111,114,100,32]⟩:ByteArray)) r5) (⟨#[32,115,104,97,112,101,32]⟩:ByteArray)) r7) (⟨#[32,105,110,118,101,114,115,105,111,110,115,32]⟩:ByteArray)) r9) (⟨#[32,109,97,106,111,114,32]⟩:ByteArray)) r11)) (D.lenS (⟨#[32]⟩:ByteArray))) 1099511627776) (T (D.leN (D.addN (D.lenS (D.catS (D.catS (D.catS (D.catS (D.catS (D.catS (D.catS (D.catS (D.catS (D.catS (⟨#[105,110,115,101,114,116,32]⟩:ByteArray) r4) (⟨#[32,114,101,99,111,114,100,32]⟩:ByteArray)) r5) (⟨#[32,115,104,97,112,101,32]⟩:ByteArray)) r7) (⟨#[32,105,110,118,101,114,115,105,111,110,115,32]⟩:ByteArray)) r9) (⟨#[32,109,97,106,111,114,32]⟩:ByteArray)) r11) (⟨#[32]⟩:ByteArray))) (D.lenS x0)) 1099511627776) (T (D.leN (D.addN (D.lenS (D.catS (D.catS (D.catS (D.catS (D.catS (D.catS (D.catS (D.catS (D.catS (D.catS (D.catS (⟨#[105,110,115,101,114,116,32]⟩:ByteArray) r4) (⟨#[32,114,101,99,111,114,100,32]⟩:ByteArray)) r5) (⟨#[32,115,104,97,112,101,32]⟩:ByteArray)) r7) (⟨#[32,105,110,118,101,114,115,105,111,110,115,32]⟩:ByteArray)) r9) (⟨#[32,109,97,106,111,114,32]⟩:ByteArray)) r11) (⟨#[32]⟩:ByteArray)) x0)) (D.lenS (⟨#[32,104,105,103,104,101,115,116,32]⟩:ByteArray))) 1099511627776) (B (cf k r3.1) fun r12=>T (D.leN (D.addN (D.lenS (D.catS (D.catS (D.catS (D.catS (D.catS (D.catS (D.catS (D.catS (D.catS (D.catS (D.catS (D.catS (⟨#[105,110,115,101,114,116,32]⟩:ByteArray) r4) (⟨#[32,114,101,99,111,114,100,32]⟩:ByteArray)) r5) (⟨#[32,115,104,97,112,101,32]⟩:ByteArray)) r7) (⟨#[32,105,110,118,101,114,115,105,111,110,115,32]⟩:ByteArray)) r9) (⟨#[32,109,97,106,111,114,32]⟩:ByteArray)) r11) (⟨#[32]⟩:ByteArray)) x0) (⟨#[32,104,105,103,104,101,115,116,32]⟩:ByteArray))) (D.lenS r12)) 1099511627776) (some (D.catS (D.catS (D.catS (D.catS (D.catS (D.catS (D.catS (D.catS (D.catS (D.catS (D.catS (D.catS (D.catS (⟨#[105,110,115,101,114,116,32]⟩:ByteArray) r4) (⟨#[32,114,101,99,111,114,100,32]⟩:ByteArray)) r5) (⟨#[32,115,104,97,112,101,32]⟩:ByteArray)) r7) (⟨#[32,105,110,118,101,114,115,105,111,110,115,32]⟩:ByteArray)) r9) (⟨#[32,109,97,106,111,114,32]⟩:ByteArray)) r11) (⟨#[32]⟩:ByteArray)) x0) (⟨#[32,104,105,103,104,101,115,116,32]⟩:ByteArray)) r12)) none) none) none) none) none) none) none) none) none) none) none) none) none:=(jn _ _).trans (by kernel_rfl)
def dz(k:Nat)(a0:Int):Option ByteArray:=call k 7 a0
theorem dz.eq(k:Nat)(a0):dz (k+1) a0=B (eH k a0) fun r0=>B (aJ k r0) fun r1=>T (D.no r1.2) (some (⟨#[]⟩:ByteArray)) (B (bD k r1.1) fun r2=>some r2):=by kernel_rfl
def cM(k:Nat)(a0 a1 a2:Int):Option Bool:=call k 36 (a0,a1,a2)
theorem cM.eq(k:Nat)(a0 a1 a2):cM (k+1) a0 a1 a2=T (D.le a1 a0) (some (D.le a0 a2)) (some false):=by kernel_rfl
def eI(k:Nat)(a0:Int):Option ByteArray:=call k 13 a0
theorem eI.eq(k:Nat)(a0):eI (k+1) a0=B (cM k a0 1 6) fun r0=>T (D.no r0) (some (⟨#[]⟩:ByteArray)) (T (D.le 0 (Z .i64 (M a0 1))) (T (U (V (Z .i64 (M a0 1))) (N ((⟨#[51,49,50]⟩:ByteArray)::((⟨#[50,49,49,51]⟩:ByteArray)::((⟨#[53,52,51,50,49]⟩:ByteArray)::((⟨#[49,50,49,50]⟩:ByteArray)::((⟨#[45]⟩:ByteArray)::((⟨#[51,53,49,52,50]⟩:ByteArray)::([]:List ByteArray))))))))) (T (U (V (Z .i64 (M a0 1))) (N ((⟨#[51,49,50]⟩:ByteArray)::((⟨#[50,49,49,51]⟩:ByteArray)::((⟨#[53,52,51,50,49]⟩:ByteArray)::((⟨#[49,50,49,50]⟩:ByteArray)::((⟨#[45]⟩:ByteArray)::((⟨#[51,53,49,52,50]⟩:ByteArray)::([]:List ByteArray))))))))) (some (E ((⟨#[51,49,50]⟩:ByteArray)::((⟨#[50,49,49,51]⟩:ByteArray)::((⟨#[53,52,51,50,49]⟩:ByteArray)::((⟨#[49,50,49,50]⟩:ByteArray)::((⟨#[45]⟩:ByteArray)::((⟨#[51,53,49,52,50]⟩:ByteArray)::([]:List ByteArray))))))) (V (Z .i64 (M a0 1))) (⟨#[]⟩:ByteArray))) none) none) none):=by kernel_rfl
def fj(k:Nat)(x0:Int):Option (Bool×PUnit):=IO_ k 121 0 0 0 [] [[In x0],[]] []
theorem fj.eq(k:Nat)(x0):fj (k+1) x0=B (cM k x0 1 9) fun r0=>some ((D.no r0),()):=by kernel_rfl
def c68:Code:=cB (cU P 145)
def aq(k:Nat)(x0:LI):Option (Int×PUnit):=IO_ k 145 0 0 0 [Ro []] [[Sl 0,.fn 121 [] []],[Sl 0]] [Ro x0]
def aq.L0(k j:Nat)(x0 x1:Int)(x2:LI):Option (Int×PUnit):=LL k 145 (cC (cC (cB (cA c68)))) j (bM 0 (JK k 145 (cB c68) (sx (kD P (De P 145) (fun z6 z7=>tp P 145 0 0 0 [Ro []] z6 z7))))) [frm 19 [(0,Sl 0),(1,.fn 121 [] []),(7,In x0),(8,In x1)],[Sl 0]] [Ro x2]
theorem aq.eq(k:Nat)(x0):aq (k+1) x0=aq.L0 k k (O (N x0)) 0 x0:=by kernel_rfl
theorem aq.bw(k j:Nat)(x0 x1 x2):aq.L0 k (j+1) x0 x1 x2=T (D.lt x1 x0) (T (D.le 0 x1) (T (U (V x1) (N x2)) (T (U (V x1) (N x2)) (B (fj k (E x2 (V x1) 0)) fun r0=>T r0.1 (some (x1,())) (aq.L0 k j x0 (Z .i64 (A x1 1)) x2)) none) none) none) (some ((-1:Int),())):=(jn _ _).trans (by kernel_rfl)
def aZ(k:Nat)(x0:LI):Option (Bool×PUnit):=IO_ k 116 0 0 0 [Ro []] [[Sl 0,.fn 121 [] []],[Sl 0]] [Ro x0]
theorem aZ.eq(k:Nat)(x0):aZ (k+1) x0=B (aq k x0) fun r0=>some ((D.le 0 r0.1),()):=by kernel_rfl
def cw(k:Nat)(a0:LI):Option Bool:=call k 78 a0
theorem cw.eq(k:Nat)(a0):cw (k+1) a0=T (D.le (O (N a0)) 9) (B (aZ k a0) fun r0=>some (D.no r0.1)) (some false):=by kernel_rfl
def strconv_Itoa(k:Nat)(a0:Int):Option ByteArray:=call k 91 a0
theorem strconv_Itoa.eq(k:Nat)(a0):strconv_Itoa (k+1) a0=rE a0:=by kernel_rfl
def dy(k:Nat)(a0:Int):Option ByteArray:=call k 45 a0
theorem dy.eq(k:Nat)(a0):dy (k+1) a0=B (strconv_Itoa k a0) fun r0=>some r0:=by kernel_rfl
def strings_Join(k:Nat)(a0:List ByteArray)(a1:ByteArray):Option ByteArray:=call k 84 (a0,a1)
theorem strings_Join.eq(k:Nat)(a0 a1):strings_Join (k+1) a0 a1=rV a0 a1:=by kernel_rfl
def gG(k:Nat)(a0:List ByteArray)(a1:ByteArray):Option ByteArray:=call k 41 (a0,a1)
theorem gG.eq(k:Nat)(a0 a1):gG (k+1) a0 a1=B (strings_Join k a0 a1) fun r0=>some r0:=by kernel_rfl
def c69:Code:=cB (cB (cU P 88))
def cq(k:Nat)(a0:LI)(a1:ByteArray):Option ByteArray:=call k 88 (a0,a1)
def cq.L0(k j:Nat)(x0:ByteArray)(x1 x2:Int)(x3:List ByteArray)(x4:LI):Option ByteArray:=LL k 88 (cC (cC (cB (cA c69)))) j (bM 0 (JK k 88 (cB c69) (R0 88))) [frm 24 [(1,.str x0),(5,Sl 0),(9,Sl 1),(10,In x1),(11,In x2)]] [.row Bool.true .str x3,Ro x4]
theorem cq.eq(k:Nat)(a0 a1):cq (k+1) a0 a1=cq.L0 k k a1 (O (N a0)) 0 ([]:List ByteArray) a0:=by kernel_rfl
theorem cq.bw(k j:Nat)(x0 x1 x2 x3 x4):cq.L0 k (j+1) x0 x1 x2 x3 x4=T (D.lt x2 x1) (T (D.le 0 x2) (T (U (V x2) (N x4)) (T (U (V x2) (N x4)) (B (dy k (E x4 (V x2) 0)) fun r0=>T (D.leN (N (D.app x3 (r0::([]:List ByteArray)))) 1099511627776) (cq.L0 k j x0 x1 (Z .i64 (A x2 1)) (D.app x3 (r0::([]:List ByteArray))) x4) none) none) none) none) (B (gG k x3 x0) fun r1=>some r1):=(jn _ _).trans (by kernel_rfl)
def eP(k:Nat)(a0:LI):Option ByteArray:=call k 48 a0
theorem eP.eq(k:Nat)(a0):eP (k+1) a0=B (cw k a0) fun r0=>T (D.no r0) (some (⟨#[]⟩:ByteArray)) (T (D.eq (O (N a0)) 0) (some (⟨#[45]⟩:ByteArray)) (B (cq k a0 (⟨#[]⟩:ByteArray)) fun r1=>some r1)):=by kernel_rfl
def c70:Code:=cB (cB (cU P 31))
def c71:Code:=cB c70
def aX(k:Nat)(a0:ByteArray):Option ((LI)×Bool):=call k 31 a0
def aX.L0(k j:Nat)(x0:ByteArray)(x1 x2:Int)(x3:LI):Option ((LI)×Bool):=LL k 31 (cC (cC (cB (cT (cB (cA c70)))))) j (bM 0 (JK k 31 c71 (R0 31))) [frm 28 [(0,.str x0),(4,Sl 0),(10,In x1),(11,In x2)]] [Rw x3]
def aX.J1(k:Nat)(x0:ByteArray)(x1:LI):Option ((LI)×Bool):=JJ k 31 c71 (R0 31) [frm 28 [(0,.str x0),(4,Sl 0)]] [Rw x1]
theorem aX.eq(k:Nat)(a0):aX (k+1) a0=T (D.no (D.eqS a0 (⟨#[45]⟩:ByteArray))) (aX.L0 k k a0 (O (D.lenS a0)) 0 ([]:LI)) (aX.J1 k a0 ([]:LI)):=by kernel_rfl
theorem aX.bw(k j:Nat)(x0 x1 x2 x3):aX.L0 k (j+1) x0 x1 x2 x3=T (D.lt x2 x1) (T (D.le 0 x2) (T (U (V x2) (D.lenS x0)) (T (D.leN (N (D.app x3 ((Z .i64 (M (Z .i64 (D.byte x0 (V x2))) 48))::([]:LI)))) 1099511627776) (aX.L0 k j x0 x1 (Z .i64 (A x2 1)) (D.app x3 ((Z .i64 (M (Z .i64 (D.byte x0 (V x2))) 48))::([]:LI)))) none) none) none) (aX.J1 k x0 x3):=(jn _ _).trans (by kernel_rfl)
theorem aX.gw(k:Nat)(x0 x1):aX.J1 k x0 x1=B (eP k x1) fun r0=>T (D.no (D.eqS r0 x0)) (some (([]:LI),false)) (some (x1,true)):=(jn _ _).trans (by kernel_rfl)
def c72:Code:=cB (cB (cU P 80))
def dv(k:Nat)(a0:Int):Option LI:=call k 80 a0
def dv.L0(k j:Nat)(x0 x1:Int)(x2:LI):Option LI:=LL k 80 (cC (cC (cB (cA c72)))) j (bM 0 (JK k 80 (cB c72) (R0 80))) [frm 17 [(3,Sl 0),(6,In x0),(7,In x1)]] [Rw x2]
theorem dv.eq(k:Nat)(a0):dv (k+1) a0=dv.L0 k k a0 0 ([]:LI):=by kernel_rfl
theorem dv.bw(k j:Nat)(x0 x1 x2):dv.L0 k (j+1) x0 x1 x2=T (D.lt x1 x0) (T (D.leN (N (D.app x2 ((Z .i64 (A x1 1))::([]:LI)))) 1099511627776) (dv.L0 k j x0 (Z .i64 (A x1 1)) (D.app x2 ((Z .i64 (A x1 1))::([]:LI)))) none) (some x2):=(jn _ _).trans (by kernel_rfl)
def cH(k:Nat)(x0 x1:Int):Option (Bool×Int):=IO_ k 146 1 0 1 [.var [In 0]] [[In x0,.pv 0 0],[.pv 0 0]] [.var [In x1]]
theorem cH.eq(k:Nat)(x0 x1):cH (k+1) x0 x1=some ((D.lt x1 x0),x1):=by kernel_rfl
def c73:Code:=cB (cU P 145)
def ai(k:Nat)(x0:Int)(x1:LI):Option (Int×Int):=IO_ k 145 1 0 1 [.var [In 0],Ro []] [[Sl 1,.fn 146 [] [.pv 0 0]],[.pv 0 0,Sl 1]] [.var [In x0],Ro x1]
def ai.L0(k j:Nat)(x0 x1:Int)(x2:LI)(x3:Int):Option (Int×Int):=LL k 145 (cC (cC (cB (cA c73)))) j (bM 0 (JK k 145 (cB c73) (sx (kD P (De P 145) (fun z6 z7=>tp P 145 1 0 1 [.var [In 0],Ro []] z6 z7))))) [frm 19 [(0,Sl 0),(1,.fn 146 [] [.pv 1 0]),(7,In x0),(8,In x1)],[.pv 1 0,Sl 0]] [Ro x2,.var [In x3]]
theorem ai.eq(k:Nat)(x0 x1):ai (k+1) x0 x1=ai.L0 k k (O (N x1)) 0 x1 x0:=by kernel_rfl
theorem ai.bw(k j:Nat)(x0 x1 x2 x3):ai.L0 k (j+1) x0 x1 x2 x3=T (D.lt x1 x0) (T (D.le 0 x1) (T (U (V x1) (N x2)) (T (U (V x1) (N x2)) (B (cH k (E x2 (V x1) 0) x3) fun r0=>T r0.1 (some (x1,r0.2)) (ai.L0 k j x0 (Z .i64 (A x1 1)) x2 r0.2)) none) none) none) (some ((-1:Int),x3)):=(jn _ _).trans (by kernel_rfl)
def c74:Code:=cB (cU P 122)
def aK(k:Nat)(x0:Int)(x1:LI)(x2:LJ):Option (Int×((LI)×(LJ))):=IO_ k 122 1 0 3 [.var [Sl 1,Sl 2],Rw [],Rww []] [[.pv 0 0,In x0],[.pv 0 0,.undef,.undef]] [.var [Sl 1,Sl 2],Rw x1,Rww x2]
def aK.L0(k j:Nat)(x0 x1 x2:Int)(x3:LJ)(x4:LI):Option (Int×((LI)×(LJ))):=LL k 122 (cC (cC (cB (cA c74)))) j (bM 0 (JK k 122 (cB c74) (sx (kD P (De P 122) (fun z6 z7=>tp P 122 1 0 3 [.var [Sl 1,Sl 2],Rw [],Rww []] z6 z7))))) [frm 60 [(0,.pv 0 0),(3,.pv 1 0),(11,Sl 2),(12,In x0),(13,In x1)],[.pv 0 0,.undef,.undef]] [.var [Sl 3,Sl 2],.var [In x2],Rww x3,Rw x4]
theorem aK.eq(k:Nat)(x0 x1 x2):aK (k+1) x0 x1 x2=aK.L0 k k (O (N x2)) 0 x0 x2 x1:=by kernel_rfl
theorem aK.bw(k j:Nat)(x0 x1 x2 x3 x4):aK.L0 k (j+1) x0 x1 x2 x3 x4=T (D.lt x1 x0) (T (D.le 0 x1) (T (U (V x1) (N x3)) (T (U (V x1) (N x3)) (T (U (V x1) (N x3)) (B (ai k x2 (E x3 (V x1) [])) fun r0=>T (D.lt r0.1 0) (T (U (V x1) (N x3)) (T (D.leN (N (D.app (E x3 (V x1) []) (r0.2::([]:LI)))) 1099511627776) (T (D.le 0 x1) (T (U (V x1) (N x3)) (T (U (V x1) (N x3)) (T (D.eqP (((V x1),0)::([]:List (Nat×Nat))) (((V x1),0)::([]:List (Nat×Nat)))) (some (x1,(x4,(D.set x3 (V x1) (D.app (E x3 (V x1) []) (r0.2::([]:LI))))))) none) none) none) none) none) none) (T (U (V x1) (N x3)) (T (D.le 0 r0.1) (T (U (V r0.1) (N (E x3 (V x1) []))) (T (U (V x1) (N x3)) (T (U (V r0.1) (N (E x3 (V x1) []))) (T (U (V x1) (N x3)) (T (D.le 0 r0.1) (T (U (V r0.1) (N (E x3 (V x1) []))) (T (U (V x1) (N x3)) (T (U (V r0.1) (N (E x3 (V x1) []))) (aK.L0 k j x0 (Z .i64 (A x1 1)) (E (E x3 (V x1) []) (V r0.1) 0) (D.set x3 (V x1) (D.set (E x3 (V x1) []) (V r0.1) r0.2)) x4) none) none) none) none) none) none) none) none) none) none)) none) none) none) none) (T (D.leN (N (D.app x3 ((x2::([]:LI))::([]:LJ)))) 1099511627776) (some ((Z .i64 (M (O (N (D.app x3 ((x2::([]:LI))::([]:LJ))))) 1)),(x4,(D.app x3 ((x2::([]:LI))::([]:LJ)))))) none):=(jn _ _).trans (by kernel_rfl)
def c75:Code:=cB (cB (cU P 79))
def c76:Code:=cC (cC (cB (cA c75)))
def K77(k:Nat):cW (den (resTy P 79)):=bM 0 (JK k 79 (cB c75) (R0 79))
def c78:Code:=cB (cB c76)
def aB(k:Nat)(a0 a1:LI):Option (((LI)×(LJ))×((LI)×(LJ))):=call k 79 (a0,a1)
def aB.L0(k j:Nat)(x0 x1:Int)(x2 x3 x4:LI)(x5:LJ)(x6:LI)(x7:LJ)(x8:LI)(x9:LJ)(x10:LI)(x11:LJ):Option (((LI)×(LJ))×((LI)×(LJ))):=LL k 79 c76 j (K77 k) [frm 50 [(1,Sl 0),(4,.pv 1 0),(5,.pv 2 0),(6,.pv 3 0),(7,.pv 4 0),(13,Sl 5),(14,In x0),(15,In x1)]] [Ro x2,.var [Sl 6,Sl 7],.var [Sl 8,Sl 9],.var [Sl 10,Sl 11],.var [Sl 12,Sl 13],Ro x3,Rw x4,Rww x5,Rw x6,Rww x7,Rw x8,Rww x9,Rw x10,Rww x11]
def aB.J1(k k1:Nat)(x0 x1 x2 x3:Int)(x4 x5 x6:LI)(x7:LJ)(x8:LI)(x9:LJ)(x10:LI)(x11:LJ)(x12:LI)(x13:LJ):Option (((LI)×(LJ))×((LI)×(LJ))):=JJ k 79 (cB (cB (cB (cC (cA c78))))) (bM 1 (JK k 79 (cB c78) (LK k 79 c76 k1 (K77 k)))) [frm 50 [(1,Sl 0),(4,.pv 1 0),(5,.pv 2 0),(6,.pv 3 0),(7,.pv 4 0),(8,In x0),(10,In x1),(13,Sl 5),(14,In x2),(15,In x3)]] [Ro x4,.var [Sl 6,Sl 7],.var [Sl 8,Sl 9],.var [Sl 10,Sl 11],.var [Sl 12,Sl 13],Ro x5,Rw x6,Rww x7,Rw x8,Rww x9,Rw x10,Rww x11,Rw x12,Rww x13]
theorem aB.eq(k:Nat)(a0 a1):aB (k+1) a0 a1=aB.L0 k k (O (N a0)) 0 a1 a0 ([]:LI) ([]:LJ) ([]:LI) ([]:LJ) ([]:LI) ([]:LJ) ([]:LI) ([]:LJ):=by kernel_rfl
theorem aB.bw(k j:Nat)(x0 x1 x2 x3 x4 x5 x6 x7 x8 x9 x10 x11):aB.L0 k (j+1) x0 x1 x2 x3 x4 x5 x6 x7 x8 x9 x10 x11=T (D.lt x1 x0) (T (D.le 0 x1) (T (U (V x1) (N x3)) (T (U (V x1) (N x3)) (B (aK k (E x3 (V x1) 0) x8 x9) fun r0=>T (D.eq r0.1 (O (N x11))) (T (D.leN (N (D.app x11 (([]:LI)::([]:LJ)))) 1099511627776) (aB.J1 k j x1 r0.1 x0 x1 x2 x3 x4 x5 x6 x7 r0.2.1 r0.2.2 x10 (D.app x11 (([]:LI)::([]:LJ)))) none) (aB.J1 k j x1 r0.1 x0 x1 x2 x3 x4 x5 x6 x7 r0.2.1 r0.2.2 x10 x11)) none) none) none) (some ((x8,x9),(x10,x11))):=(jn _ _).trans (by kernel_rfl)
theorem aB.gw(k k1:Nat)(x0 x1 x2 x3 x4 x5 x6 x7 x8 x9 x10 x11 x12 x13):aB.J1 k k1 x0 x1 x2 x3 x4 x5 x6 x7 x8 x9 x10 x11 x12 x13=T (D.le 0 x1) (T (U (V x1) (N x13)) (T (U (V x1) (N x13)) (T (D.le 0 x0) (T (U (V x0) (N x4)) (T (U (V x0) (N x4)) (T (U (V x1) (N x13)) (T (D.leN (N (D.app (E x13 (V x1) []) ((E x4 (V x0) 0)::([]:LI)))) 1099511627776) (T (D.le 0 x1) (T (U (V x1) (N x13)) (T (U (V x1) (N x13)) (T (D.eqP (((V x1),0)::([]:List (Nat×Nat))) (((V x1),0)::([]:List (Nat×Nat)))) (aB.L0 k k1 x2 (Z .i64 (A x3 1)) x4 x5 x6 x7 x8 x9 x10 x11 x12 (D.set x13 (V x1) (D.app (E x13 (V x1) []) ((E x4 (V x0) 0)::([]:LI))))) none) none) none) none) none) none) none) none) none) none) none) none:=(jn _ _).trans (by kernel_rfl)
def dN(k:Nat)(a0:LI):Option (((LI)×(LJ))×Bool):=call k 37 a0
theorem dN.eq(k:Nat)(a0):dN (k+1) a0=B (cw k a0) fun r0=>T (D.no r0) (some ((([]:LI),([]:LJ)),false)) (B (dv k (O (N a0))) fun r1=>B (aB k a0 r1) fun r2=>some ((r2.1.1,r2.1.2),true)):=by kernel_rfl
def fk(k:Nat)(a0:LI):Option (((LI)×(LJ))×Bool):=call k 38 a0
theorem fk.eq(k:Nat)(a0):fk (k+1) a0=B (cw k a0) fun r0=>T (D.no r0) (some ((([]:LI),([]:LJ)),false)) (B (dv k (O (N a0))) fun r1=>B (aB k a0 r1) fun r2=>some ((r2.2.1,r2.2.2),true)):=by kernel_rfl
def ck(k:Nat)(a0:LI):Option LI:=call k 81 a0
theorem ck.eq(k:Nat)(a0):ck (k+1) a0=T (D.eqN (N a0) 0) (D.both (some ([]:LI)) (T (D.leN (N (D.app ([]:LI) a0)) 1099511627776) (some (D.app ([]:LI) a0)) none)) (T (D.leN (N (D.app ([]:LI) a0)) 1099511627776) (some (D.app ([]:LI) a0)) none):=by kernel_rfl
def c79:Code:=cB (cB (cU P 123))
def c80:Code:=cB c79
def c81:Code:=cC (cC (cB (cA c80)))
def K82(k:Nat):cW (den (resTy P 123)):=bM 0 (JK k 123 (cB c80) (R0 123))
def c83:Code:=cB (cB (cB c81))
def K84(k k1:Nat):cW (den (resTy P 123)):=LK k 123 c81 k1 (K82 k)
def aP(k:Nat)(a0:LI)(a1:Int):Option ((LI)×((LI)×Bool)):=call k 123 (a0,a1)
def aP.J0(k:Nat)(x0:Int)(x1:LI):Option ((LI)×((LI)×Bool)):=JJ k 123 c79 (R0 123) [frm 62 [(0,Sl 0),(1,In x0)]] [Ro x1]
def aP.L1(k j:Nat)(x0 x1 x2:Int)(x3 x4 x5:LI):Option ((LI)×((LI)×Bool)):=LL k 123 c81 j (K82 k) [frm 62 [(1,In x0),(7,Sl 0),(8,Sl 1),(21,Sl 2),(22,In x1),(23,In x2)]] [Rw x3,Rw x4,Ro x5]
def aP.J2(k k1:Nat)(x0 x1 x2:Int)(x3 x4 x5:LI):Option ((LI)×((LI)×Bool)):=JJ k 123 c83 (K84 k k1) [frm 62 [(1,In x0),(7,Sl 0),(8,Sl 1),(21,Sl 2),(22,In x1),(23,In x2)]] [Rw x3,Rw x4,Ro x5]
def aP.J3(k k1:Nat)(x0:Int)(x1 x2:Nat)(x3 x4:Int)(x5 x6 x7:LI):Option ((LI)×((LI)×Bool)):=JJ k 123 c83 (K84 k k1) [frm 62 [(1,In x0),(7,Sl 0),(8,.sl 1 [] (Option.some (x1,x2))),(21,Sl 2),(22,In x3),(23,In x4)]] [Rw x5,Rw x6,Ro x7]
def aP.L4(k j:Nat)(x0:Int)(x1 x2:Nat)(x3 x4:Int)(x5 x6 x7:LI):Option ((LI)×((LI)×Bool)):=LL k 123 c81 j (K82 k) [frm 62 [(1,In x0),(7,Sl 0),(8,.sl 1 [] (Option.some (x1,x2))),(21,Sl 2),(22,In x3),(23,In x4)]] [Rw x5,Rw x6,Ro x7]
theorem aP.eq(k:Nat)(a0 a1):aP (k+1) a0 a1=B (cw k a0) fun r0=>T (D.no r0) (some (([]:LI),(([]:LI),false))) (B (cM k a1 1 8) fun r1=>T (D.no r1) (some (([]:LI),(([]:LI),false))) (aP.J0 k a1 a0)):=by kernel_rfl
theorem aP.kP(k:Nat)(x0 x1):aP.J0 k x0 x1=aP.L1 k k x0 (O (N x1)) 0 ([]:LI) ([]:LI) x1:=(jn _ _).trans (by kernel_rfl)
theorem aP.fx(k j:Nat)(x0 x1 x2 x3 x4 x5):aP.L1 k (j+1) x0 x1 x2 x3 x4 x5=T (D.lt x2 x1) (T (D.le 0 x2) (T (U (V x2) (N x5)) (T (U (V x2) (N x5)) (T (D.eq (E x5 (V x2) 0) (Z .i64 (A x0 1))) (T (D.leN (N (D.app x4 (x2::([]:LI)))) 1099511627776) (aP.J2 k j x0 x1 x2 x3 (D.app x4 (x2::([]:LI))) x5) none) (T (D.eq (E x5 (V x2) 0) x0) (T (D.lt 0 (O (N x4))) (T (D.le 0 (Z .i64 (M (O (N x4)) 1))) (T (D.leN (V (Z .i64 (M (O (N x4)) 1))) (N x4)) (aP.J3 k j x0 0 (D.subN (V (Z .i64 (M (O (N x4)) 1))) 0) x1 x2 x3 x4 x5) none) none) (T (D.eq (E x5 (V x2) 0) x0) (T (D.leN (N (D.app x3 (x2::([]:LI)))) 1099511627776) (aP.J2 k j x0 x1 x2 (D.app x3 (x2::([]:LI))) x4 x5) none) (aP.J2 k j x0 x1 x2 x3 x4 x5))) (T (D.eq (E x5 (V x2) 0) x0) (T (D.leN (N (D.app x3 (x2::([]:LI)))) 1099511627776) (aP.J2 k j x0 x1 x2 (D.app x3 (x2::([]:LI))) x4 x5) none) (aP.J2 k j x0 x1 x2 x3 x4 x5)))) none) none) none) (some (x3,(x4,true))):=(jn _ _).trans (by kernel_rfl)
theorem aP.lf(k k1:Nat)(x0 x1 x2 x3 x4 x5):aP.J2 k k1 x0 x1 x2 x3 x4 x5=aP.L1 k k1 x0 x1 (Z .i64 (A x2 1)) x3 x4 x5:=(jn _ _).trans (by kernel_rfl)
theorem aP.yK(k k1:Nat)(x0 x1 x2 x3 x4 x5 x6 x7):aP.J3 k k1 x0 x1 x2 x3 x4 x5 x6 x7=aP.L4 k k1 x0 x1 x2 x3 (Z .i64 (A x4 1)) x5 x6 x7:=(jn _ _).trans (by kernel_rfl)
theorem aP.EO(k j:Nat)(x0 x1 x2 x3 x4 x5 x6 x7):aP.L4 k (j+1) x0 x1 x2 x3 x4 x5 x6 x7=T (D.lt x4 x3) (T (D.le 0 x4) (T (U (V x4) (N x7)) (T (U (V x4) (N x7)) (T (D.eq (E x7 (V x4) 0) (Z .i64 (A x0 1))) (T (D.leN (N (D.app (D.take x2 (D.drop x1 x6)) (x4::([]:LI)))) 1099511627776) (aP.J2 k j x0 x3 x4 x5 (D.app (D.take x2 (D.drop x1 x6)) (x4::([]:LI))) x7) none) (T (D.eq (E x7 (V x4) 0) x0) (T (D.lt 0 (O x2)) (T (D.le 0 (Z .i64 (M (O x2) 1))) (T (D.leN (V (Z .i64 (M (O x2) 1))) x2) (aP.J3 k j x0 (D.addN x1 0) (D.subN (V (Z .i64 (M (O x2) 1))) 0) x3 x4 x5 x6 x7) none) none) (T (D.eq (E x7 (V x4) 0) x0) (T (D.leN (N (D.app x5 (x4::([]:LI)))) 1099511627776) (aP.J3 k j x0 x1 x2 x3 x4 (D.app x5 (x4::([]:LI))) x6 x7) none) (aP.J3 k j x0 x1 x2 x3 x4 x5 x6 x7))) (T (D.eq (E x7 (V x4) 0) x0) (T (D.leN (N (D.app x5 (x4::([]:LI)))) 1099511627776) (aP.J3 k j x0 x1 x2 x3 x4 (D.app x5 (x4::([]:LI))) x6 x7) none) (aP.J3 k j x0 x1 x2 x3 x4 x5 x6 x7)))) none) none) none) (some (x5,((D.take x2 (D.drop x1 x6)),true))):=(jn _ _).trans (by kernel_rfl)
def kr(k:Nat)(a0:LI)(a1 a2:Int):Option LI:=call k 124 (a0,a1,a2)
theorem kr.eq(k:Nat)(a0 a1 a2):kr (k+1) a0 a1 a2=B (ck k a0) fun r0=>T (D.le 0 a1) (T (U (V a1) (N r0)) (T (U (V a1) (N r0)) (some (D.set r0 (V a1) a2)) none) none) none:=by kernel_rfl
def fF(k:Nat)(a0:LI)(a1:Int):Option ((LI)×Bool):=call k 82 (a0,a1)
theorem fF.eq(k:Nat)(a0 a1):fF (k+1) a0 a1=B (aP k a0 a1) fun r0=>T (D.eq (O (N r0.2.1)) 0) (some (([]:LI),false)) (T (D.le 0 0) (T (U (V 0) (N r0.2.1)) (T (U (V 0) (N r0.2.1)) (B (kr k a0 (E r0.2.1 (V 0) 0) a1) fun r1=>some (r1,true)) none) none) none):=by kernel_rfl
def c85:Code:=cB (cB (cB (cU P 39)))
def c86:Code:=cC (cC (cB (cA c85)))
def K87(k:Nat):cW (den (resTy P 39)):=bM 0 (JK k 39 (cB c85) (R0 39))
def bp(k:Nat)(a0:LI):Option ((LI)×Bool):=call k 39 a0
def bp.L0(k j:Nat)(x0:Int)(x1:LI):Option ((LI)×Bool):=LL k 39 c86 j (K87 k) [frm 26 [(4,Sl 0),(5,In x0)]] [Rw x1]
def bp.J1(k k1:Nat)(x0:Int)(x1:LI):Option ((LI)×Bool):=JJ k 39 (cB (cB c86)) (LK k 39 c86 k1 (K87 k)) [frm 26 [(4,Sl 0),(5,In x0)]] [Rw x1]
theorem bp.eq(k:Nat)(a0):bp (k+1) a0=B (cw k a0) fun r0=>T (D.no r0) (some (([]:LI),false)) (B (ck k a0) fun r1=>bp.L0 k k 1 r1):=by kernel_rfl
theorem bp.bw(k j:Nat)(x0 x1):bp.L0 k (j+1) x0 x1=T (D.lt x0 9) (B (fF k x1 x0) fun r2=>T r2.2 (bp.J1 k j 0 r2.1) (bp.J1 k j x0 x1)) (some (x1,true)):=(jn _ _).trans (by kernel_rfl)
theorem bp.gw(k k1:Nat)(x0 x1):bp.J1 k k1 x0 x1=bp.L0 k k1 (Z .i64 (A x0 1)) x1:=(jn _ _).trans (by kernel_rfl)
def c88:Code:=cB (cB (cB (cU P 40)))
def c89:Code:=cC (cB (cA c88))
def K90(k:Nat):cW (den (resTy P 40)):=bM 0 (JK k 40 (cB c88) (R0 40))
def c91:Code:=cC (cC (cB (cU P 125)))
def bW(k:Nat)(a0:LI):Option Bool:=call k 40 a0
def bW.L0(k j:Nat)(x0:Int)(x1:Bool)(x2 x3:LI):Option Bool:=D.jn (fun z1=>jU (fun z2 z3=>fW P cfg (qH P cfg ext k) (py (fun z4 z5=>X k 40 (cA c89) z4 z5) (fun z6 z7=>X k 40 (cB c89) z6 z7) (List.toArray [12,13]) (K90 k)) (Go.Func.ntmps (De P 125)) k 125 c91 z2 z3) (Cfg.loops cfg 125 (key c91)) j z1 (bM 0 (sx (fun z11=>K90 k .normal (St.mk (List.tail (St.fr z11)) (St.rs z11)))))) (St.mk [frm 19 [(1,.pv 0 0),(3,In x0)],frm 34 [(2,.pv 1 0),(3,.pv 2 0),(11,.fn 125 [] [.pv 0 0])]] [.var [Sl 3],.var [.bool x1],.var [Sl 4],Ro x2,Rw x3])
theorem bW.eq(k:Nat)(a0):bW (k+1) a0=B (cw k a0) fun r0=>T (D.no r0) (some false) (T (D.le 0 10) (T (D.le 10 10) (T (D.leN (V 10) 1099511627776) (bW.L0 k k (Z .i64 (M (O (N a0)) 1)) false a0 (D.rep (V 10) (0:Int))) none) none) none):=by kernel_rfl
theorem bW.bw(k j:Nat)(x0 x1 x2 x3):bW.L0 k (j+1) x0 x1 x2 x3=T (D.le 0 x0) (T (D.le 0 x0) (T (U (V x0) (N x2)) (T (U (V x0) (N x2)) (T (D.le 0 (E x2 (V x0) 0)) (T (U (V (E x2 (V x0) 0)) (N x3)) (T (U (V (E x2 (V x0) 0)) (N x3)) (T (D.le 0 (E x2 (V x0) 0)) (T (U (V (E x2 (V x0) 0)) (N x3)) (T (U (V (E x2 (V x0) 0)) (N x3)) (T (D.lt 1 (E x2 (V x0) 0)) (T (D.le 0 (E x2 (V x0) 0)) (T (U (V (E x2 (V x0) 0)) (N (D.set x3 (V (E x2 (V x0) 0)) (Z .i64 (A (E x3 (V (E x2 (V x0) 0)) 0) 1))))) (T (U (V (E x2 (V x0) 0)) (N (D.set x3 (V (E x2 (V x0) 0)) (Z .i64 (A (E x3 (V (E x2 (V x0) 0)) 0) 1))))) (T (D.le 0 (Z .i64 (M (E x2 (V x0) 0) 1))) (T (U (V (Z .i64 (M (E x2 (V x0) 0) 1))) (N (D.set x3 (V (E x2 (V x0) 0)) (Z .i64 (A (E x3 (V (E x2 (V x0) 0)) 0) 1))))) (T (U (V (Z .i64 (M (E x2 (V x0) 0) 1))) (N (D.set x3 (V (E x2 (V x0) 0)) (Z .i64 (A (E x3 (V (E x2 (V x0) 0)) 0) 1))))) (T (D.lt (E (D.set x3 (V (E x2 (V x0) 0)) (Z .i64 (A (E x3 (V (E x2 (V x0) 0)) 0) 1))) (V (Z .i64 (M (E x2 (V x0) 0) 1))) 0) (E (D.set x3 (V (E x2 (V x0) 0)) (Z .i64 (A (E x3 (V (E x2 (V x0) 0)) 0) 1))) (V (E x2 (V x0) 0)) 0)) (some false) (bW.L0 k j (Z .i64 (M x0 1)) x1 x2 (D.set x3 (V (E x2 (V x0) 0)) (Z .i64 (A (E x3 (V (E x2 (V x0) 0)) 0) 1))))) none) none) none) none) none) none) (bW.L0 k j (Z .i64 (M x0 1)) x1 x2 (D.set x3 (V (E x2 (V x0) 0)) (Z .i64 (A (E x3 (V (E x2 (V x0) 0)) 0) 1))))) none) none) none) none) none) none) none) none) none) (some true):=(jn _ _).trans (by kernel_rfl)
def c92:Code:=cB (cB (cU P 89))
def c93:Code:=cC (cC (cB (cA c92)))
def K94(k:Nat):cW (den (resTy P 89)):=bM 0 (JK k 89 (cB c92) (R0 89))
def c95:Code:=cB (cB c93)
def aH(k:Nat)(a0:LI):Option Bool:=call k 89 a0
def aH.L0(k j:Nat)(x0 x1 x2:Int)(x3:LI):Option Bool:=LL k 89 c93 j (K94 k) [frm 35 [(0,Sl 0),(3,In x0),(6,Sl 0),(7,In x1),(8,In x2)]] [Ro x3]
def aH.J1(k k1:Nat)(x0 x1 x2 x3:Int)(x4:LI):Option Bool:=JJ k 89 (cB (cB (cC (cA c95)))) (bM 1 (JK k 89 (cB c95) (LK k 89 c93 k1 (K94 k)))) [frm 35 [(0,Sl 0),(3,In x0),(5,In x1),(6,Sl 0),(7,In x2),(8,In x3)]] [Ro x4]
theorem aH.eq(k:Nat)(a0):aH (k+1) a0=aH.L0 k k 0 (O (N a0)) 0 a0:=by kernel_rfl
theorem aH.bw(k j:Nat)(x0 x1 x2 x3):aH.L0 k (j+1) x0 x1 x2 x3=T (D.lt x2 x1) (T (D.le 0 x2) (T (U (V x2) (N x3)) (T (U (V x2) (N x3)) (B (cM k (E x3 (V x2) 0) 1 9) fun r0=>T (D.no r0) (some false) (T (D.lt 0 x2) (T (D.le 0 (Z .i64 (M x2 1))) (T (U (V (Z .i64 (M x2 1))) (N x3)) (T (U (V (Z .i64 (M x2 1))) (N x3)) (T (D.lt (E x3 (V (Z .i64 (M x2 1))) 0) (E x3 (V x2) 0)) (some false) (aH.J1 k j x0 (E x3 (V x2) 0) x1 x2 x3)) none) none) none) (aH.J1 k j x0 (E x3 (V x2) 0) x1 x2 x3))) none) none) none) (some true):=(jn _ _).trans (by kernel_rfl)
theorem aH.gw(k k1:Nat)(x0 x1 x2 x3 x4):aH.J1 k k1 x0 x1 x2 x3 x4=T (D.lt 9 (Z .i64 (A x0 x1))) (some false) (aH.L0 k k1 (Z .i64 (A x0 x1)) x2 (Z .i64 (A x3 1)) x4):=(jn _ _).trans (by kernel_rfl)
def fS(k:Nat)(a0:LI)(a1:Int):Option Int:=call k 87 (a0,a1)
theorem fS.eq(k:Nat)(a0 a1):fS (k+1) a0 a1=B (cM k a1 0 (Z .i64 (M (O (N a0)) 1))) fun r0=>T (D.no r0) (some 0) (T (D.le 0 a1) (T (U (V a1) (N a0)) (T (U (V a1) (N a0)) (some (E a0 (V a1) 0)) none) none) none):=by kernel_rfl
def c96:Code:=cB (cB (cU P 106))
def bF(k:Nat)(a0 a1:LI):Option Bool:=call k 106 (a0,a1)
def bF.J0(k:Nat)(x0 x1:LI):Option Bool:=JJ k 106 c96 (R0 106) [frm 28 [(0,Sl 0),(1,Sl 1)]] [Ro x0,Ro x1]
def bF.L1(k j:Nat)(x0 x1:Int)(x2 x3:LI):Option Bool:=LL k 106 (cC (cC (cB (cA c96)))) j (bM 0 (JK k 106 (cB c96) (R0 106))) [frm 28 [(1,Sl 0),(15,Sl 1),(16,In x0),(17,In x1)]] [Ro x2,Ro x3]
theorem bF.eq(k:Nat)(a0 a1):bF (k+1) a0 a1=B (aH k a0) fun r0=>T (D.no r0) (some false) (B (aH k a1) fun r1=>T (D.no r1) (some false) (bF.J0 k a0 a1)):=by kernel_rfl
theorem bF.kP(k:Nat)(x0 x1):bF.J0 k x0 x1=bF.L1 k k (O (N x0)) 0 x1 x0:=(jn _ _).trans (by kernel_rfl)
theorem bF.fx(k j:Nat)(x0 x1 x2 x3):bF.L1 k (j+1) x0 x1 x2 x3=T (D.lt x1 x0) (T (D.le 0 x1) (T (U (V x1) (N x3)) (T (U (V x1) (N x3)) (B (fS k x2 x1) fun r2=>T (D.lt r2 (E x3 (V x1) 0)) (some false) (bF.L1 k j x0 (Z .i64 (A x1 1)) x2 x3)) none) none) none) (some true):=(jn _ _).trans (by kernel_rfl)
def gN(k:Nat)(a0:(LI)×(LI)):Option Bool:=call k 64 a0
theorem gN.eq(k:Nat)(a0):gN (k+1) a0=B (bF k a0.2 a0.1) fun r0=>some r0:=by kernel_rfl
def c97:Code:=cB (cB (cU P 90))
def c98:Code:=cB c97
def bJ(k:Nat)(a0:(LI)×(LJ)):Option (((LI)×(LI))×Bool):=call k 90 a0
def bJ.J0(k:Nat)(x0:LI)(x1:LJ)(x2 x3:LI):Option (((LI)×(LI))×Bool):=JJ k 90 c97 (R0 90) [frm 51 [(1,.pv 0 0),(2,.pv 1 0)]] [.var [Sl 2,Sl 3],.var [Sl 4,Sl 5],Ro x0,Roo x1,Rw x2,Rw x3]
def bJ.L1(k j:Nat)(x0 x1:Int)(x2:LJ)(x3 x4 x5 x6 x7:LI):Option (((LI)×(LI))×Bool):=LL k 90 (cC (cC (cB (cA c98)))) j (bM 0 (JK k 90 (cB c98) (R0 90))) [frm 51 [(1,.pv 0 0),(2,.pv 1 0),(4,.pv 2 0),(26,Sl 3),(27,In x0),(28,In x1)]] [.var [Sl 4,Sl 3],.var [Sl 5,Sl 6],.var [Sl 7,Sl 8],Roo x2,Ro x3,Rw x4,Rw x5,Rw x6,Rw x7]
theorem bJ.eq(k:Nat)(a0):bJ (k+1) a0=B (aH k a0.1) fun r0=>T (D.no r0) (some ((([]:LI),([]:LI)),false)) (T (D.lt (O (N a0.2)) (O (N a0.1))) (some ((([]:LI),([]:LI)),false)) (bJ.J0 k a0.1 a0.2 ([]:LI) ([]:LI))):=by kernel_rfl
theorem bJ.kP(k:Nat)(x0 x1 x2 x3):bJ.J0 k x0 x1 x2 x3=B (ck k x0) fun r1=>bJ.L1 k k (O (N x1)) 0 x1 x0 x2 x3 ([]:LI) r1:=(jn _ _).trans (by kernel_rfl)
theorem bJ.fx(k j:Nat)(x0 x1 x2 x3 x4 x5 x6 x7):bJ.L1 k (j+1) x0 x1 x2 x3 x4 x5 x6 x7=T (D.lt x1 x0) (T (D.le 0 x1) (T (U (V x1) (N x2)) (T (U (V x1) (N x2)) (B (fS k x3 x1) fun r2=>T (U (V x1) (N x2)) (T (D.leN (N (D.app x6 ((Z .i64 (A r2 (O (N (E x2 (V x1) [])))))::([]:LI)))) 1099511627776) (bJ.L1 k j x0 (Z .i64 (A x1 1)) x2 x3 x4 x5 (D.app x6 ((Z .i64 (A r2 (O (N (E x2 (V x1) [])))))::([]:LI))) x7) none) none) none) none) none) (B (gN k (x6,x7)) fun r3=>T (D.no r3) (some ((([]:LI),([]:LI)),false)) (some ((x6,x7),true))):=(jn _ _).trans (by kernel_rfl)
def dx(k:Nat)(a0:(LI)×(LJ))(a1 a2:Int):Option Int:=call k 129 (a0,a1,a2)
theorem dx.eq(k:Nat)(a0 a1 a2):dx (k+1) a0 a1 a2=B (cM k a1 0 (Z .i64 (M (O (N a0.2)) 1))) fun r0=>T (D.no r0) (some 0) (T (D.le 0 a1) (T (U (V a1) (N a0.2)) (T (U (V a1) (N a0.2)) (B (fS k a0.1 a1) fun r1=>T (U (V a1) (N a0.2)) (B (fS k (E a0.2 (V a1) []) (Z .i64 (M a2 r1))) fun r2=>some r2) none) none) none) none):=by kernel_rfl
def c99:Code:=cB (cB (cU P 85))
def E6:Code:=cC (cC (cB (cA c99)))
def Fu(k:Nat):cW (den (resTy P 85)):=bM 0 (JK k 85 (cB c99) (R0 85))
def Fy:Code:=cB (cB E6)
def E7:Code:=cC (cC (cB (cB (cC (cA Fy)))))
def FE(k k1:Nat):cW (den (resTy P 85)):=bM 2 (bM 1 (JK k 85 (cB Fy) (LK k 85 E6 k1 (Fu k))))
def aD(k:Nat)(a0:(LI)×(LJ)):Option Bool:=call k 85 a0
def aD.L0(k j:Nat)(x0 x1:Int)(x2:LJ)(x3:LI):Option Bool:=LL k 85 E6 j (Fu k) [frm 67 [(1,.pv 0 0),(17,Sl 1),(18,In x0),(19,In x1)]] [.var [Sl 2,Sl 1],Roo x2,Ro x3]
def aD.L1(k k1 j:Nat)(x0:Int)(x1:Nat)(x2 x3:Int)(x4:Nat)(x5 x6:Int)(x7:LJ)(x8:LI):Option Bool:=LL k 85 E7 j (FE k k1) [frm 67 [(1,.pv 0 0),(5,In x0),(6,.sl 1 [(x1,0)] Option.none),(17,Sl 1),(18,In x2),(19,In x3),(24,.sl 1 [(x4,0)] Option.none),(25,In x5),(26,In x6)]] [.var [Sl 2,Sl 1],Roo x7,Ro x8]
def aD.J2(k k1 k2:Nat)(x0:Int)(x1:Nat)(x2 x3:Int)(x4:Nat)(x5 x6:Int)(x7:LJ)(x8:LI):Option Bool:=JJ k 85 (cB (cB (cB E7))) (LK k 85 E7 k2 (FE k k1)) [frm 67 [(1,.pv 0 0),(5,In x0),(6,.sl 1 [(x1,0)] Option.none),(17,Sl 1),(18,In x2),(19,In x3),(24,.sl 1 [(x4,0)] Option.none),(25,In x5),(26,In x6)]] [.var [Sl 2,Sl 1],Roo x7,Ro x8]
theorem aD.eq(k:Nat)(a0):aD (k+1) a0=B (bJ k (a0.1,a0.2)) fun r0=>T (D.no r0.2) (some false) (aD.L0 k k (O (N a0.2)) 0 a0.2 a0.1):=by kernel_rfl
theorem aD.bw(k j:Nat)(x0 x1 x2 x3):aD.L0 k (j+1) x0 x1 x2 x3=T (D.lt x1 x0) (T (D.le 0 x1) (T (U (V x1) (N x2)) (T (U (V x1) (N x2)) (T (U (V x1) (N x2)) (aD.L1 k j k x1 (V x1) x0 x1 (V x1) (O (N (E x2 (V x1) []))) 0 x2 x3) none) none) none) none) (some true):=(jn _ _).trans (by kernel_rfl)
theorem aD.fx(k k1 j:Nat)(x0 x1 x2 x3 x4 x5 x6 x7 x8):aD.L1 k k1 (j+1) x0 x1 x2 x3 x4 x5 x6 x7 x8=T (D.lt x6 x5) (T (U x4 (N x7)) (T (D.le 0 x6) (T (U (V x6) (N (E x7 x4 []))) (T (U x4 (N x7)) (T (U (V x6) (N (E x7 x4 []))) (B (cM k (E (E x7 x4 []) (V x6) 0) 1 9) fun r1=>T (D.no r1) (some false) (T (D.lt 0 x6) (T (U x1 (N x7)) (T (D.le 0 (Z .i64 (M x6 1))) (T (U (V (Z .i64 (M x6 1))) (N (E x7 x1 []))) (T (U x1 (N x7)) (T (U (V (Z .i64 (M x6 1))) (N (E x7 x1 []))) (T (D.lt (E (E x7 x4 []) (V x6) 0) (E (E x7 x1 []) (V (Z .i64 (M x6 1))) 0)) (some false) (T (D.lt 0 x0) (B (fS k x8 x0) fun r2=>B (dx k (x8,x7) (Z .i64 (M x0 1)) (Z .i64 (A r2 x6))) fun r3=>T (D.le (E (E x7 x4 []) (V x6) 0) r3) (some false) (aD.J2 k k1 j x0 x1 x2 x3 x4 x5 x6 x7 x8)) (aD.J2 k k1 j x0 x1 x2 x3 x4 x5 x6 x7 x8))) none) none) none) none) none) (T (D.lt 0 x0) (B (fS k x8 x0) fun r4=>B (dx k (x8,x7) (Z .i64 (M x0 1)) (Z .i64 (A r4 x6))) fun r5=>T (D.le (E (E x7 x4 []) (V x6) 0) r5) (some false) (aD.J2 k k1 j x0 x1 x2 x3 x4 x5 x6 x7 x8)) (aD.J2 k k1 j x0 x1 x2 x3 x4 x5 x6 x7 x8)))) none) none) none) none) none) (aD.L0 k k1 x2 (Z .i64 (A x3 1)) x7 x8):=(jn _ _).trans (by kernel_rfl)
theorem aD.lf(k k1 k2:Nat)(x0 x1 x2 x3 x4 x5 x6 x7 x8):aD.J2 k k1 k2 x0 x1 x2 x3 x4 x5 x6 x7 x8=aD.L1 k k1 k2 x0 x1 x2 x3 x4 x5 (Z .i64 (A x6 1)) x7 x8:=(jn _ _).trans (by kernel_rfl)
def strings_Repeat(k:Nat)(a0:ByteArray)(a1:Int):Option ByteArray:=call k 86 (a0,a1)
theorem strings_Repeat.eq(k:Nat)(a0 a1):strings_Repeat (k+1) a0 a1=wS a0 a1:=by kernel_rfl
def FO:Code:=cB (cB (cB (cU P 42)))
def br(k:Nat)(a0:(LI)×(LJ)):Option ByteArray:=call k 42 a0
def br.L0(k j:Nat)(x0 x1:Int)(x2:List ByteArray)(x3:LJ)(x4:LI):Option ByteArray:=LL k 42 (cC (cC (cB (cA FO)))) j (bM 1 (JK k 42 (cB FO) (R0 42))) [frm 38 [(1,.pv 0 0),(3,Sl 1),(17,Sl 2),(18,In x0),(19,In x1)]] [.var [Sl 3,Sl 2],.row Bool.true .str x2,Roo x3,Ro x4]
theorem br.eq(k:Nat)(a0):br (k+1) a0=B (aD k (a0.1,a0.2)) fun r0=>T (D.no r0) (some (⟨#[]⟩:ByteArray)) (T (D.eq (O (N a0.2)) 0) (some (⟨#[45]⟩:ByteArray)) (br.L0 k k (O (N a0.2)) 0 ([]:List ByteArray) a0.2 a0.1)):=by kernel_rfl
theorem br.bw(k j:Nat)(x0 x1 x2 x3 x4):br.L0 k (j+1) x0 x1 x2 x3 x4=T (D.lt x1 x0) (T (D.le 0 x1) (T (U (V x1) (N x3)) (T (U (V x1) (N x3)) (B (fS k x4 x1) fun r1=>B (strings_Repeat k (⟨#[46]⟩:ByteArray) r1) fun r2=>T (U (V x1) (N x3)) (B (cq k (E x3 (V x1) []) (⟨#[]⟩:ByteArray)) fun r3=>T (D.leN (D.addN (D.lenS r2) (D.lenS r3)) 1099511627776) (T (D.leN (N (D.app x2 ((D.catS r2 r3)::([]:List ByteArray)))) 1099511627776) (br.L0 k j x0 (Z .i64 (A x1 1)) (D.app x2 ((D.catS r2 r3)::([]:List ByteArray))) x3 x4) none) none) none) none) none) none) (B (gG k x2 (⟨#[47]⟩:ByteArray)) fun r4=>some r4):=(jn _ _).trans (by kernel_rfl)
def eF(k:Nat)(a0:LI):Option LI:=call k 44 a0
theorem eF.eq(k:Nat)(a0):eF (k+1) a0=B (dN k a0) fun r0=>T (D.no r0.2) (some ([]:LI)) (B (bJ k (r0.1.1,r0.1.2)) fun r1=>some r1.1.1):=by kernel_rfl
def dS(k:Nat)(a0:LI):Option ByteArray:=call k 43 a0
theorem dS.eq(k:Nat)(a0):dS (k+1) a0=B (aH k a0) fun r0=>T (D.no r0) (some (⟨#[]⟩:ByteArray)) (T (D.eq (O (N a0)) 0) (some (⟨#[45]⟩:ByteArray)) (B (cq k a0 (⟨#[44]⟩:ByteArray)) fun r1=>some r1)):=by kernel_rfl
def Fz:Code:=cB (cB (cB (cU P 46)))
def Fa:Code:=cC (cC (cB (cA Fz)))
def Fv(k:Nat):cW (den (resTy P 46)):=bM 0 (JK k 46 (cB Fz) (R0 46))
def FD:Code:=cB (cB Fa)
def E5:Code:=cC (cC (cB (cB (cC (cA FD)))))
def Fx(k k1:Nat):cW (den (resTy P 46)):=bM 2 (bM 1 (JK k 46 (cB FD) (LK k 46 Fa k1 (Fv k))))
def al(k:Nat)(a0:LI):Option Int:=call k 46 a0
def al.L0(k j:Nat)(x0 x1 x2:Int)(x3:LI):Option Int:=LL k 46 Fa j (Fv k) [frm 32 [(0,Sl 0),(3,In x0),(10,In x1),(11,In x2)]] [Ro x3]
def al.L1(k k1 j:Nat)(x0 x1 x2 x3 x4 x5:Int)(x6:LI):Option Int:=LL k 46 E5 j (Fx k k1) [frm 32 [(0,Sl 0),(3,In x0),(4,In x1),(10,In x2),(11,In x3),(14,In x4),(15,In x5)]] [Ro x6]
def al.J2(k k1 k2:Nat)(x0 x1 x2 x3 x4 x5:Int)(x6:LI):Option Int:=JJ k 46 (cB (cB (cB E5))) (LK k 46 E5 k2 (Fx k k1)) [frm 32 [(0,Sl 0),(3,In x0),(4,In x1),(10,In x2),(11,In x3),(14,In x4),(15,In x5)]] [Ro x6]
theorem al.eq(k:Nat)(a0):al (k+1) a0=B (cw k a0) fun r0=>T (D.no r0) (some (-1)) (al.L0 k k 0 (O (N a0)) 0 a0):=by kernel_rfl
theorem al.bw(k j:Nat)(x0 x1 x2 x3):al.L0 k (j+1) x0 x1 x2 x3=T (D.lt x2 x1) (al.L1 k j k x0 x2 x1 x2 x2 0 x3) (some x0):=(jn _ _).trans (by kernel_rfl)
theorem al.fx(k k1 j:Nat)(x0 x1 x2 x3 x4 x5 x6):al.L1 k k1 (j+1) x0 x1 x2 x3 x4 x5 x6=T (D.lt x5 x4) (T (D.le 0 x5) (T (U (V x5) (N x6)) (T (U (V x5) (N x6)) (T (D.le 0 x1) (T (U (V x1) (N x6)) (T (U (V x1) (N x6)) (T (D.lt (E x6 (V x1) 0) (E x6 (V x5) 0)) (al.J2 k k1 j (Z .i64 (A x0 1)) x1 x2 x3 x4 x5 x6) (al.J2 k k1 j x0 x1 x2 x3 x4 x5 x6)) none) none) none) none) none) none) (al.L0 k k1 x0 x2 (Z .i64 (A x3 1)) x6):=(jn _ _).trans (by kernel_rfl)
theorem al.lf(k k1 k2:Nat)(x0 x1 x2 x3 x4 x5 x6):al.J2 k k1 k2 x0 x1 x2 x3 x4 x5 x6=al.L1 k k1 k2 x0 x1 x2 x3 x4 (Z .i64 (A x5 1)) x6:=(jn _ _).trans (by kernel_rfl)
def FH:Code:=cB (cB (cB (cU P 47)))
def Fb:Code:=cC (cC (cB (cA FH)))
def FK(k:Nat):cW (den (resTy P 47)):=bM 0 (JK k 47 (cB FH) (R0 47))
def aS(k:Nat)(a0:LI):Option Int:=call k 47 a0
def aS.L0(k j:Nat)(x0 x1:Int)(x2:LI):Option Int:=LL k 47 Fb j (FK k) [frm 28 [(0,Sl 0),(3,In x0),(4,In x1)]] [Ro x2]
def aS.J1(k k1:Nat)(x0 x1:Int)(x2:LI):Option Int:=JJ k 47 (cB (cB Fb)) (LK k 47 Fb k1 (FK k)) [frm 28 [(0,Sl 0),(3,In x0),(4,In x1)]] [Ro x2]
theorem aS.eq(k:Nat)(a0):aS (k+1) a0=B (cw k a0) fun r0=>T (D.no r0) (some (-1)) (aS.L0 k k 0 1 a0):=by kernel_rfl
theorem aS.bw(k j:Nat)(x0 x1 x2):aS.L0 k (j+1) x0 x1 x2=T (D.lt x1 (O (N x2))) (T (D.le 0 (Z .i64 (M x1 1))) (T (U (V (Z .i64 (M x1 1))) (N x2)) (T (U (V (Z .i64 (M x1 1))) (N x2)) (T (D.le 0 x1) (T (U (V x1) (N x2)) (T (U (V x1) (N x2)) (T (D.lt (E x2 (V x1) 0) (E x2 (V (Z .i64 (M x1 1))) 0)) (aS.J1 k j (Z .i64 (A x0 x1)) x1 x2) (aS.J1 k j x0 x1 x2)) none) none) none) none) none) none) (some x0):=(jn _ _).trans (by kernel_rfl)
theorem aS.gw(k k1:Nat)(x0 x1 x2):aS.J1 k k1 x0 x1 x2=aS.L0 k k1 x0 (Z .i64 (A x1 1)) x2:=(jn _ _).trans (by kernel_rfl)
def bC(k:Nat)(a0:LI):Option ByteArray:=call k 15 a0
def bC.J0(k:Nat)(x0:ByteArray)(x1 x2 x3:LI)(x4:LJ)(x5:LI)(x6:LJ):Option ByteArray:=JJ k 15 (cB (cB (cB (cB (cB (cB (cB (cU P 15)))))))) (R0 15) [frm 47 [(0,Sl 0),(3,.pv 1 0),(5,.pv 2 0),(7,Sl 3),(9,.str x0)]] [Ro x1,.var [Sl 4,Sl 5],.var [Sl 6,Sl 7],Rw x2,Rw x3,Rww x4,Rw x5,Rww x6]
theorem bC.eq(k:Nat)(a0):bC (k+1) a0=B (dN k a0) fun r0=>T (D.no r0.2) (some (⟨#[]⟩:ByteArray)) (B (fk k a0) fun r1=>B (bp k a0) fun r2=>B (bW k a0) fun r3=>T r3 (bC.J0 k (⟨#[108,97,116,116,105,99,101]⟩:ByteArray) a0 r2.1 r0.1.1 r0.1.2 r1.1.1 r1.1.2) (bC.J0 k (⟨#[111,116,104,101,114]⟩:ByteArray) a0 r2.1 r0.1.1 r0.1.2 r1.1.1 r1.1.2)):=by kernel_rfl
theorem bC.kP(k:Nat)(x0 x1 x2 x3 x4 x5 x6):bC.J0 k x0 x1 x2 x3 x4 x5 x6=B (br k (x3,x4)) fun r4=>B (br k (x5,x6)) fun r5=>B (eF k x1) fun r6=>B (dS k r6) fun r7=>B (al k x1) fun r8=>B (dy k r8) fun r9=>B (aS k x1) fun r10=>B (dy k r10) fun r11=>B (eP k x2) fun r12=>B (gG k ((⟨#[105,110,115,101,114,116]⟩:ByteArray)::(r4::((⟨#[114,101,99,111,114,100]⟩:ByteArray)::(r5::((⟨#[115,104,97,112,101]⟩:ByteArray)::(r7::((⟨#[105,110,118,101,114,115,105,111,110,115]⟩:ByteArray)::(r9::((⟨#[109,97,106,111,114]⟩:ByteArray)::(r11::(x0::((⟨#[104,105,103,104,101,115,116]⟩:ByteArray)::(r12::([]:List ByteArray)))))))))))))) (⟨#[32]⟩:ByteArray)) fun r13=>some r13:=(jn _ _).trans (by kernel_rfl)
def dw(k:Nat)(a0:Int):Option ByteArray:=call k 8 a0
theorem dw.eq(k:Nat)(a0):dw (k+1) a0=B (eI k a0) fun r0=>B (aX k r0) fun r1=>T (D.no r1.2) (some (⟨#[]⟩:ByteArray)) (B (bC k r1.1) fun r2=>some r2):=by kernel_rfl
def bz(k:Nat)(a0:Int):Option Bool:=call k 3 a0
theorem bz.eq(k:Nat)(a0):bz (k+1) a0=B (dz k a0) fun r0=>B (dw k a0) fun r1=>T (D.no (D.eqS r1 r0)) (some false) (some true):=by kernel_rfl
end Go.Am.Seat
