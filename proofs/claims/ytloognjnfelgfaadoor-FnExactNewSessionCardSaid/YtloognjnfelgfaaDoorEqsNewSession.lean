/- The machine's equations for the functions that the law reaches, each checked by the kernel; no conditions. -/
import Derived.Test.YtloognjnfelgfaaDoorCfgNewSession
import Derived.Test.YtloognjnfelgfaaDoorProg
set_option linter.unusedSimpArgs false
set_option linter.unusedVariables false
set_option linter.unnecessarySimpa false
set_option linter.unusedSectionVars false
noncomputable section
namespace Go.Am.Seat
open Go Go.Am Go.Proofs
set_option linter.unusedVariables false
set_option linter.unusedSectionVars false
set_option maxRecDepth 100000
variable [D] [DJ]
abbrev LI:=List Int
abbrev LJ:=List (List Int)
abbrev P:Program:=Go.Proofs.Tryd.prog
def ext:Ext P:=BL P Bb
def X{R:Type}(k f:Nat)(c:Code):St→cx R→Option R:=exec P cfg (qF P cfg ext k) k f c
abbrev call(k f:Nat)(x:den (dx P f)):Option (den (resTy P f)):=u3 P cfg ext k f x
def R0(f:Nat):cx (den (resTy P f)):=rJ (finish P f (C2 P f))
def JK{T:Type}(k f:Nat)(c:Code)(K:cx T):cx T:=nL (fun a b=>eZ (Cfg.joins cfg f (key c)) (fun s=>X k f c s b) a) K
def LK{T:Type}(k f:Nat)(c:Code)(j:Nat)(K:cx T):cx T:=nL (fun a b=>eZ (Cfg.loops cfg f (key c)) (fun s=>ik (fun x y=>X k f c x y) (Cfg.loops cfg f (key c)) j s b) a) K
def LL{T:Type}(k f:Nat)(c:Code)(j:Nat)(K:cx T)(fr:List (List AV))(rs:List aj):Option T:=D.jn (fun a=>ik (fun x y=>X k f c x y) (Cfg.loops cfg f (key c)) j a K) (St.mk fr rs)
def JJ{T:Type}(k f:Nat)(c:Code)(K:cx T)(fr:List (List AV))(rs:List aj):Option T:=D.jn (fun a=>X k f c a K) (St.mk fr rs)
abbrev IO_(k f nV nD n:Nat)(rs0:List aj)(fr:List (List AV))(rs:List aj):Option (den (resTy P f)×den (pT nV nD n rs0)):=jh (qF P cfg ext k) f nV nD n rs0 (St.mk fr rs)
def Sl(n:Nat):AV:= .sl n [] none
def In(n:Int):AV:= .int .i64 n
def Rw(x:LI):aj:= .row Bool.true (.int .i64) x
def Ro(x:LI):aj:= .row Bool.false (.int .i64) x
open Go.Am.D renaming test → T, bnd → B, len → N, nat → V, ltN → U, rd → E, ofN → O, wrap → Z, add → A, sub → M
open Go.Am.DJ renaming jn_eq → jn
open Go.Am.Code (cA cB cC cT)
def cw(k:Nat)(a0:Int):Option ByteArray:=call k 24 a0
theorem cw.eq(k:Nat)(a0):cw (k+1) a0=T (D.eq a0 1) (some (⟨#[51,49,50]⟩:ByteArray)) (T (D.eq a0 2) (some (⟨#[50,49,49,51]⟩:ByteArray)) (T (D.eq a0 3) (some (⟨#[53,52,51,50,49]⟩:ByteArray)) (T (D.eq a0 4) (some (⟨#[49,50,49,50]⟩:ByteArray)) (T (D.eq a0 5) (some (⟨#[45]⟩:ByteArray)) (T (D.eq a0 6) (some (⟨#[51,53,49,52,50]⟩:ByteArray)) (some (⟨#[]⟩:ByteArray))))))):=by kernel_rfl
def iq(k:Nat)(a0 a1 a2:Int):Option Bool:=call k 61 (a0,a1,a2)
theorem iq.eq(k:Nat)(a0 a1 a2):iq (k+1) a0 a1 a2=T (D.le a1 a0) (some (D.le a0 a2)) (some false):=by kernel_rfl
def c1:Code:=cB (ky P 30)
def bu(k:Nat)(a0:LI):Option Bool:=call k 30 a0
def bu.L0(k j:Nat)(x0:Int)(x1:LI):Option Bool:=LL k 30 (cC (cC (cB (cA c1)))) j (fq 0 (JK k 30 (cB c1) (R0 30))) [frm 19 [(0,Sl 0),(3,In x0)]] [Ro x1]
theorem bu.eq(k:Nat)(a0):bu (k+1) a0=bu.L0 k k 0 a0:=by kernel_rfl
theorem bu.dJ(k j:Nat)(x0 x1):bu.L0 k (j+1) x0 x1=T (D.lt x0 (O (N x1))) (T (D.le 0 x0) (T (U (V x0) (N x1)) (T (U (V x0) (N x1)) (B (iq k (E x1 (V x0) 0) 1 9) fun r0=>T (D.no r0) (some false) (bu.L0 k j (Z .i64 (A x0 1)) x1)) none) none) none) (some (D.le (O (N x1)) 9)):=(jn _ _).trans (by kernel_rfl)
def c2:Code:=cB (cB (cB (cB (ky P 37))))
def c3:Code:=cC (cC (cA c2))
def K4(k:Nat):cx (den (resTy P 37)):=fq 0 (JK k 37 (cB c2) (R0 37))
def aL(k:Nat)(a0:Int):Option ByteArray:=call k 37 a0
def aL.L0(k j:Nat)(x0:Int)(x1:Bool)(x2:ByteArray):Option ByteArray:=LL k 37 c3 j (K4 k) [frm 31 [(0,In x0),(3,.bool x1),(4,.str x2)]] []
def aL.J1(k k1:Nat)(x0:Int)(x1:Bool)(x2:ByteArray)(x3:Int):Option ByteArray:=JJ k 37 (cB (cB (cC (cB c3)))) (fq 1 (LK k 37 c3 k1 (K4 k))) [frm 31 [(0,In x0),(3,.bool x1),(4,.str x2),(5,In x3)]] []
theorem aL.eq(k:Nat)(a0):aL (k+1) a0=T (D.eq a0 0) (some (⟨#[48]⟩:ByteArray)) (aL.L0 k k a0 (D.lt a0 0) (⟨#[]⟩:ByteArray)):=by kernel_rfl
theorem aL.dJ(k j:Nat)(x0 x1 x2):aL.L0 k (j+1) x0 x1 x2=T (D.no (D.eq x0 0)) (T (D.no (D.eq 10 0)) (T (D.lt (D.rem x0 10) 0) (aL.J1 k j x0 x1 x2 (Z .i64 (M 0 (D.rem x0 10)))) (aL.J1 k j x0 x1 x2 (D.rem x0 10))) none) (T x1 (T (D.leN (D.addN (D.lenS (⟨#[45]⟩:ByteArray)) (D.lenS x2)) 1099511627776) (some (D.catS (⟨#[45]⟩:ByteArray) x2)) none) (some x2)):=(jn _ _).trans (by kernel_rfl)
theorem aL.vV(k k1:Nat)(x0 x1 x2 x3):aL.J1 k k1 x0 x1 x2 x3=T (D.leN (D.addN (D.lenS (D.ofInts ((Z .u8 (Z .i64 (A 48 x3)))::([]:LI)))) (D.lenS x2)) 1099511627776) (T (D.no (D.eq 10 0)) (aL.L0 k k1 (Z .i64 (D.quo x0 10)) x1 (D.catS (D.ofInts ((Z .u8 (Z .i64 (A 48 x3)))::([]:LI))) x2)) none) none:=(jn _ _).trans (by kernel_rfl)
def c5:Code:=cB (cB (cB (cB (ky P 40))))
def aZ(k:Nat)(a0:LI):Option ByteArray:=call k 40 a0
def aZ.L0(k j:Nat)(x0:ByteArray)(x1:Int)(x2:LI):Option ByteArray:=LL k 40 (cC (cC (cB (cA c5)))) j (fq 0 (JK k 40 (cB c5) (R0 40))) [frm 25 [(0,Sl 0),(3,.str x0),(4,In x1)]] [Ro x2]
theorem aZ.eq(k:Nat)(a0):aZ (k+1) a0=B (bu k a0) fun r0=>T (D.no r0) (some (⟨#[]⟩:ByteArray)) (T (D.eq (O (N a0)) 0) (some (⟨#[45]⟩:ByteArray)) (aZ.L0 k k (⟨#[]⟩:ByteArray) 0 a0)):=by kernel_rfl
theorem aZ.dJ(k j:Nat)(x0 x1 x2):aZ.L0 k (j+1) x0 x1 x2=T (D.lt x1 (O (N x2))) (T (D.le 0 x1) (T (U (V x1) (N x2)) (T (U (V x1) (N x2)) (B (aL k (E x2 (V x1) 0)) fun r1=>T (D.leN (D.addN (D.lenS x0) (D.lenS r1)) 1099511627776) (aZ.L0 k j (D.catS x0 r1) (Z .i64 (A x1 1)) x2) none) none) none) none) (some x0):=(jn _ _).trans (by kernel_rfl)
def c6:Code:=cB (cB (ky P 23))
def c7:Code:=cC (cC (cB (cA c6)))
def c8:Code:=cB c6
def K9(k:Nat):cx (den (resTy P 23)):=fq 0 (JK k 23 c8 (R0 23))
def ar(k:Nat)(a0:ByteArray):Option ((LI)×Bool):=call k 23 a0
def ar.L0(k j:Nat)(x0:ByteArray)(x1:Int)(x2:LI):Option ((LI)×Bool):=LL k 23 c7 j (K9 k) [frm 31 [(0,.str x0),(4,Sl 0),(5,In x1)]] [Rw x2]
def ar.J1(k k1:Nat)(x0:ByteArray)(x1:Int)(x2:LI):Option ((LI)×Bool):=JJ k 23 (cB c7) (LK k 23 c7 k1 (K9 k)) [frm 31 [(0,.str x0),(4,Sl 0),(5,In x1)]] [Rw x2]
def ar.J2(k:Nat)(x0:ByteArray)(x1:LI):Option ((LI)×Bool):=JJ k 23 c8 (R0 23) [frm 31 [(0,.str x0),(4,Sl 0)]] [Rw x1]
theorem ar.eq(k:Nat)(a0):ar (k+1) a0=ar.L0 k k a0 0 ([]:LI):=by kernel_rfl
theorem ar.dJ(k j:Nat)(x0 x1 x2):ar.L0 k (j+1) x0 x1 x2=T (D.lt x1 (O (D.lenS x0))) (T (D.no (D.eqS x0 (⟨#[45]⟩:ByteArray))) (ar.J1 k j x0 x1 x2) (ar.J2 k x0 x2)) (ar.J2 k x0 x2):=(jn _ _).trans (by kernel_rfl)
theorem ar.vV(k k1:Nat)(x0 x1 x2):ar.J1 k k1 x0 x1 x2=T (D.le 0 x1) (T (U (V x1) (D.lenS x0)) (T (D.leN (N (D.app x2 ((Z .i64 (M (Z .i64 (D.byte x0 (V x1))) 48))::([]:LI)))) 1099511627776) (ar.L0 k k1 x0 (Z .i64 (A x1 1)) (D.app x2 ((Z .i64 (M (Z .i64 (D.byte x0 (V x1))) 48))::([]:LI)))) none) none) none:=(jn _ _).trans (by kernel_rfl)
theorem ar.Dp(k:Nat)(x0 x1):ar.J2 k x0 x1=B (aZ k x1) fun r0=>T (D.no (D.eqS r0 x0)) (some (([]:LI),false)) (some (x1,true)):=(jn _ _).trans (by kernel_rfl)
def cS(k:Nat):Option ((LI)×(LI)):=call k 7 ()
theorem cS.eq(k:Nat):cS (k+1)=B (cw k 1) fun r0=>B (ar k r0) fun r1=>T (D.leN (N (D.app ([]:LI) r1.1)) 1099511627776) (some (r1.1,(D.app ([]:LI) r1.1))) none:=by kernel_rfl
def dE(k:Nat)(a0 a1 a2:Int):Option Bool:=call k 60 (a0,a1,a2)
theorem dE.eq(k:Nat)(a0 a1 a2):dE (k+1) a0 a1 a2=T (D.le a1 a0) (some (D.le a0 a2)) (some false):=by kernel_rfl
def cy(k:Nat)(a0:Int):Option ByteArray:=call k 26 a0
theorem cy.eq(k:Nat)(a0):cy (k+1) a0=B (dE k a0 1 6) fun r0=>T (D.no r0) (some (⟨#[]⟩:ByteArray)) (T (D.le 0 (Z .i64 (M a0 1))) (T (U (V (Z .i64 (M a0 1))) (N ((⟨#[51,49,50]⟩:ByteArray)::((⟨#[50,49,49,51]⟩:ByteArray)::((⟨#[53,52,51,50,49]⟩:ByteArray)::((⟨#[49,50,49,50]⟩:ByteArray)::((⟨#[45]⟩:ByteArray)::((⟨#[51,53,49,52,50]⟩:ByteArray)::([]:List ByteArray))))))))) (T (U (V (Z .i64 (M a0 1))) (N ((⟨#[51,49,50]⟩:ByteArray)::((⟨#[50,49,49,51]⟩:ByteArray)::((⟨#[53,52,51,50,49]⟩:ByteArray)::((⟨#[49,50,49,50]⟩:ByteArray)::((⟨#[45]⟩:ByteArray)::((⟨#[51,53,49,52,50]⟩:ByteArray)::([]:List ByteArray))))))))) (some (E ((⟨#[51,49,50]⟩:ByteArray)::((⟨#[50,49,49,51]⟩:ByteArray)::((⟨#[53,52,51,50,49]⟩:ByteArray)::((⟨#[49,50,49,50]⟩:ByteArray)::((⟨#[45]⟩:ByteArray)::((⟨#[51,53,49,52,50]⟩:ByteArray)::([]:List ByteArray))))))) (V (Z .i64 (M a0 1))) (⟨#[]⟩:ByteArray))) none) none) none):=by kernel_rfl
def cU(k:Nat)(x0:Int):Option (Bool×PUnit):=IO_ k 100 0 0 0 [] [[In x0],[]] []
theorem cU.eq(k:Nat)(x0):cU (k+1) x0=B (dE k x0 1 9) fun r0=>some ((D.no r0),()):=by kernel_rfl
def c10:Code:=cB (ky P 123)
def al(k:Nat)(x0:LI):Option (Int×PUnit):=IO_ k 123 0 0 0 [Ro []] [[Sl 0,.fn 100 [] []],[Sl 0]] [Ro x0]
def al.L0(k j:Nat)(x0 x1:Int)(x2:LI):Option (Int×PUnit):=LL k 123 (cC (cC (cB (cA c10)))) j (fq 0 (JK k 123 (cB c10) (rJ (jt P (C2 P 123) (fun z6 z7=>tf P 123 0 0 0 [Ro []] z6 z7))))) [frm 19 [(0,Sl 0),(1,.fn 100 [] []),(7,In x0),(8,In x1)],[Sl 0]] [Ro x2]
theorem al.eq(k:Nat)(x0):al (k+1) x0=al.L0 k k (O (N x0)) 0 x0:=by kernel_rfl
theorem al.dJ(k j:Nat)(x0 x1 x2):al.L0 k (j+1) x0 x1 x2=T (D.lt x1 x0) (T (D.le 0 x1) (T (U (V x1) (N x2)) (T (U (V x1) (N x2)) (B (cU k (E x2 (V x1) 0)) fun r0=>T r0.1 (some (x1,())) (al.L0 k j x0 (Z .i64 (A x1 1)) x2)) none) none) none) (some ((-1:Int),())):=(jn _ _).trans (by kernel_rfl)
def aF(k:Nat)(x0:LI):Option (Bool×PUnit):=IO_ k 99 0 0 0 [Ro []] [[Sl 0,.fn 100 [] []],[Sl 0]] [Ro x0]
theorem aF.eq(k:Nat)(x0):aF (k+1) x0=B (al k x0) fun r0=>some ((D.le 0 r0.1),()):=by kernel_rfl
def fh(k:Nat)(a0:LI):Option Bool:=call k 72 a0
theorem fh.eq(k:Nat)(a0):fh (k+1) a0=T (D.le (O (N a0)) 9) (B (aF k a0) fun r0=>some (D.no r0.1)) (some false):=by kernel_rfl
def strconv_Itoa(k:Nat)(a0:Int):Option ByteArray:=call k 84 a0
theorem strconv_Itoa.eq(k:Nat)(a0):strconv_Itoa (k+1) a0=pW a0:=by kernel_rfl
def dk(k:Nat)(a0:Int):Option ByteArray:=call k 49 a0
theorem dk.eq(k:Nat)(a0):dk (k+1) a0=B (strconv_Itoa k a0) fun r0=>some r0:=by kernel_rfl
def strings_Join(k:Nat)(a0:List ByteArray)(a1:ByteArray):Option ByteArray:=call k 77 (a0,a1)
theorem strings_Join.eq(k:Nat)(a0 a1):strings_Join (k+1) a0 a1=pU a0 a1:=by kernel_rfl
def iz(k:Nat)(a0:List ByteArray)(a1:ByteArray):Option ByteArray:=call k 45 (a0,a1)
theorem iz.eq(k:Nat)(a0 a1):iz (k+1) a0 a1=B (strings_Join k a0 a1) fun r0=>some r0:=by kernel_rfl
def c11:Code:=cB (cB (ky P 81))
def bt(k:Nat)(a0:LI)(a1:ByteArray):Option ByteArray:=call k 81 (a0,a1)
def bt.L0(k j:Nat)(x0:ByteArray)(x1 x2:Int)(x3:List ByteArray)(x4:LI):Option ByteArray:=LL k 81 (cC (cC (cB (cA c11)))) j (fq 0 (JK k 81 (cB c11) (R0 81))) [frm 24 [(1,.str x0),(5,Sl 0),(9,Sl 1),(10,In x1),(11,In x2)]] [.row Bool.true .str x3,Ro x4]
theorem bt.eq(k:Nat)(a0 a1):bt (k+1) a0 a1=bt.L0 k k a1 (O (N a0)) 0 ([]:List ByteArray) a0:=by kernel_rfl
theorem bt.dJ(k j:Nat)(x0 x1 x2 x3 x4):bt.L0 k (j+1) x0 x1 x2 x3 x4=T (D.lt x2 x1) (T (D.le 0 x2) (T (U (V x2) (N x4)) (T (U (V x2) (N x4)) (B (dk k (E x4 (V x2) 0)) fun r0=>T (D.leN (N (D.app x3 (r0::([]:List ByteArray)))) 1099511627776) (bt.L0 k j x0 x1 (Z .i64 (A x2 1)) (D.app x3 (r0::([]:List ByteArray))) x4) none) none) none) none) (B (iz k x3 x0) fun r1=>some r1):=(jn _ _).trans (by kernel_rfl)
def dN(k:Nat)(a0:LI):Option ByteArray:=call k 52 a0
theorem dN.eq(k:Nat)(a0):dN (k+1) a0=B (fh k a0) fun r0=>T (D.no r0) (some (⟨#[]⟩:ByteArray)) (T (D.eq (O (N a0)) 0) (some (⟨#[45]⟩:ByteArray)) (B (bt k a0 (⟨#[]⟩:ByteArray)) fun r1=>some r1)):=by kernel_rfl
def c12:Code:=cB (cB (ky P 25))
def c13:Code:=cB c12
def aD(k:Nat)(a0:ByteArray):Option ((LI)×Bool):=call k 25 a0
def aD.L0(k j:Nat)(x0:ByteArray)(x1 x2:Int)(x3:LI):Option ((LI)×Bool):=LL k 25 (cC (cC (cB (cT (cB (cA c12)))))) j (fq 0 (JK k 25 c13 (R0 25))) [frm 28 [(0,.str x0),(4,Sl 0),(10,In x1),(11,In x2)]] [Rw x3]
def aD.J1(k:Nat)(x0:ByteArray)(x1:LI):Option ((LI)×Bool):=JJ k 25 c13 (R0 25) [frm 28 [(0,.str x0),(4,Sl 0)]] [Rw x1]
theorem aD.eq(k:Nat)(a0):aD (k+1) a0=T (D.no (D.eqS a0 (⟨#[45]⟩:ByteArray))) (aD.L0 k k a0 (O (D.lenS a0)) 0 ([]:LI)) (aD.J1 k a0 ([]:LI)):=by kernel_rfl
theorem aD.dJ(k j:Nat)(x0 x1 x2 x3):aD.L0 k (j+1) x0 x1 x2 x3=T (D.lt x2 x1) (T (D.le 0 x2) (T (U (V x2) (D.lenS x0)) (T (D.leN (N (D.app x3 ((Z .i64 (M (Z .i64 (D.byte x0 (V x2))) 48))::([]:LI)))) 1099511627776) (aD.L0 k j x0 x1 (Z .i64 (A x2 1)) (D.app x3 ((Z .i64 (M (Z .i64 (D.byte x0 (V x2))) 48))::([]:LI)))) none) none) none) (aD.J1 k x0 x3):=(jn _ _).trans (by kernel_rfl)
theorem aD.vV(k:Nat)(x0 x1):aD.J1 k x0 x1=B (dN k x1) fun r0=>T (D.no (D.eqS r0 x0)) (some (([]:LI),false)) (some (x1,true)):=(jn _ _).trans (by kernel_rfl)
def bK(k:Nat)(a0:LI):Option LI:=call k 27 a0
theorem bK.eq(k:Nat)(a0):bK (k+1) a0=T (D.eqN (N a0) 0) (D.both (some ([]:LI)) (T (D.leN (N (D.app ([]:LI) a0)) 1099511627776) (some (D.app ([]:LI) a0)) none)) (T (D.leN (N (D.app ([]:LI) a0)) 1099511627776) (some (D.app ([]:LI) a0)) none):=by kernel_rfl
def b7(k:Nat):Option ((LI)×(LI)):=call k 8 ()
theorem b7.eq(k:Nat):b7 (k+1)=B (cy k 1) fun r0=>B (aD k r0) fun r1=>B (bK k r1.1) fun r2=>some (r1.1,r2):=by kernel_rfl
def c14:Code:=cB (cB (ky P 15))
def bg(k:Nat)(a0 a1:LI):Option Bool:=call k 15 (a0,a1)
def bg.L0(k j:Nat)(x0:Int)(x1 x2:LI):Option Bool:=LL k 15 (cC (cC (cB (cA c14)))) j (fq 0 (JK k 15 (cB c14) (R0 15))) [frm 26 [(0,Sl 0),(1,Sl 1),(5,In x0)]] [Ro x1,Ro x2]
theorem bg.eq(k:Nat)(a0 a1):bg (k+1) a0 a1=T (D.no (D.eq (O (N a0)) (O (N a1)))) (some false) (bg.L0 k k 0 a0 a1):=by kernel_rfl
theorem bg.dJ(k j:Nat)(x0 x1 x2):bg.L0 k (j+1) x0 x1 x2=T (D.lt x0 (O (N x1))) (T (D.le 0 x0) (T (U (V x0) (N x1)) (T (U (V x0) (N x1)) (T (D.le 0 x0) (T (U (V x0) (N x2)) (T (U (V x0) (N x2)) (T (D.no (D.eq (E x1 (V x0) 0) (E x2 (V x0) 0))) (some false) (bg.L0 k j (Z .i64 (A x0 1)) x1 x2)) none) none) none) none) none) none) (some true):=(jn _ _).trans (by kernel_rfl)
def ch(k:Nat)(a0 a1:(LI)×(LI)):Option Bool:=call k 9 (a0,a1)
theorem ch.eq(k:Nat)(a0 a1):ch (k+1) a0 a1=B (bg k a0.1 a1.1) fun r0=>T (D.no r0) (some false) (B (bg k a0.2 a1.2) fun r1=>T (D.no r1) (some false) (some true)):=by kernel_rfl
def c15:Code:=cB (ky P 28)
def aJ(k:Nat)(x0:Int)(x1:LI):Option (Int×(LI)):=IO_ k 28 0 1 1 [Rw []] [[Sl 0,In x0],[Sl 0]] [Rw x1]
def aJ.L0(k j:Nat)(x0 x1:Int)(x2:LI):Option (Int×(LI)):=LL k 28 (cC (cC (cB (cA c15)))) j (fq 0 (JK k 28 (cB c15) (rJ (jt P (C2 P 28) (fun z6 z7=>tf P 28 0 1 1 [Rw []] z6 z7))))) [frm 19 [(0,Sl 0),(1,In x0),(5,In x1)],[Sl 0]] [Rw x2]
theorem aJ.eq(k:Nat)(x0 x1):aJ (k+1) x0 x1=aJ.L0 k k x0 0 x1:=by kernel_rfl
theorem aJ.dJ(k j:Nat)(x0 x1 x2):aJ.L0 k (j+1) x0 x1 x2=T (D.lt x1 (O (N x2))) (T (D.le 0 x1) (T (U (V x1) (N x2)) (T (U (V x1) (N x2)) (aJ.L0 k j (Z .i64 (A x0 1)) (Z .i64 (A x1 1)) (D.set x2 (V x1) x0)) none) none) none) (some (x0,x2)):=(jn _ _).trans (by kernel_rfl)
def bO(k:Nat)(x0:Int)(x1 x2:LI):Option (Int×((LI)×(LI))):=IO_ k 10 0 2 2 [Rw [],Rw []] [[.agg [Sl 0,Sl 1],In x0],[Sl 0,Sl 1]] [Rw x1,Rw x2]
theorem bO.eq(k:Nat)(x0 x1 x2):bO (k+1) x0 x1 x2=B (aJ k x0 x1) fun r0=>B (aJ k r0.1 x2) fun r1=>some (r1.1,(r0.2,r1.2)):=by kernel_rfl
def c16:Code:=cB (ky P 29)
def aT(k:Nat)(a0:LI)(a1:Int):Option Int:=call k 29 (a0,a1)
def aT.L0(k j:Nat)(x0 x1:Int)(x2:LI):Option Int:=LL k 29 (cC (cC (cB (cA c16)))) j (fq 0 (JK k 29 (cB c16) (R0 29))) [frm 21 [(0,Sl 0),(1,In x0),(5,In x1)]] [Ro x2]
theorem aT.eq(k:Nat)(a0 a1):aT (k+1) a0 a1=aT.L0 k k a1 0 a0:=by kernel_rfl
theorem aT.dJ(k j:Nat)(x0 x1 x2):aT.L0 k (j+1) x0 x1 x2=T (D.lt x1 (O (N x2))) (T (D.le 0 x1) (T (U (V x1) (N x2)) (T (U (V x1) (N x2)) (T (D.no (D.eq (E x2 (V x1) 0) x0)) (some (-1)) (aT.L0 k j (Z .i64 (A x0 1)) (Z .i64 (A x1 1)) x2)) none) none) none) (some x0):=(jn _ _).trans (by kernel_rfl)
def bT(k:Nat)(a0:(LI)×(LI))(a1:Int):Option Int:=call k 11 (a0,a1)
theorem bT.eq(k:Nat)(a0 a1):bT (k+1) a0 a1=B (aT k a0.1 a1) fun r0=>T (D.lt r0 0) (some (-1)) (B (aT k a0.2 r0) fun r1=>T (D.lt r1 0) (some (-1)) (some r1)):=by kernel_rfl
def aX(k:Nat):Option Bool:=call k 3 ()
theorem aX.eq(k:Nat):aX (k+1)=B (cS k) fun r0=>B (b7 k) fun r1=>B (ch k (r1.1,r1.2) (r0.1,r0.2)) fun r2=>T (D.no r2) (some false) (B (bO k 1 r1.1 r1.2) fun r3=>B (bT k (r3.2.1,r3.2.2) 1) fun r4=>T (D.lt r4 0) (some false) (T (D.no (D.eq r4 r3.1)) (some false) (B (b7 k) fun r5=>B (ch k (r5.1,r5.2) (r0.1,r0.2)) fun r6=>T (D.no r6) (some false) (B (bT k (r3.2.1,r3.2.2) 1) fun r7=>T (D.lt r7 0) (some false) (T (D.no (D.eq r7 r3.1)) (some false) (some true)))))):=by kernel_rfl
end Go.Am.Seat
