/- What the machine's words on data mean, as rewriting rules. -/
import Derived.Test.YtloognjnfelgfaaDoorAmM
import Derived.IntWalk
set_option linter.unusedSimpArgs false
set_option linter.unusedVariables false
set_option linter.unnecessarySimpa false
set_option linter.unusedSectionVars false
section
/- The machine's words on data, as they mean them: rewriting rules for the pure laws. -/
namespace Go.Am
attribute [local instance] D.real
instance:DJ:=⟨fun _ _=>rfl⟩
section
variable {α β : Type}
@[simp] theorem fU (xs : List α) (i : Nat) (d : α) : D.rd xs i d = xs.getD i d := rfl
@[simp] theorem cO (xs : List α) : D.len xs = xs.length := rfl
@[simp] theorem HP (xs : List α) : D.lenI xs = (xs.length : Int) := rfl
@[simp] theorem dE (xs ys : List α) : D.app xs ys = xs ++ ys := rfl
@[simp] theorem dt (xs : List α) (i : Nat) (x : α) : D.set xs i x = xs.set i x := rfl
@[simp] theorem b8 (n : Nat) (xs : List α) : D.take n xs = xs.take n := rfl
@[simp] theorem b9 (n : Nat) (xs : List α) : D.drop n xs = xs.drop n := rfl
@[simp] theorem dH (n : Nat) (x : α) : D.rep n x = List.replicate n x := rfl
@[simp] theorem aR (b : Bool) (x y : Option α) : D.test b x y = if b = true then x else y := rfl
theorem HW(x:Option α)(f:α→Option β):D.bnd x f=x.bind f:=rfl
@[simp] theorem b7 (x : α) (f : α → Option β) : D.bnd (some x) f = f x := id rfl
@[simp] theorem HZ (b : Bool) (x y : α) : D.sel b x y = if b = true then x else y := rfl
@[simp] theorem fV (b : Bool) : D.no b = !b := rfl
@[simp] theorem bX (k : IntKind) (n : Int) : D.wrap k n = k.wrap n := rfl
@[simp] theorem dj (a b : Int) : D.add a b = a + b := rfl
@[simp] theorem dA (a b : Int) : D.sub a b = a - b := rfl
@[simp] theorem dW (a b : Int) : D.mul a b = a * b := rfl
@[simp] theorem HX (a b : Int) : D.quo a b = a.tdiv b := rfl
@[simp] theorem H0 (a b : Int) : D.rem a b = a.tmod b := rfl
@[simp] theorem cM (n : Nat) : D.ofN n = (n : Int) := rfl
@[simp] theorem di (n : Int) : D.nat n = n.toNat := rfl
@[simp] theorem ch (a b : Nat) : D.addN a b = a + b := rfl
@[simp] theorem cn (a b : Nat) : D.subN a b = a - b := rfl
@[simp] theorem fW (a b : Int) : D.eq a b = decide (a = b) := rfl
@[simp] theorem fJ (a b : Int) : D.lt a b = decide (a < b) := rfl
@[simp] theorem fR (a b : Int) : D.le a b = decide (a ≤ b) := rfl
@[simp] theorem dC (a b : Bool) : D.eqB a b = (a == b) := rfl
@[simp] theorem dm (a b : Nat) : D.ltN a b = decide (a < b) := rfl
@[simp] theorem dD (a b : Nat) : D.leN a b = decide (a ≤ b) := rfl
@[simp] theorem dF (a b : Nat) : D.eqN a b = decide (a = b) := rfl
@[simp] theorem dB (p q : List (Nat × Nat)) : D.eqP p q = decide (p = q) := rfl
theorem Hd(x y:Option α):D.both x y=ways x y:=rfl
@[simp] theorem H4 (a b : ByteArray) : D.eqS a b = (a.toList == b.toList) := rfl
@[simp] theorem HY (a b : ByteArray) : D.ltS a b = Op.bytesLess a.toList b.toList := rfl
@[simp] theorem ck (a b : ByteArray) : D.catS a b = a ++ b := rfl
@[simp] theorem cm (s : ByteArray) : D.lenS s = s.size := rfl
@[simp] theorem HT (s : ByteArray) (l h : Nat) : D.cutS s l h = s.extract l h := rfl
@[simp] theorem HS (s : ByteArray) (i : Nat) : D.byte s i = ((s.data.getD i 0).toNat : Int) := rfl
@[simp] theorem HB (xs : List Int) : D.ofInts xs = ⟨(xs.map fun n => UInt8.ofNat n.toNat).toArray⟩ := rfl
@[simp] theorem HQ (s : ByteArray) : D.ints s = s.data.toList.map fun b => (b.toNat : Int) := rfl
@[simp] theorem H3 (a b : Bool) : D.or2 a b = (a || b) := rfl
end
theorem w64{n:Int}(h1: -9223372036854775808≤n)(h2:n≤9223372036854775807):IntKind.i64.wrap n=n:=by
 exact IntWalk.i64_in n ⟨h1,h2⟩
end Go.Am
end
