/- What the machine's words on data mean, as rewriting rules. -/
import Derived.Test.YtlfpegcoaebmkaaGreatAmM
import Derived.IntWalk
set_option linter.unusedSimpArgs false
set_option linter.unusedVariables false
set_option linter.unnecessarySimpa false
set_option linter.unusedSectionVars false
section
/- The machine's words on data, as they mean them: rewriting rules for the pure laws. -/
namespace Go.Am
attribute [local instance] D.real
instance:DJ:=⟨fun _ _=>rfl⟩
section
variable {α β : Type}
@[simp] theorem fM (xs : List α) (i : Nat) (d : α) : D.rd xs i d = xs.getD i d := rfl
@[simp] theorem cM (xs : List α) : D.len xs = xs.length := rfl
@[simp] theorem K2 (xs : List α) : D.lenI xs = (xs.length : Int) := rfl
@[simp] theorem dI (xs ys : List α) : D.app xs ys = xs ++ ys := rfl
@[simp] theorem ep (xs : List α) (i : Nat) (x : α) : D.set xs i x = xs.set i x := rfl
@[simp] theorem dj (n : Nat) (xs : List α) : D.take n xs = xs.take n := rfl
@[simp] theorem di (n : Nat) (xs : List α) : D.drop n xs = xs.drop n := rfl
@[simp] theorem eV (n : Nat) (x : α) : D.rep n x = List.replicate n x := rfl
@[simp] theorem al (b : Bool) (x y : Option α) : D.test b x y = if b = true then x else y := rfl
theorem K9(x:Option α)(f:α→Option β):D.bnd x f=x.bind f:=rfl
@[simp] theorem bX (x : α) (f : α → Option β) : D.bnd (some x) f = f x := id rfl
@[simp] theorem Lf (b : Bool) (x y : α) : D.sel b x y = if b = true then x else y := rfl
@[simp] theorem gA (b : Bool) : D.no b = !b := rfl
@[simp] theorem cn (k : IntKind) (n : Int) : D.wrap k n = k.wrap n := rfl
@[simp] theorem dA (a b : Int) : D.add a b = a + b := rfl
@[simp] theorem dS (a b : Int) : D.sub a b = a - b := rfl
@[simp] theorem eZ (a b : Int) : D.mul a b = a * b := rfl
@[simp] theorem Ld (a b : Int) : D.quo a b = a.tdiv b := rfl
@[simp] theorem K6 (a b : Int) : D.rem a b = a.tmod b := rfl
@[simp] theorem dg (n : Nat) : D.ofN n = (n : Int) := rfl
@[simp] theorem dB (n : Int) : D.nat n = n.toNat := rfl
@[simp] theorem dh (a b : Nat) : D.addN a b = a + b := rfl
@[simp] theorem cQ (a b : Nat) : D.subN a b = a - b := rfl
@[simp] theorem gO (a b : Int) : D.eq a b = decide (a = b) := rfl
@[simp] theorem g7 (a b : Int) : D.lt a b = decide (a < b) := rfl
@[simp] theorem gF (a b : Int) : D.le a b = decide (a ≤ b) := rfl
@[simp] theorem eR (a b : Bool) : D.eqB a b = (a == b) := rfl
@[simp] theorem eC (a b : Nat) : D.ltN a b = decide (a < b) := rfl
@[simp] theorem eQ (a b : Nat) : D.leN a b = decide (a ≤ b) := rfl
@[simp] theorem eU (a b : Nat) : D.eqN a b = decide (a = b) := rfl
@[simp] theorem eT (p q : List (Nat × Nat)) : D.eqP p q = decide (p = q) := rfl
theorem Ih(x y:Option α):D.both x y=ways x y:=rfl
@[simp] theorem Lg (a b : ByteArray) : D.eqS a b = (a.toList == b.toList) := rfl
@[simp] theorem Le (a b : ByteArray) : D.ltS a b = Op.bytesLess a.toList b.toList := rfl
@[simp] theorem dx (a b : ByteArray) : D.catS a b = a ++ b := rfl
@[simp] theorem dw (s : ByteArray) : D.lenS s = s.size := rfl
@[simp] theorem KZ (s : ByteArray) (l h : Nat) : D.cutS s l h = s.extract l h := rfl
@[simp] theorem K1 (s : ByteArray) (i : Nat) : D.byte s i = ((s.data.getD i 0).toNat : Int) := rfl
@[simp] theorem Kl (xs : List Int) : D.ofInts xs = ⟨(xs.map fun n => UInt8.ofNat n.toNat).toArray⟩ := rfl
@[simp] theorem K5 (s : ByteArray) : D.ints s = s.data.toList.map fun b => (b.toNat : Int) := rfl
@[simp] theorem Lc (a b : Bool) : D.or2 a b = (a || b) := rfl
end
theorem w64{n:Int}(h1: -9223372036854775808≤n)(h2:n≤9223372036854775807):IntKind.i64.wrap n=n:=by
 exact IntWalk.i64_in n ⟨h1,h2⟩
end Go.Am
end
