/- What the machine's words on data mean, as rewriting rules. -/
import Derived.Test.YtloognjnfelgfaaGreatDoorAmM
import Derived.IntWalk
set_option linter.unusedSimpArgs false
set_option linter.unusedVariables false
set_option linter.unnecessarySimpa false
set_option linter.unusedSectionVars false
section
/- The machine's words on data, as they mean them: rewriting rules for the pure laws. -/
namespace Go.Am
attribute [local instance] D.real
instance:DJ:=⟨fun _ _=>rfl⟩
section
variable {α β : Type}
@[simp] theorem du (xs : List α) (i : Nat) (d : α) : D.rd xs i d = xs.getD i d := rfl
@[simp] theorem bJ (xs : List α) : D.len xs = xs.length := rfl
@[simp] theorem I4 (xs : List α) : D.lenI xs = (xs.length : Int) := rfl
@[simp] theorem cJ (xs ys : List α) : D.app xs ys = xs ++ ys := rfl
@[simp] theorem cp (xs : List α) (i : Nat) (x : α) : D.set xs i x = xs.set i x := rfl
@[simp] theorem bL (n : Nat) (xs : List α) : D.take n xs = xs.take n := rfl
@[simp] theorem bM (n : Nat) (xs : List α) : D.drop n xs = xs.drop n := rfl
@[simp] theorem cI (n : Nat) (x : α) : D.rep n x = List.replicate n x := rfl
@[simp] theorem aM (b : Bool) (x y : Option α) : D.test b x y = if b = true then x else y := rfl
theorem I6(x:Option α)(f:α→Option β):D.bnd x f=x.bind f:=rfl
@[simp] theorem ch (x : α) (f : α → Option β) : D.bnd (some x) f = f x := id rfl
@[simp] theorem I7 (b : Bool) (x y : α) : D.sel b x y = if b = true then x else y := rfl
@[simp] theorem dN (b : Bool) : D.no b = !b := rfl
@[simp] theorem bc (k : IntKind) (n : Int) : D.wrap k n = k.wrap n := rfl
@[simp] theorem bZ (a b : Int) : D.add a b = a + b := rfl
@[simp] theorem cx (a b : Int) : D.sub a b = a - b := rfl
@[simp] theorem cP (a b : Int) : D.mul a b = a * b := rfl
@[simp] theorem H8 (a b : Int) : D.quo a b = a.tdiv b := rfl
@[simp] theorem H5 (a b : Int) : D.rem a b = a.tmod b := rfl
@[simp] theorem bK (n : Nat) : D.ofN n = (n : Int) := rfl
@[simp] theorem bY (n : Int) : D.nat n = n.toNat := rfl
@[simp] theorem bS (a b : Nat) : D.addN a b = a + b := rfl
@[simp] theorem bW (a b : Nat) : D.subN a b = a - b := rfl
@[simp] theorem dU (a b : Int) : D.eq a b = decide (a = b) := rfl
@[simp] theorem dI (a b : Int) : D.lt a b = decide (a < b) := rfl
@[simp] theorem dP (a b : Int) : D.le a b = decide (a ≤ b) := rfl
@[simp] theorem cM (a b : Bool) : D.eqB a b = (a == b) := rfl
@[simp] theorem cd (a b : Nat) : D.ltN a b = decide (a < b) := rfl
@[simp] theorem cK (a b : Nat) : D.leN a b = decide (a ≤ b) := rfl
@[simp] theorem cL (a b : Nat) : D.eqN a b = decide (a = b) := rfl
@[simp] theorem cH (p q : List (Nat × Nat)) : D.eqP p q = decide (p = q) := rfl
theorem It(x y:Option α):D.both x y=ways x y:=rfl
@[simp] theorem IK (a b : ByteArray) : D.eqS a b = (a.toList == b.toList) := rfl
@[simp] theorem IG (a b : ByteArray) : D.ltS a b = Op.bytesLess a.toList b.toList := rfl
@[simp] theorem bU (a b : ByteArray) : D.catS a b = a ++ b := rfl
@[simp] theorem bT (s : ByteArray) : D.lenS s = s.size := rfl
@[simp] theorem I2 (s : ByteArray) (l h : Nat) : D.cutS s l h = s.extract l h := rfl
@[simp] theorem I1 (s : ByteArray) (i : Nat) : D.byte s i = ((s.data.getD i 0).toNat : Int) := rfl
@[simp] theorem F2 (xs : List Int) : D.ofInts xs = ⟨(xs.map fun n => UInt8.ofNat n.toNat).toArray⟩ := rfl
@[simp] theorem FT (s : ByteArray) : D.ints s = s.data.toList.map fun b => (b.toNat : Int) := rfl
@[simp] theorem IB (a b : Bool) : D.or2 a b = (a || b) := rfl
end
theorem w64{n:Int}(h1: -9223372036854775808≤n)(h2:n≤9223372036854775807):IntKind.i64.wrap n=n:=by
 exact IntWalk.i64_in n ⟨h1,h2⟩
end Go.Am
end
