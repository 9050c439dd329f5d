/- What the machine's words on data mean, as rewriting rules. -/
import Derived.Test.YtlfpegcoaebmkaaAmM
import Derived.IntWalk
set_option linter.unusedSimpArgs false
set_option linter.unusedVariables false
set_option linter.unnecessarySimpa false
set_option linter.unusedSectionVars false
section
/- The machine's words on data, as they mean them: rewriting rules for the pure laws. -/
namespace Go.Am
attribute [local instance] D.real
instance : DJ := ⟨fun _ _ => rfl⟩
section
variable {α β : Type}
@[simp] theorem bh (xs : List α) (i : Nat) (d : α) : D.rd xs i d = xs.getD i d := rfl
@[simp] theorem aC (xs : List α) : D.len xs = xs.length := rfl
@[simp] theorem D3 (xs : List α) : D.lenI xs = (xs.length : Int) := rfl
@[simp] theorem aJ (xs ys : List α) : D.app xs ys = xs ++ ys := rfl
@[simp] theorem aH (xs : List α) (i : Nat) (x : α) : D.set xs i x = xs.set i x := rfl
@[simp] theorem aq (n : Nat) (xs : List α) : D.take n xs = xs.take n := rfl
@[simp] theorem ao (n : Nat) (xs : List α) : D.drop n xs = xs.drop n := rfl
@[simp] theorem aQ (n : Nat) (x : α) : D.rep n x = List.replicate n x := rfl
@[simp] theorem ar (b : Bool) (x y : Option α) : D.test b x y = if b = true then x else y := rfl
theorem D8 (x : Option α) (f : α → Option β) : D.bnd x f = x.bind f := rfl
@[simp] theorem ae (x : α) (f : α → Option β) : D.bnd (some x) f = f x := id rfl
@[simp] theorem D6 (b : Bool) (x y : α) : D.sel b x y = if b = true then x else y := rfl
@[simp] theorem bq (b : Bool) : D.no b = !b := rfl
@[simp] theorem al (k : IntKind) (n : Int) : D.wrap k n = k.wrap n := rfl
@[simp] theorem aK (a b : Int) : D.add a b = a + b := rfl
@[simp] theorem aG (a b : Int) : D.sub a b = a - b := rfl
@[simp] theorem oY (a b : Int) : D.mul a b = a * b := rfl
@[simp] theorem Ed (a b : Int) : D.quo a b = a.tdiv b := rfl
@[simp] theorem Ec (a b : Int) : D.rem a b = a.tmod b := rfl
@[simp] theorem aD (n : Nat) : D.ofN n = (n : Int) := rfl
@[simp] theorem aE (n : Int) : D.nat n = n.toNat := rfl
@[simp] theorem kn (a b : Nat) : D.addN a b = a + b := rfl
@[simp] theorem ir (a b : Nat) : D.subN a b = a - b := rfl
@[simp] theorem br (a b : Int) : D.eq a b = decide (a = b) := rfl
@[simp] theorem bt (a b : Int) : D.lt a b = decide (a < b) := rfl
@[simp] theorem bo (a b : Int) : D.le a b = decide (a ≤ b) := rfl
@[simp] theorem aN (a b : Bool) : D.eqB a b = (a == b) := rfl
@[simp] theorem aL (a b : Nat) : D.ltN a b = decide (a < b) := rfl
@[simp] theorem aP (a b : Nat) : D.leN a b = decide (a ≤ b) := rfl
@[simp] theorem aM (a b : Nat) : D.eqN a b = decide (a = b) := rfl
@[simp] theorem aO (p q : List (Nat × Nat)) : D.eqP p q = decide (p = q) := rfl
theorem C1 (x y : Option α) : D.both x y = ways x y := rfl
@[simp] theorem D7 (a b : ByteArray) : D.eqS a b = (a.toList == b.toList) := rfl
@[simp] theorem D9 (a b : ByteArray) : D.ltS a b = Op.bytesLess a.toList b.toList := rfl
@[simp] theorem lT (a b : ByteArray) : D.catS a b = a ++ b := rfl
@[simp] theorem lR (s : ByteArray) : D.lenS s = s.size := rfl
@[simp] theorem D1 (s : ByteArray) (l h : Nat) : D.cutS s l h = s.extract l h := rfl
@[simp] theorem D2 (s : ByteArray) (i : Nat) : D.byte s i = ((s.data.getD i 0).toNat : Int) := rfl
@[simp] theorem Da (xs : List Int) : D.ofInts xs = ⟨(xs.map fun n => UInt8.ofNat n.toNat).toArray⟩ := rfl
@[simp] theorem DZ (s : ByteArray) : D.ints s = s.data.toList.map fun b => (b.toNat : Int) := rfl
@[simp] theorem Ea (a b : Bool) : D.or2 a b = (a || b) := rfl
end
theorem w64 {n : Int} (h1 : -9223372036854775808 ≤ n) (h2 : n ≤ 9223372036854775807) : IntKind.i64.wrap n = n := by
  exact IntWalk.i64_in n ⟨h1, h2⟩
end Go.Am
end
