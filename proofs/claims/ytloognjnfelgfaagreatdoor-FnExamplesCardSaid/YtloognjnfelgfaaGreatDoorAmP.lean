/- What the machine's words on data mean, as rewriting rules. -/
import Derived.Test.YtloognjnfelgfaaGreatDoorAmM
import Derived.IntWalk
set_option linter.unusedSimpArgs false
set_option linter.unusedVariables false
set_option linter.unnecessarySimpa false
set_option linter.unusedSectionVars false
section
/- The machine's words on data, as they mean them: rewriting rules for the pure laws. -/
namespace Go.Am
attribute [local instance] D.real
instance:DJ:=⟨fun _ _=>rfl⟩
section
variable {α β : Type}
@[simp] theorem dj (xs : List α) (i : Nat) (d : α) : D.rd xs i d = xs.getD i d := rfl
@[simp] theorem bL (xs : List α) : D.len xs = xs.length := rfl
@[simp] theorem GV (xs : List α) : D.lenI xs = (xs.length : Int) := rfl
@[simp] theorem bR (xs ys : List α) : D.app xs ys = xs ++ ys := rfl
@[simp] theorem b6 (xs : List α) (i : Nat) (x : α) : D.set xs i x = xs.set i x := rfl
@[simp] theorem bq (n : Nat) (xs : List α) : D.take n xs = xs.take n := rfl
@[simp] theorem bp (n : Nat) (xs : List α) : D.drop n xs = xs.drop n := rfl
@[simp] theorem ch (n : Nat) (x : α) : D.rep n x = List.replicate n x := rfl
@[simp] theorem aN (b : Bool) (x y : Option α) : D.test b x y = if b = true then x else y := rfl
theorem GZ(x:Option α)(f:α→Option β):D.bnd x f=x.bind f:=rfl
@[simp] theorem eZ (x : α) (f : α → Option β) : D.bnd (some x) f = f x := id rfl
@[simp] theorem G3 (b : Bool) (x y : α) : D.sel b x y = if b = true then x else y := rfl
@[simp] theorem cN (b : Bool) : D.no b = !b := rfl
@[simp] theorem a8 (k : IntKind) (n : Int) : D.wrap k n = k.wrap n := rfl
@[simp] theorem bT (a b : Int) : D.add a b = a + b := rfl
@[simp] theorem ck (a b : Int) : D.sub a b = a - b := rfl
@[simp] theorem cm (a b : Int) : D.mul a b = a * b := rfl
@[simp] theorem Fs (a b : Int) : D.quo a b = a.tdiv b := rfl
@[simp] theorem Fg (a b : Int) : D.rem a b = a.tmod b := rfl
@[simp] theorem bU (n : Nat) : D.ofN n = (n : Int) := rfl
@[simp] theorem bV (n : Int) : D.nat n = n.toNat := rfl
@[simp] theorem bu (a b : Nat) : D.addN a b = a + b := rfl
@[simp] theorem bB (a b : Nat) : D.subN a b = a - b := rfl
@[simp] theorem dx (a b : Int) : D.eq a b = decide (a = b) := rfl
@[simp] theorem dv (a b : Int) : D.lt a b = decide (a < b) := rfl
@[simp] theorem dw (a b : Int) : D.le a b = decide (a ≤ b) := rfl
@[simp] theorem ca (a b : Bool) : D.eqB a b = (a == b) := rfl
@[simp] theorem cg (a b : Nat) : D.ltN a b = decide (a < b) := rfl
@[simp] theorem b7 (a b : Nat) : D.leN a b = decide (a ≤ b) := rfl
@[simp] theorem cf (a b : Nat) : D.eqN a b = decide (a = b) := rfl
@[simp] theorem cd (p q : List (Nat × Nat)) : D.eqP p q = decide (p = q) := rfl
theorem FK(x y:Option α):D.both x y=ways x y:=rfl
@[simp] theorem w8 (a b : ByteArray) : D.eqS a b = (a.toList == b.toList) := rfl
@[simp] theorem GY (a b : ByteArray) : D.ltS a b = Op.bytesLess a.toList b.toList := rfl
@[simp] theorem bw (a b : ByteArray) : D.catS a b = a ++ b := rfl
@[simp] theorem bt (s : ByteArray) : D.lenS s = s.size := rfl
@[simp] theorem GU (s : ByteArray) (l h : Nat) : D.cutS s l h = s.extract l h := rfl
@[simp] theorem Dl (s : ByteArray) (i : Nat) : D.byte s i = ((s.data.getD i 0).toNat : Int) := rfl
@[simp] theorem DV (xs : List Int) : D.ofInts xs = ⟨(xs.map fun n => UInt8.ofNat n.toNat).toArray⟩ := rfl
@[simp] theorem D8 (s : ByteArray) : D.ints s = s.data.toList.map fun b => (b.toNat : Int) := rfl
@[simp] theorem GX (a b : Bool) : D.or2 a b = (a || b) := rfl
end
theorem w64{n:Int}(h1: -9223372036854775808≤n)(h2:n≤9223372036854775807):IntKind.i64.wrap n=n:=by
 exact IntWalk.i64_in n ⟨h1,h2⟩
end Go.Am
end
