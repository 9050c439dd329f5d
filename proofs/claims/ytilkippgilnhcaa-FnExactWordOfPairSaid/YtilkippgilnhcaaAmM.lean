/- The machine: an executor of code over data, by symbols; nothing is proved here but small facts of its parts. -/
import Derived.Calls
import Derived.KernelRfl
import Derived.Laws.Sem
import Derived.Orders
set_option linter.unusedSimpArgs false
set_option linter.unusedVariables false
set_option linter.unnecessarySimpa false
set_option linter.unusedSectionVars false
section
/- The abstract machine, first part: typed trees, abstract values, states. -/
noncomputable section
namespace Go.Am
class D where
  rd : {α : Type} → (xs : List α) → (i : Nat) → (d : α) → α
  len : {α : Type} → (xs : List α) → Nat
  lenI : {α : Type} → (xs : List α) → Int
  app : {α : Type} → (xs : List α) → (ys : List α) → List α
  set : {α : Type} → (xs : List α) → (i : Nat) → (x : α) → List α
  take : {α : Type} → (n : Nat) → (xs : List α) → List α
  drop : {α : Type} → (n : Nat) → (xs : List α) → List α
  rep : {α : Type} → (n : Nat) → (x : α) → List α
  test : {α : Type} → (b : Bool) → (x : Option α) → (y : Option α) → Option α
  bnd : {α : Type} → {β : Type} → (x : Option α) → (f : α → Option β) → Option β
  both : {α : Type} → (x : Option α) → (y : Option α) → Option α
  jn : {α : Type} → {β : Type} → (F : α → Option β) → (x : α) → Option β
  sel : {α : Type} → (b : Bool) → (x : α) → (y : α) → α
  no : (b : Bool) → Bool
  wrap : (k : IntKind) → (n : Int) → Int
  add : (a : Int) → (b : Int) → Int
  sub : (a : Int) → (b : Int) → Int
  mul : (a : Int) → (b : Int) → Int
  quo : (a : Int) → (b : Int) → Int
  rem : (a : Int) → (b : Int) → Int
  ofN : (n : Nat) → Int
  nat : (n : Int) → Nat
  addN : (a : Nat) → (b : Nat) → Nat
  subN : (a : Nat) → (b : Nat) → Nat
  eq : (a : Int) → (b : Int) → Bool
  lt : (a : Int) → (b : Int) → Bool
  le : (a : Int) → (b : Int) → Bool
  eqB : (a : Bool) → (b : Bool) → Bool
  ltN : (a : Nat) → (b : Nat) → Bool
  leN : (a : Nat) → (b : Nat) → Bool
  eqN : (a : Nat) → (b : Nat) → Bool
  eqP : (p : List (Nat × Nat)) → (q : List (Nat × Nat)) → Bool
  or2 : (a : Bool) → (b : Bool) → Bool
  eqS : (a : ByteArray) → (b : ByteArray) → Bool
  ltS : (a : ByteArray) → (b : ByteArray) → Bool
  catS : (a : ByteArray) → (b : ByteArray) → ByteArray
  lenS : (s : ByteArray) → Nat
  cutS : (s : ByteArray) → (l : Nat) → (h : Nat) → ByteArray
  byte : (s : ByteArray) → (i : Nat) → Int
  ofInts : (xs : List Int) → ByteArray
  ints : (s : ByteArray) → List Int
  andI : (k : IntKind) → (a : Int) → (b : Int) → Int
  orI : (k : IntKind) → (a : Int) → (b : Int) → Int
  xorI : (k : IntKind) → (a : Int) → (b : Int) → Int
  andNI : (k : IntKind) → (a : Int) → (b : Int) → Int
  shlI : (k : IntKind) → (a : Int) → (b : Int) → Int
  shrI : (k : IntKind) → (a : Int) → (b : Int) → Int
open Classical in
noncomputable def ways {α : Type} (x y : Option α) : Option α := if x = y then x else none
theorem wD {α : Type} {x y : Option α} {r : α} (h : ways x y = some r) : x = some r ∧ y = some r := by
  unfold ways at h
  split at h
  · next e => exact ⟨h, e ▸ h⟩
  · cases h
theorem wN {α : Type} (x : Option α) : ways x x = x := by simp [ways]
@[reducible] noncomputable def D.real : D where
  rd := fun {_} xs i d => xs.getD i d
  len := fun {_} xs => xs.length
  lenI := fun {_} xs => (xs.length : Int)
  app := fun {_} xs ys => xs ++ ys
  set := fun {_} xs i x => xs.set i x
  take := fun {_} n xs => xs.take n
  drop := fun {_} n xs => xs.drop n
  rep := fun {_} n x => List.replicate n x
  test := fun {_} b x y => if b = true then x else y
  bnd := fun {_} {_} x f => x.bind f
  both := fun {_} x y => ways x y
  jn := fun {_} {_} F x => F x
  sel := fun {_} b x y => if b = true then x else y
  no := fun b => !b
  wrap := fun k n => k.wrap n
  add := fun a b => a + b
  sub := fun a b => a - b
  mul := fun a b => a * b
  quo := fun a b => a.tdiv b
  rem := fun a b => a.tmod b
  ofN := fun n => (n : Int)
  nat := fun n => n.toNat
  addN := fun a b => a + b
  subN := fun a b => a - b
  eq := fun a b => decide (a = b)
  lt := fun a b => decide (a < b)
  le := fun a b => decide (a ≤ b)
  eqB := fun a b => a == b
  ltN := fun a b => decide (a < b)
  leN := fun a b => decide (a ≤ b)
  eqN := fun a b => decide (a = b)
  eqP := fun p q => decide (p = q)
  or2 := fun a b => a || b
  eqS := fun a b => a.toList == b.toList
  ltS := fun a b => Op.bytesLess a.toList b.toList
  catS := fun a b => a ++ b
  lenS := fun s => s.size
  cutS := fun s l h => s.extract l h
  byte := fun s i => ((s.data.getD i 0).toNat : Int)
  ofInts := fun xs => ⟨(xs.map fun n => UInt8.ofNat n.toNat).toArray⟩
  ints := fun s => s.data.toList.map fun b => (b.toNat : Int)
  andI := fun k a b => k.wrap (BitVec.ofInt k.bits a &&& BitVec.ofInt k.bits b).toNat
  orI := fun k a b => k.wrap (BitVec.ofInt k.bits a ||| BitVec.ofInt k.bits b).toNat
  xorI := fun k a b => k.wrap (BitVec.ofInt k.bits a ^^^ BitVec.ofInt k.bits b).toNat
  andNI := fun k a b => k.wrap (BitVec.ofInt k.bits a &&& ~~~(BitVec.ofInt k.bits b)).toNat
  shlI := fun k a b => k.wrap (a * 2 ^ min b.toNat k.bits)
  shrI := fun k a b => a.fdiv (2 ^ min b.toNat k.bits)
class DJ [D] : Prop where
  jn_eq : ∀ {α β : Type} (F : α → Option β) (x : α), D.jn F x = F x
variable [D]
inductive Tst where
  | s (b : Bool) | d (b : Bool)
inductive Ty where
  | int (k : IntKind) | bool | str | sl (e : Ty) | pair (a b : Ty) | unit
  deriving DecidableEq
@[reducible] def den : Ty → Type
  | .int _ => Int
  | .bool => Bool
  | .str => ByteArray
  | .sl e => List (den e)
  | .pair a b => den a × den b
  | .unit => Unit
def Ty.size : Ty → Nat
  | .pair a b => a.size + b.size
  | .unit => 0
  | _ => 1
def bM : (t : Ty) → den t
  | .int _ => (0 : Int)
  | .bool => false
  | .str => ByteArray.empty
  | .sl _ => []
  | .pair a b => (bM a, bM b)
  | .unit => ()
def Ty.flat : Ty → Bool
  | .sl _ => false
  | .pair a b => a.flat && b.flat
  | _ => true
def Ty.all : List Ty → Ty
  | [] => .unit
  | [t] => t
  | t :: u :: r => .pair t (Ty.all (u :: r))
abbrev Path := List (Nat × Nat)
inductive AV where
  | undef
  | int (k : IntKind) (n : Int)
  | bool (b : Bool)
  | kb (b : Bool)
  | nb (n : Nat)
  | str (s : ByteArray)
  | nilS
  | sl (r : Nat) (p : Path) (sub : Option (Nat × Nat))
  | pv (r c : Nat)
  | pe (r : Nat) (p : Path) (i f : Nat)
  | lit (r n : Nat)
  | fn (f : Nat) (first cap : List AV)
  | agg (cs : List AV)
  | tup (vs : List AV)
inductive ar where
  | dead
  | var (cs : List AV)
  | row (rw : Bool) (t : Ty) (xs : List (den t))
  | pend (r : Nat) (p : Path) (t : Ty) (xs : List (den t))
structure St where
  fr : List (List AV)
  rs : List ar
def AV.cells : AV → List AV
  | .agg cs => cs
  | v => [v]
def w9 : List (Option (Bool × Ty)) → Option (List Ty)
  | [] => some []
  | none :: _ => none
  | some x :: r => match w9 r with
    | some l => some (x.2 :: l)
    | none => none
def w6 (P : Program) : Nat → TypeId → Option (Bool × Ty)
  | 0, _ => none
  | n + 1, t =>
    match P.underlying t with
    | some .bool => some (false, .bool)
    | some (.int k) => some (false, .int k)
    | some .string => some (false, .str)
    | some (.slice e) => match w6 P n e with
      | some x => some (false, .sl x.2)
      | none => none
    | some (.struct fs) => match w9 (fs.toList.map fun f => w6 P n f.type) with
      | some l => some (true, Ty.all l)
      | none => none
    | some (.array m e) => match w6 P n e with
      | some x => some (true, Ty.all (List.replicate m x.2))
      | none => none
    | _ => none
def oX (P : Program) (t : TypeId) : Option (Bool × Ty) := w6 P 6 t
def tyD (P : Program) (t : TypeId) : Ty := match oX P t with
  | some x => x.2
  | none => .unit
def mB (P : Program) (t : TypeId) : Bool := match oX P t with
  | some x => x.1
  | none => true
def fk (P : Program) (f : Nat) : List TypeId := match P.funcs[f]? with
  | some fn => fn.params.toList
  | none => []
def dn (P : Program) (f : Nat) : List TypeId := match P.funcs[f]? with
  | some fn => fn.resultTypes.toList
  | none => []
def fN (P : Program) (f : Nat) : Ty := Ty.all ((fk P f).map (tyD P))
def resTy (P : Program) (f : Nat) : Ty := Ty.all ((dn P f).map (tyD P))
abbrev Cell := (t : Ty) × den t
abbrev Row := (t : Ty) × List (den t)
def cellAt : (t : Ty) → den t → Nat → Cell
  | .pair a b, d, f => bif Nat.blt f a.size then cellAt a d.1 f else cellAt b d.2 (f - a.size)
  | .unit, d, _ => ⟨.unit, d⟩
  | .int k, d, f => bif Nat.beq f 0 then ⟨.int k, d⟩ else ⟨.unit, ()⟩
  | .bool, d, f => bif Nat.beq f 0 then ⟨.bool, d⟩ else ⟨.unit, ()⟩
  | .str, d, f => bif Nat.beq f 0 then ⟨.str, d⟩ else ⟨.unit, ()⟩
  | .sl e, d, f => bif Nat.beq f 0 then ⟨.sl e, d⟩ else ⟨.unit, ()⟩
def bX : (t : Ty) → den t → Nat → ((c : Ty) → den c → den c) → den t
  | .pair a b, d, f, g => bif Nat.blt f a.size then (bX a d.1 f g, d.2) else (d.1, bX b d.2 (f - a.size) g)
  | .unit, d, _, _ => d
  | .int k, d, f, g => bif Nat.beq f 0 then g (.int k) d else d
  | .bool, d, f, g => bif Nat.beq f 0 then g .bool d else d
  | .str, d, f, g => bif Nat.beq f 0 then g .str d else d
  | .sl e, d, f, g => bif Nat.beq f 0 then g (.sl e) d else d
def rowAt : (t : Ty) → List (den t) → Path → List Tst × Row
  | t, xs, [] => ([], ⟨t, xs⟩)
  | t, xs, (i, f) :: p =>
    match cellAt t (D.rd xs i (bM t)) f with
    | ⟨.sl e, ys⟩ => match rowAt e ys p with
      | (ok, r) => (.d (D.ltN i (D.len xs)) :: ok, r)
    | _ => ([.s false], ⟨.unit, []⟩)
def fP : (t : Ty) → List (den t) → Path → ((e : Ty) → List (den e) → List (den e)) → List (den t)
  | t, xs, [], g => g t xs
  | t, xs, (i, f) :: p, g =>
    D.set xs i (bX t (D.rd xs i (bM t)) f fun c => match c with
      | .sl e => fun ys => fP e ys p g
      | _ => fun d => d)
def iu (r : Nat) (p : Path) (i : Nat) : (t : Ty) → den t → Nat → List AV
  | .int k, n, _ => [.int k n]
  | .bool, b, _ => [.bool b]
  | .str, s, _ => [.str s]
  | .sl _, _, f => [.sl r (p ++ [(i, f)]) none]
  | .pair a b, d, f => iu r p i a d.1 f ++ iu r p i b d.2 (f + a.size)
  | .unit, _, _ => []
def eW {α : Type} : Option (Nat × Nat) → List α → List α
  | none, xs => xs
  | some (o, l), xs => D.take l (D.drop o xs)
def eS {α : Type} : Option (Nat × Nat) → List α → Nat
  | none, xs => D.len xs
  | some (_, l), _ => l
def mF : Option (Nat × Nat) → Nat → Nat
  | none, n => n
  | some (o, _), n => D.addN o n
def lI {a b : Ty} (h : a = b) (x : List (den a)) : List (den b) := h ▸ x
abbrev Get := Nat → ar
def sliceAt (get : Get) (r : Nat) (p : Path) : List Tst × Row :=
  match get r with
  | .row _ t xs => rowAt t xs p
  | .pend _ _ t xs => match p with
    | [] => ([], ⟨t, xs⟩)
    | _ => ([.s false], ⟨.unit, []⟩)
  | _ => ([.s false], ⟨.unit, []⟩)
def bW (get : Get) : (t : Ty) → List AV → List Tst × den t × List AV
  | .int k, vs => match vs with
    | .int k' n :: vs => ([.s (decide (k' = k))], n, vs)
    | _ => ([.s false], (0 : Int), [])
  | .bool, vs => match vs with
    | .bool b :: vs => ([], b, vs)
    | .kb b :: vs => ([], b, vs)
    | _ => ([.s false], false, [])
  | .str, vs => match vs with
    | .str s :: vs => ([], s, vs)
    | _ => ([.s false], ByteArray.empty, [])
  | .sl e, vs => match vs with
    | .nilS :: vs => ([], ([] : List (den e)), vs)
    | .sl r p sub :: vs => match sliceAt get r p with
      | (ok, ⟨e', ys⟩) => match decEq e' e with
        | .isTrue h => (ok, eW sub (lI h ys), vs)
        | .isFalse _ => ([.s false], ([] : List (den e)), [])
    | _ => ([.s false], ([] : List (den e)), [])
  | .pair a b, vs => match bW get a vs with
    | (ok, x, vs) => match bW get b vs with
      | (ok', y, vs) => (ok ++ ok', (x, y), vs)
  | .unit, vs => ([], (), vs)
def fS {α : Type} (rd : List AV → List Tst × α × List AV) : Nat → List AV → List Tst × List α × List AV
  | 0, vs => ([], [], vs)
  | n + 1, vs => match rd vs with
    | (ok, x, vs) => match fS rd n vs with
      | (ok', xs, vs) => (ok ++ ok', x :: xs, vs)
def fR (get : Get) : (t : Ty) → List AV → List Tst × den t × List AV
  | .int k, vs => bW get (.int k) vs
  | .bool, vs => bW get .bool vs
  | .str, vs => bW get .str vs
  | .unit, vs => bW get .unit vs
  | .sl e, vs => match vs with
    | .lit r n :: vs' => match get r with
      | .var cs => match fS (bW get e) n cs with
        | (ok, xs, rest) => (.s rest.isEmpty :: .s (Nat.blt 0 e.size) :: ok, xs, vs')
      | _ => ([.s false], ([] : List (den e)), [])
    | vs => bW get (.sl e) vs
  | .pair a b, vs => match fR get a vs with
    | (ok, x, vs) => match fR get b vs with
      | (ok', y, vs) => (ok ++ ok', (x, y), vs)
def gives (get : Get) : (t : Ty) → List AV → List Tst × List Nat × List AV
  | .sl e, vs => match vs with
    | .nilS :: vs => ([], [], vs)
    | .sl r _ _ :: vs => match get r with
      | .row true _ _ => ([], [r], vs)
      | _ => ([.s false], [], [])
    | _ => ([.s false], [], [])
  | .pair a b, vs => match gives get a vs with
    | (ok, l, vs) => match gives get b vs with
      | (ok', l', vs) => (ok ++ ok', l ++ l', vs)
  | .unit, vs => ([], [], vs)
  | _, vs => ([], [], vs.tail)
def kn (rw : Bool) : (t : Ty) → den t → (base : Nat) → List AV × List ar
  | .int k, n, _ => ([.int k n], [])
  | .bool, b, _ => ([.bool b], [])
  | .str, s, _ => ([.str s], [])
  | .sl e, xs, base => ([.sl base [] none], [.row rw e xs])
  | .pair a b, d, base => match kn rw a d.1 base with
    | (vs, rs) => match kn rw b d.2 (base + rs.length) with
      | (vs', rs') => (vs ++ vs', rs ++ rs')
  | .unit, _, _ => ([], [])
def mkV (agg : Bool) (cs : List AV) : AV := bif agg then .agg cs else cs.headD .undef
def eZ (P : Program) (rw : Bool) : (ts : List TypeId) → den (Ty.all (ts.map (tyD P))) → (base : Nat) → List AV × List ar
  | [], _, _ => ([], [])
  | [t], d, base => match kn rw (tyD P t) d base with
    | (vs, rs) => ([mkV (mB P t) vs], rs)
  | t :: u :: r, d, base => match kn rw (tyD P t) d.1 base with
    | (vs, rs) => match eZ P rw (u :: r) d.2 (base + rs.length) with
      | (ws, rs') => (mkV (mB P t) vs :: ws, rs ++ rs')
def jt : (t : Ty) → List AV → (base : Nat) → List AV × List ar
  | .sl e, vs, base => match vs with
    | .nilS :: r => (.sl base [] none :: r, [.row true e []])
    | vs => (vs, [])
  | .pair a b, vs, base => match jt a (vs.take a.size) base with
    | (ws, rs) => match jt b (vs.drop a.size) (base + rs.length) with
      | (ws', rs') => (ws ++ ws', rs ++ rs')
  | .unit, vs, _ => (vs, [])
  | _, vs, _ => (vs, [])
end Go.Am
end
section
/- The abstract machine, second part: the operations as total functions with the tests that they ask; the executor. -/
noncomputable section
namespace Go.Am
variable [D]
structure Out where
  ok : List Tst
  v : AV
  upd : List (Nat × ar) := []
  cut : Option (Nat × Nat) := none
  quiet : List (Nat × Option Nat) := []
def Out.bad : Out := { ok := [.s false], v := .undef }
def lim : Nat := 1099511627776
def an (base : Nat) : List ar → List (Nat × ar)
  | [] => []
  | r :: rs => (base, r) :: an (base + 1) rs
def fA (cs : List AV) (c : Nat) (vs : List AV) : List AV := cs.take c ++ vs ++ cs.drop (c + vs.length)
def m9 (P : Program) (s : TypeId) (i : Nat) : Option (Nat × TypeId) :=
  match P.underlying s with
  | some (.struct fs) => match fs[i]? with
    | some f => some (f.offset, f.type)
    | none => none
  | _ => none
def iJ (P : Program) (t : TypeId) : Bool := match P.underlying t with
  | some (.struct _) => true
  | some (.array _ _) => true
  | _ => false
def fc (P : Program) (t : TypeId) : Bool := (P.underlying t).isSome && (P.info? t).isSome
def dM : Ty → Value → Bool
  | .int k, .int k' n => decide (k = k') && decide (n = 0)
  | .bool, .bool b => !b
  | .str, .string s => Nat.beq s.size 0
  | .sl _, .slice none 0 0 => true
  | _, _ => false
def kj : Ty → List Value → Option (List Value)
  | .pair a b, l => match kj a l with
    | some l => kj b l
    | none => none
  | .unit, l => some l
  | .int k, l => match l with
    | v :: l => bif dM (.int k) v then some l else none
    | [] => none
  | .bool, l => match l with
    | v :: l => bif dM .bool v then some l else none
    | [] => none
  | .str, l => match l with
    | v :: l => bif dM .str v then some l else none
    | [] => none
  | .sl e, l => match l with
    | v :: l => bif dM (.sl e) v then some l else none
    | [] => none
def jM (P : Program) (t : TypeId) : Bool := match P.info? t, oX P t, P.underlying t with
  | some i, some (agg, ty), some _ => Nat.beq i.size ty.size && Nat.ble i.bytes 128 && (agg == iJ P t) && (match i.zero with
    | some z => (match kj ty z.cells.toList with
      | some [] => true
      | _ => false)
    | none => false)
  | _, _, _ => false
def fO (P : Program) (t : TypeId) : Option TypeId := match P.underlying t with
  | some (.slice e) => some e
  | _ => none
def fq (P : Program) (t : TypeId) (base : Nat) : Option (List AV × List ar) :=
  match oX P t with
  | some x => bif jM P t then some (kn true x.2 (bM x.2) base) else none
  | none => match P.info? t with
    | some i => match i.zero with
      | some z => bif z.cells.toList.all Value.oneCell' then some (List.replicate z.cells.size .undef, []) else none
      | none => none
    | none => none
def ku (P : Program) (t : TypeId) (v : AV) (base : Nat) : AV × List ar :=
  match v with
  | .nilS => match jt (tyD P t) [.nilS] base with
    | (vs, rs) => (vs.headD .undef, rs)
  | .agg cs => match jt (tyD P t) cs base with
    | (vs, rs) => (.agg vs, rs)
  | v => (v, [])
def AV.iL : AV → Bool
  | .undef => false
  | .tup _ => false
  | _ => true
def vu (c a b : AV) : Out :=
  match c with
  | .kb true => { ok := [], v := a }
  | .kb false => { ok := [], v := b }
  | _ => .bad
def qQ (op : BinOp) (k : IntKind) (a b : Int) : Out :=
  match op with
  | .add => { ok := [], v := .int k (D.wrap k (D.add a b)) }
  | .sub => { ok := [], v := .int k (D.wrap k (D.sub a b)) }
  | .mul => { ok := [], v := .int k (D.wrap k (D.mul a b)) }
  | .quo => { ok := [.d (D.no (D.eq b 0))], v := .int k (D.wrap k (D.quo a b)) }
  | .rem => { ok := [.d (D.no (D.eq b 0))], v := .int k (D.rem a b) }
  | .eql => { ok := [], v := .bool (D.eq a b) }
  | .neq => { ok := [], v := .bool (D.no (D.eq a b)) }
  | .lss => { ok := [], v := .bool (D.lt a b) }
  | .leq => { ok := [], v := .bool (D.le a b) }
  | .gtr => { ok := [], v := .bool (D.lt b a) }
  | .geq => { ok := [], v := .bool (D.le b a) }
  | .and => { ok := [], v := .int k (D.andI k a b) }
  | .or => { ok := [], v := .int k (D.orI k a b) }
  | .xor => { ok := [], v := .int k (D.xorI k a b) }
  | .andNot => { ok := [], v := .int k (D.andNI k a b) }
  | _ => .bad
def lG (op : BinOp) (k : IntKind) (a b : Int) : Out :=
  match op with
  | .shl => { ok := [.d (D.le 0 b)], v := .int k (D.shlI k a b) }
  | .shr => { ok := [.d (D.le 0 b)], v := .int k (D.shrI k a b) }
  | _ => .bad
def vI : BinOp → Bool
  | .shl => true
  | .shr => true
  | _ => false
def nO (op : BinOp) (a b : ByteArray) : Out :=
  match op with
  | .add => { ok := [.d (D.leN (D.addN (D.lenS a) (D.lenS b)) lim)], v := .str (D.catS a b) }
  | .eql => { ok := [], v := .bool (D.eqS a b) }
  | .neq => { ok := [], v := .bool (D.no (D.eqS a b)) }
  | .lss => { ok := [], v := .bool (D.ltS a b) }
  | .leq => { ok := [], v := .bool (D.or2 (D.ltS a b) (D.eqS a b)) }
  | .gtr => { ok := [], v := .bool (D.no (D.or2 (D.ltS a b) (D.eqS a b))) }
  | .geq => { ok := [], v := .bool (D.no (D.ltS a b)) }
  | _ => .bad
def AV.toB : AV → AV
  | .kb b => .bool b
  | v => v
def o5 (P : Program) (t : TypeId) : Bool := match P.underlying t with
  | some .bool => true
  | _ => false
def nw (P : Program) (t : TypeId) (op : BinOp) (x y : AV) : Out :=
  match x.toB, y.toB with
  | .int k a, .int k' b => bif vI op then lG op k a b else bif decide (k = k') then qQ op k a b else .bad
  | .str a, .str b => nO op a b
  | .bool a, .bool b => match op with
    | .eql => { ok := [.s (o5 P t)], v := .bool (D.eqB a b) }
    | .neq => { ok := [.s (o5 P t)], v := .bool (D.no (D.eqB a b)) }
    | _ => .bad
  | _, _ => .bad
def nU (P : Program) (t : TypeId) (op : BinOp) (x y : AV) (get : Get) : Out :=
  match op, x, y with
  | .eql, .sl r p sub, .nilS => match get r with
    | .row _ t' xs => match rowAt t' xs p with
      | (ok, ⟨_, ys⟩) => { ok := .s (fO P t).isSome :: ok, v := .nb (eS sub ys) }
    | _ => .bad
  | _, _, _ => nw P t op x y
def xq (P : Program) (e : TypeId) : Bool := match P.underlying e with
  | some (.int .u8) => true
  | _ => false
def lH (P : Program) (src dst : TypeId) (x : AV) (get : Get) : Out :=
  match P.underlying src, P.underlying dst, x with
  | some _, some (.int k), .int _ n => { ok := [], v := .int k (D.wrap k n) }
  | some _, some .string, .str s => { ok := [], v := .str s }
  | some (.slice e), some .string, x =>
    bif xq P e then
      match bW get (.sl (.int .u8)) [x] with
      | (ok, xs, _) => { ok := ok, v := .str (D.ofInts xs) }
    else .bad
  | _, _, _ => .bad
def eT (P : Program) (t : TypeId) (te : Ty) : Bool := match fO P t with
  | some e => jM P e && decide (tyD P e = te) && Nat.blt 0 te.size
  | none => false
def qJ (P : Program) (t : TypeId) : Bool := match P.underlying t with
  | some .string => true
  | _ => false
def dP (P : Program) (t : TypeId) (cs : List AV) (f : Nat) : Out :=
  bif iJ P t then { ok := [.s (fc P t), .s (Nat.ble (f + P.cellsOf t) cs.length)], v := .agg ((cs.drop f).take (P.cellsOf t)) }
  else { ok := [.s (fc P t), .s (Nat.blt f cs.length)], v := cs.getD f .undef }
def dQ (P : Program) (t : TypeId) (a : AV) (get : Get) : Out :=
  match a with
  | .pv r c => match get r with
    | .var cs => dP P t cs c
    | _ => .bad
  | .pe r p i f => match get r with
    | .row _ t' xs => match rowAt t' xs p with
      | (ok, ⟨e, ys⟩) =>
        match dP P t (iu r p i e (D.rd ys i (bM e)) 0) f with
        | ⟨ok', v, _, _, _⟩ => { ok := ok ++ .d (D.ltN i (D.len ys)) :: ok', v := v }
    | _ => .bad
  | _ => .bad
def ep (v : AV) : (c : Ty) → den c → den c
  | .int _, d => match v with
    | .int _ n => n
    | _ => d
  | .bool, d => match v with
    | .bool b => b
    | .kb b => b
    | _ => d
  | .str, d => match v with
    | .str s => s
    | _ => d
  | _, d => d
def cO (v : AV) : Ty → Bool
  | .int k => match v with
    | .int k' _ => decide (k = k')
    | _ => false
  | .bool => match v with
    | .bool _ => true
    | .kb _ => true
    | _ => false
  | .str => match v with
    | .str _ => true
    | _ => false
  | _ => false
def kM (e : Ty) (ys : List (den e)) : (c : Ty) → den c → den c
  | .sl e', d => match decEq e e' with
    | .isTrue h => lI h ys
    | .isFalse _ => d
  | _, d => d
def iR (t : Ty) (xs : List (den t)) (p : Path) (i f : Nat) (g : (c : Ty) → den c → den c) : ar :=
  .row true t (fP t xs p fun e' zs => D.set zs i (bX e' (D.rd zs i (bM e')) f g))
def kY (v : AV) (r : Nat) (p : Path) (i f : Nat) (t : Ty) (xs : List (den t)) (e : Ty) (chk : List Tst) (get : Get) : Out :=
  match v with
  | .nilS => { ok := chk, v := .tup [], upd := [(r, iR t xs p i f (kM e []))], cut := some (r, p.length + 1), quiet := [(r, none)] }
  | .sl r2 q sub =>
    bif Nat.beq r2 r then
      match rowAt t xs q with
      | (ok, ⟨e', ys⟩) => match decEq e' e with
        | .isTrue h => { ok := chk ++ ok ++ [.d (D.eqP q (p ++ [(i, f)]))], v := .tup [], upd := [(r, iR t xs p i f (kM e (eW sub (lI h ys))))], cut := some (r, p.length + 1), quiet := [(r, none)] }
        | .isFalse _ => .bad
    else match q, get r2 with
      | [], .row true e' ys => match decEq e' e with
        | .isTrue h => { ok := chk, v := .tup [], upd := [(r2, .dead), (r, iR t xs p i f (kM e (eW sub (lI h ys))))], cut := some (r, p.length + 1), quiet := [(r, none), (r2, none)] }
        | .isFalse _ => .bad
      | [], .pend r' p' e' ys => match decEq e' e, sub with
        | .isTrue h, none => { ok := chk ++ [.s (Nat.beq r' r), .d (D.eqP p' (p ++ [(i, f)]))], v := .tup [], upd := [(r2, .dead), (r, iR t xs p i f (kM e (lI h ys)))], cut := some (r, p.length + 1), quiet := [(r, some r2)] }
        | _, _ => .bad
      | _, _ => .bad
  | _ => .bad
def gr (v : AV) (r : Nat) (p : Path) (i f : Nat) (t : Ty) (xs : List (den t)) (get : Get) : Out :=
  match rowAt t xs p with
  | (ok, ⟨e, ys⟩) => match (cellAt e (D.rd ys i (bM e)) f).1 with
    | .sl e' => kY v r p i f t xs e' (ok ++ [.d (D.ltN i (D.len ys))]) get
    | c => { ok := ok ++ [.d (D.ltN i (D.len ys)), .s (cO v c)], v := .tup [], upd := [(r, iR t xs p i f (ep v))], quiet := [(r, none)] }
def ij (e : Ty) : Nat → List AV → Bool
  | _, [] => true
  | f, v :: vs => cO v (cellAt e (bM e) f).1 && ij e (f + 1) vs
def kP (e : Ty) : den e → Nat → List AV → den e
  | d, _, [] => d
  | d, f, v :: vs => kP e (bX e d f (ep v)) (f + 1) vs
def rH (P : Program) (ty : TypeId) (v : AV) (r : Nat) (i f : Nat) (t : Ty) (xs : List (den t)) : Out :=
  { ok := [.s (fc P ty), .s v.iL, .s (Nat.beq v.cells.length (P.cellsOf ty)), .s (!v.cells.isEmpty), .s (ij t f v.cells), .d (D.ltN i (D.len xs))], v := .tup []
    upd := [(r, .row true t (D.set xs i (kP t (D.rd xs i (bM t)) f v.cells)))], quiet := [(r, none)] }
def fB (P : Program) (t : TypeId) (a v : AV) (get : Get) (base : Nat) : Out :=
  match a with
  | .pv r c => match get r with
    | .var cs => match ku P t v base with
      | (v', rs) =>
        { ok := [.s (fc P t), .s v'.iL, .s (Nat.ble (c + P.cellsOf t) cs.length), .s (Nat.beq v'.cells.length (P.cellsOf t))], v := .tup []
          upd := an base rs ++ [(r, .var (fA cs c v'.cells))] }
    | _ => .bad
  | .pe r p i f => bif Nat.beq (P.cellsOf t) 1 then
      match get r with
      | .row true t' xs => gr v r p i f t' xs get
      | _ => .bad
    else match p, get r with
      | [], .row true t' xs => rH P t v r i f t' xs
      | _, _ => .bad
  | _ => .bad
def readAll (get : Get) (t : Ty) : List AV → List Tst × List (den t)
  | [] => ([], [])
  | v :: vs => match bW get t v.cells with
    | (ok, x, rest) => match readAll get t vs with
      | (ok', xs) => (ok ++ [.s rest.isEmpty, .s v.iL] ++ ok', x :: xs)
def fU (get : Get) (t : Ty) : List AV → List Tst × List Nat
  | [] => ([], [])
  | v :: vs => match gives get t v.cells with
    | (ok, l, _) => match fU get t vs with
      | (ok', l') => (ok ++ ok', l ++ l')
def dH (l : List Nat) : List (Nat × ar) := l.map fun r => (r, .dead)
def fQ (l : List Nat) : List (Nat × Option Nat) := l.map fun r => (r, none)
def qN (e : Ty) (x : AV) (get : Get) : List Tst × List (den e) × List Nat :=
  match x with
  | .str b => match decEq (Ty.int .u8) e with
    | .isTrue h => ([], lI h (D.ints b), [])
    | .isFalse _ => ([.s false], [], [])
  | x => match bW get (.sl e) [x] with
    | (ok, xs, _) => bif e.flat then (ok, xs, [])
      else match gives get (.sl e) [x] with
        | (ok', l, _) => (ok ++ ok', xs, l)
def lp (e : Ty) (s : AV) (ok : List Tst) (zs : List (den e)) (l : List Nat) (get : Get) (base : Nat) : Out :=
  match s with
  | .nilS => { ok := ok ++ [.d (D.leN (D.len zs) lim)], v := .sl base [] none, upd := dH l ++ [(base, .row true e zs)], quiet := fQ l }
  | .sl r p sub => match p, get r with
    | [], .row true e' ys => match decEq e' e with
      | .isTrue h =>
        { ok := ok ++ [.s (!l.contains r), .d (D.leN (D.len (D.app (eW sub (lI h ys)) zs)) lim)], v := .sl base [] none
          upd := dH l ++ [(r, .dead), (base, .row true e (D.app (eW sub (lI h ys)) zs))], quiet := (r, none) :: fQ l }
      | .isFalse _ => .bad
    | q :: p, .row true t xs => match rowAt t xs (q :: p), sub with
      | (ok', ⟨e', ys⟩), none => match decEq e' e with
        | .isTrue h =>
          { ok := ok ++ ok' ++ [.s e.flat, .d (D.leN (D.len (D.app (lI h ys) zs)) lim)], v := .sl base [] none
            upd := [(base, .pend r (q :: p) e (D.app (lI h ys) zs))], quiet := [(r, none)] }
        | .isFalse _ => .bad
      | _, _ => .bad
    | _, _ => .bad
  | _ => .bad
def dL (P : Program) (st : TypeId) (s x : AV) (get : Get) (base : Nat) : Out :=
  match fO P st with
  | none => .bad
  | some et => match oX P et with
    | none => .bad
    | some (_, t) => match qN t x get with
      | (ok, zs, l) => lp t s (.s (eT P st t) :: ok) zs l get base
def lz (l : List AV) : Option Operand → Option AV × List AV
  | none => (none, l)
  | some _ => (some (l.headD .undef), l.tail)
def bounds (n : Nat) (lo hi : Option AV) : List Tst × Nat × Nat :=
  match lo, hi with
  | none, none => ([], 0, n)
  | none, some (.int _ h) => ([.d (D.le 0 h), .d (D.leN (D.nat h) n)], 0, D.nat h)
  | some (.int _ l), none => ([.d (D.le 0 l), .d (D.leN (D.nat l) n)], D.nat l, n)
  | some (.int _ l), some (.int _ h) => ([.d (D.le 0 h), .d (D.leN (D.nat h) n), .d (D.le 0 l), .d (D.leN (D.nat l) (D.nat h))], D.nat l, D.nat h)
  | _, _ => ([.s false], 0, 0)
def iv (P : Program) (t : TypeId) (x : AV) (lo hi : Option AV) (get : Get) : Out :=
  match x with
  | .nilS => match bounds 0 lo hi with
    | (ok, _, _) => { ok := [.s (fO P t).isSome, .s (jM P ((fO P t).getD 0))] ++ ok, v := .nilS }
  | .str s => match bounds (D.lenS s) lo hi with
    | (ok, l, h) => { ok := .s (qJ P t) :: ok, v := .str (D.cutS s l h) }
  | .sl r p sub => match get r with
    | .row _ t' xs => match rowAt t' xs p with
      | (ok, ⟨e, ys⟩) => match bounds (eS sub ys) lo hi with
        | (ok', l, h) => { ok := .s (eT P t e) :: (ok ++ ok'), v := .sl r p (some (mF sub l, D.subN h l)) }
    | _ => .bad
  | _ => .bad
def isZero : Operand → Bool
  | .const (.int _ n) => decide (n = 0)
  | _ => false
def fM (P : Program) (t : TypeId) (x : AV) (get : Get) (base : Nat) : Out :=
  match x with
  | .nilS => { ok := [.s (fO P t).isSome, .s (jM P ((fO P t).getD 0))], v := .nilS }
  | .sl r p _ => match get r with
    | .row _ t' xs => match rowAt t' xs p with
      | (ok, ⟨e, _⟩) => { ok := .s (eT P t e) :: ok, v := .sl base [] none, upd := [(base, .row true e [])] }
    | _ => .bad
  | _ => .bad
def hU (P : Program) (t : TypeId) (x : AV) (h c : Int) (get : Get) (base : Nat) : Out :=
  match x with
  | .sl r p sub => match p, get r with
    | [], .row true e ys => { ok := [.s (eT P t e), .d (D.le 0 h), .d (D.le h c), .d (D.leN (D.nat c) (eS sub ys))], v := .sl base [] none, upd := dH [r] ++ [(base, .row true e (D.take (D.nat h) (eW sub ys)))], quiet := fQ [r] }
    | _, _ => .bad
  | _ => .bad
def jq (P : Program) (t : TypeId) (lo : Option Operand) (avs : List AV) (get : Get) (base : Nat) : Out := match lo, avs with
  | none, [x, .int _ h, .int _ c] => hU P t x h c get base
  | _, _ => .bad
def kC (P : Program) (t : TypeId) (x : AV) (get : Get) : Out :=
  match x with
  | .str s => { ok := [.s (qJ P t)], v := .int .i64 (D.ofN (D.lenS s)) }
  | .nilS => { ok := [.s (fO P t).isSome], v := .int .i64 0 }
  | .sl r p sub => match get r with
    | .row _ t' xs => match rowAt t' xs p with
      | (ok, ⟨_, ys⟩) => { ok := .s (fO P t).isSome :: ok, v := .int .i64 (D.ofN (eS sub ys)) }
    | _ => .bad
  | _ => .bad
def nJ (P : Program) (t : TypeId) (x : AV) : Out :=
  match x with
  | .nilS => { ok := [.s (fO P t).isSome], v := .int .i64 0 }
  | _ => .bad
def kv (P : Program) (t : TypeId) (s x : AV) (base : Nat) : Out := match fO P t, s, x with
  | some e, .nilS, .int _ n => match oX P e with
    | some (_, t') => { ok := [.s (eT P t t'), .d (D.le 1 n), .d (D.leN (D.nat n) lim)], v := .sl base [] none, upd := [(base, .row true t' (D.rep (D.nat n) (bM t')))] }
    | none => .bad
  | _, _, _ => .bad
def jK (gt : Bool) : List AV → Out
  | [.int k a, .int k' b] => bif decide (k = k') then { ok := [], v := .int k (bif gt then D.sel (D.lt a b) b a else D.sel (D.lt b a) b a) } else .bad
  | _ => .bad
def lN (b : Bool) (v u : AV) : AV := match v, u with
  | .int k a, .int k' b' => bif decide (k = k') then .int k (D.sel b a b') else .undef
  | _, _ => .undef
def tZ : AV → AV
  | .int k a => .int k a
  | _ => .undef
def gI : List AV → Nat → Int → AV
  | [], _, _ => .undef
  | v :: vs, i, n => match vs with
    | [] => tZ v
    | _ :: _ => lN (D.eq n (D.ofN i)) v (gI vs (i + 1) n)
def kQ (P : Program) (xt : TypeId) (x ix : AV) : Out :=
  match x, ix with
  | .str s, .int _ n => { ok := [.s (qJ P xt), .d (D.le 0 n), .d (D.ltN (D.nat n) (D.lenS s))], v := .int .u8 (D.byte s (D.nat n)) }
  | .agg cs, .int _ n => match P.underlying xt with
    | some (.array m e) => { ok := [.s (fc P e && Nat.beq (P.cellsOf e) 1 && !iJ P e), .s (Nat.beq cs.length m), .d (D.le 0 n), .d (D.lt n (D.ofN m))], v := gI cs 0 n }
    | _ => .bad
  | _, _ => .bad
def ez (P : Program) (xt : TypeId) (x ix : AV) (get : Get) : Out :=
  match ix with
  | .int _ n => match x with
    | .sl r p sub => match get r with
      | .row _ t xs => match rowAt t xs p with
        | (ok, ⟨e, ys⟩) => { ok := .s (eT P xt e) :: (ok ++ [.d (D.le 0 n), .d (D.ltN (D.nat n) (eS sub ys))]), v := .pe r p (mF sub (D.nat n)) 0 }
      | _ => .bad
    | .pv r c => match P.underlying xt with
      | some (.array m e) => { ok := [.s (fc P e), .d (D.le 0 n), .d (D.lt n (D.ofN m))], v := .pv r (c + n.toNat * P.cellsOf e) }
      | _ => .bad
    | .pe r p i f => match P.underlying xt with
      | some (.array m e) => { ok := [.s (fc P e), .d (D.le 0 n), .d (D.lt n (D.ofN m))], v := .pe r p i (f + n.toNat * P.cellsOf e) }
      | _ => .bad
    | _ => .bad
  | _ => .bad
def gZ (P : Program) (place : Nat → Option (Nat × TypeId)) : List (Nat × AV) → List AV → Nat → List Tst × List AV × List ar
  | [], cs, _ => ([], cs, [])
  | (i, v) :: r, cs, base => match place i with
    | none => ([.s false], cs, [])
    | some (off, t) => match ku P t v base with
      | (v', rs) => match gZ P place r (fA cs off v'.cells) (base + rs.length) with
        | (ok, cs', rs') => ([.s v'.iL, .s (Nat.beq v'.cells.length (P.cellsOf t)), .s (Nat.ble (off + P.cellsOf t) cs.length)] ++ ok, cs', rs ++ rs')
def placeOf (P : Program) (t : TypeId) (i : Nat) : Option (Nat × TypeId) :=
  match P.underlying t with
  | some (.struct _) => m9 P t i
  | some (.array m e) => bif Nat.blt i m then some (i * P.cellsOf e, e) else none
  | _ => none
def pA (P : Program) (t : TypeId) : Bool := match P.underlying t with
  | some (.struct fs) => fs.toList.all fun f => (P.info? f.type).isSome
  | some (.array _ e) => (P.info? e).isSome
  | _ => false
def j1 (P : Program) (t : TypeId) (parts : List (Nat × AV)) (base : Nat) : Out :=
  match fq P t base with
  | none => .bad
  | some (cs, rs) => match gZ P (placeOf P t) parts cs (base + rs.length) with
    | (ok, cs', rs') => { ok := ok ++ [.s (pA P t)], v := .agg cs', upd := an base (rs ++ rs') }
def yN : Tst → Bool
  | .s b => b
  | .d _ => true
def xf : AV → Bool
  | .sl _ _ _ => true
  | .nilS => true
  | _ => false
def de (P : Program) (t : TypeId) (len : Nat) (parts : List (Nat × AV)) (get : Get) (base : Nat) : Out :=
  match fO P t with
  | none => .bad
  | some e => match oX P e with
    | none => .bad
    | some (_, te) => match readAll get te (parts.map (·.2)) with
      | (ok, xs) => match fU get te (parts.map (·.2)) with
        | (ok', l) => bif !(ok'.all yN) && (Nat.beq te.size 1 && (parts.map (·.2)).all xf) then
            { ok := [.s (eT P t te), .s (decide (parts.map (·.1) = List.range len)), .s (Nat.ble (len * te.size) 16777216)], v := .lit base len, upd := [(base, .var (parts.map (·.2)))] }
          else
          { ok := [.s (eT P t te), .s (decide (parts.map (·.1) = List.range len)), .s (Nat.ble (len * te.size) 16777216)] ++ ok ++ ok' ++ [.s (decide l.Nodup)]
            v := .sl base [] none, upd := dH l ++ [(base, .row true te xs)], quiet := fQ l }
def uF : List AV → Out
  | [.pv r c] => { ok := [], v := .pv r c }
  | [.pe r p i f] => { ok := [], v := .pe r p i f }
  | _ => .bad
def w8 (op : UnOp) (avs : List AV) : Out := match op, avs with
  | .not, [.bool b] => { ok := [], v := .bool (D.no b) }
  | .not, [.kb b] => { ok := [], v := .kb (!b) }
  | .neg, [.int k n] => { ok := [], v := .int k (D.wrap k (D.sub 0 n)) }
  | _, _ => .bad
def nm (fn : Fn) (n : Nat) (avs : List AV) : Out := match fn with
  | .func f => { ok := [], v := .fn f (avs.take n) (avs.drop n) }
  | _ => .bad
def lT (P : Program) (t : TypeId) (avs : List AV) (base : Nat) : Out := match fO P t, avs with
  | some e, [.int _ l, .int _ c] => match oX P e with
    | some (_, t') => { ok := [.s (eT P t t'), .d (D.le 0 l), .d (D.le l c), .d (D.leN (D.nat c) lim)], v := .sl base [] none, upd := [(base, .row true t' (D.rep (D.nat l) (bM t')))] }
    | none => .bad
  | _, _ => .bad
def gE (P : Program) (s : TypeId) (i : Nat) (avs : List AV) : Out := match m9 P s i, avs with
  | some (f, ft), [.pv r c] => { ok := [.s (Nat.blt 0 (P.cellsOf ft))], v := .pv r (c + f) }
  | some (f, ft), [.pe r p j g] => { ok := [.s (Nat.blt 0 (P.cellsOf ft))], v := .pe r p j (g + f) }
  | _, _ => .bad
def qy (P : Program) (s : TypeId) (i : Nat) (avs : List AV) : Out := match m9 P s i, avs with
  | some (f, ft), [.agg cs] => dP P ft cs f
  | _, _ => .bad
def mP (i : Nat) : List AV → Out
  | [.tup vs] => { ok := [.s (Nat.blt i vs.length)], v := vs.getD i .undef }
  | _ => .bad
def ym (o : Oper) : Option (Nat × TypeId) := match o.op, o.dst, o.guard with
  | .box t (.tmp 0), some p, none => some (p, t)
  | _, _, _ => none
def yJ (o : Oper) : Option Nat := match o.op, o.dst, o.guard with
  | .assign (.const _), some q, none => some q
  | _, _, _ => none
def yU (o : Oper) : Option (Nat × Nat × Nat) := match o.op, o.dst, o.guard with
  | .makeFunc (.func f) a b, some m, none => match a.toList, b.toList with
    | [], [.tmp p] => some (m, f, p)
    | _, _ => none
  | _, _, _ => none
def yn (fn : Func) : Option Nat := match fn.results.toList with
  | [.tmp r] => some r
  | _ => none
def yO (o : Oper) : Option (Nat × Nat) := match o.op, o.dst, o.guard with
  | .assign (.tmp m), some q, none => some (q, m)
  | _, _, _ => none
def sy (P : Program) (f : Nat) : Option (Nat × TypeId) := match P.funcs[f]? with
  | none => none
  | some fn => match fn.body with
    | some (.seq (.region _ a false) (.seq (.region _ b false) .ret)) =>
      match (a[0]?).bind ym, (a[1]?).bind yJ, (b[0]?).bind yU, (b[1]?).bind yO, yn fn with
      | some (p, t), some q, some (m, f1, p'), some (q', m'), some r =>
        bif Nat.beq a.size 2 && (Nat.beq b.size 2 && (Nat.beq p p' && (Nat.beq m m' && (Nat.beq q' r && (!(Nat.beq q p) && (Nat.blt p fn.ntmps && (Nat.blt m fn.ntmps && Nat.blt r fn.ntmps))))))) then some (f1, t) else none
      | _, _, _, _, _ => none
    | _ => none
def fz (P : Program) (c : Call) : Option (Nat × TypeId) := match c.callee with
  | .value (.func f) => sy P f
  | _ => none
def oZ (P : Program) (c : Call) (avs : List AV) (base : Nat) : Out := match fz P c, avs with
  | some (f1, _), [_, .sl r p sub] => { ok := [.s (Nat.beq c.args.size 1)], v := .fn f1 [] [.pv base 0], upd := [(base, .var [.sl r p sub])] }
  | _, _ => .bad
def bk (P : Program) (o : Oper) (avs : List AV) (get : Get) (base : Nat) : Out :=
  match o.op with
  | .move _ => { ok := [], v := avs.headD .undef }
  | .assign _ => match ku P o.type (avs.headD .undef) base with
    | (v, rs) => { ok := [], v := v, upd := an base rs }
  | .pick _ _ _ => match avs with
    | [c, a, b] => vu c a b
    | _ => .bad
  | .alloc t => match fq P t (base + 1) with
    | some (cs, rs) => { ok := [], v := .pv base 0, upd := (base, .var cs) :: an (base + 1) rs }
    | none => .bad
  | .box t _ => match ku P t (avs.headD .undef) (base + 1) with
    | (v, rs) => { ok := [.s v.iL], v := .pv base 0, upd := (base, .var v.cells) :: an (base + 1) rs }
  | .build t ps => j1 P t ((ps.toList.map (·.1)).zip avs) base
  | .buildSlice t len ps => de P t len ((ps.toList.map (·.1)).zip avs) get base
  | .load t _ => dQ P t (avs.headD .undef) get
  | .store t _ _ => match avs with
    | [a, v] => fB P t a v get base
    | _ => .bad
  | .nilCheck _ => uF avs
  | .binOp op t _ _ _ => match avs with
    | [a, b] => nU P t op a b get
    | _ => .bad
  | .unOp op _ _ => w8 op avs
  | .convert s d _ => lH P s d (avs.headD .undef) get
  | .makeFunc fn first _ => nm fn first.size avs
  | .makeSlice t _ _ => lT P t avs base
  | .slice t _ lo hi mx => match mx with
    | none => iv P t (avs.headD .undef) (lz avs.tail lo).1 (lz (lz avs.tail lo).2 hi).1 get
    | some m => bif isZero m && hi.any isZero && lo.all isZero then fM P t (avs.headD .undef) get base else jq P t lo avs get base
  | .fieldAddr s _ i => gE P s i avs
  | .field s _ i => qy P s i avs
  | .indexAddr t _ _ => match avs with
    | [x, i] => ez P t x i get
    | _ => .bad
  | .index t _ _ => match avs with
    | [x, i] => kQ P t x i
    | _ => .bad
  | .extract _ i => mP i avs
  | .call c => match c.callee with
    | .builtin .len => match c.argTypes[0]? with
      | some t => kC P t (avs.headD .undef) get
      | none => .bad
    | .builtin .cap => match c.argTypes[0]? with
      | some t => nJ P t (avs.headD .undef)
      | none => .bad
    | .builtin .append => match avs, c.argTypes[0]?, c.argTypes[1]? with
      | [s, x], some t, some u => match P.underlying u with
        | some .string => dL P t s x get base
        | some (.slice _) => dL P t s x get base
        | some (.int _) => kv P t s x base
        | _ => .bad
      | _, _, _ => .bad
    | .builtin .min => jK false avs
    | .builtin .max => jK true avs
    | .value _ => oZ P c avs base
    | _ => .bad
  | _ => .bad
def setAt (rs : List ar) (i : Nat) (x : ar) : List ar :=
  bif Nat.blt i rs.length then rs.set i x else rs ++ List.replicate (i - rs.length) .dead ++ [x]
def eN (rs : List ar) : List (Nat × ar) → List ar
  | [] => rs
  | (i, x) :: r => eN (setAt rs i x) r
def St.get (st : St) : Get := fun r => st.rs.getD r .dead
def St.top (st : St) : List AV := st.fr.headD []
def St.put (st : St) (dst : Option Tmp) (v : AV) : St :=
  match dst with
  | none => st
  | some d => match st.fr with
    | [] => st
    | f :: r => { st with fr := f.set d v :: r }
def lL : Value → AV
  | .int k n => .int k n
  | .bool b => .kb b
  | .string s => .str s
  | .slice none 0 0 => .nilS
  | .agg cs => bif cs.toList.all Value.oneCell' then .agg (cs.toList.map fun
    | .int k n => .int k n
    | .bool b => .kb b
    | .string s => .str s
    | .slice none 0 0 => .nilS
    | _ => .undef) else .undef
  | _ => .undef
def aq (st : St) : Operand → AV
  | .tmp i => st.top.getD i .undef
  | .const v => lL v
  | .global _ => .undef
  | .func f => .fn f [] []
mutual
def AV.ren (π : Nat → Option Nat) : AV → AV
  | .sl r p s => match π r with
    | some r => .sl r p s
    | none => .undef
  | .pv r c => match π r with
    | some r => .pv r c
    | none => .undef
  | .lit r n => match π r with
    | some r => .lit r n
    | none => .undef
  | .pe r p i f => match π r with
    | some r => .pe r p i f
    | none => .undef
  | .fn f a b => .fn f (AV.j2 π a) (AV.j2 π b)
  | .agg cs => .agg (AV.j2 π cs)
  | .tup vs => .tup (AV.j2 π vs)
  | .undef => .undef
  | .nilS => .nilS
  | .int k n => .int k n
  | .bool b => .bool b
  | .kb b => .bool b
  | .nb n => .nb n
  | .str s => .str s
def AV.j2 (π : Nat → Option Nat) : List AV → List AV
  | [] => []
  | v :: vs => v.ren π :: AV.j2 π vs
end
mutual
def AV.roots : AV → List Nat
  | .sl r _ _ => [r]
  | .pv r _ => [r]
  | .lit r _ => [r]
  | .pe r _ _ _ => [r]
  | .fn _ a b => AV.ai a ++ AV.ai b
  | .agg cs => AV.ai cs
  | .tup vs => AV.ai vs
  | .undef | .int _ _ | .bool _ | .kb _ | .nb _ | .str _ | .nilS => []
def AV.ai : List AV → List Nat
  | [] => []
  | v :: vs => v.roots ++ AV.ai vs
end
def nv (get : Get) : AV → List Nat
  | .lit r _ => match get r with
    | .var cs => AV.ai cs
    | _ => []
  | _ => []
def gO (get : Get) (vs : List AV) : List Nat := vs.flatMap (nv get)
mutual
def AV.cut (r n : Nat) : AV → AV
  | .sl r' p s => bif Nat.beq r' r && Nat.ble n p.length then .undef else .sl r' p s
  | .pe r' p i f => bif Nat.beq r' r && Nat.ble n p.length then .undef else .pe r' p i f
  | .fn f a b => .fn f (AV.fb r n a) (AV.fb r n b)
  | .agg cs => .agg (AV.fb r n cs)
  | .tup vs => .tup (AV.fb r n vs)
  | .pv r' c => .pv r' c
  | .lit r' n => .lit r' n
  | .undef => .undef
  | .nilS => .nilS
  | .int k n => .int k n
  | .bool b => .bool b
  | .kb b => .kb b
  | .nb n => .nb n
  | .str s => .str s
def AV.fb (r n : Nat) : List AV → List AV
  | [] => []
  | v :: vs => v.cut r n :: AV.fb r n vs
end
def ar.ren (π : Nat → Option Nat) : ar → ar
  | .var cs => .var (AV.j2 π cs)
  | .pend r p t xs => match π r with
    | some r => .pend r p t xs
    | none => .dead
  | x => x
def ar.roots : ar → List Nat
  | .var cs => AV.ai cs
  | .pend r _ _ _ => [r]
  | _ => []
def ar.cut (r n : Nat) : ar → ar
  | .var cs => .var (AV.fb r n cs)
  | x => x
def jj (seen : List Nat) : List Nat → List Nat
  | [] => seen
  | x :: xs => bif seen.contains x then jj seen xs else jj (seen ++ [x]) xs
def reach (rs : List ar) : Nat → List Nat → List Nat
  | 0, seen => seen
  | n + 1, seen => reach rs n (jj seen (seen.flatMap fun r => (rs.getD r .dead).roots))
def alive (rs : List ar) (r : Nat) : Bool := match rs.getD r .dead with
  | .dead => false
  | _ => true
def far : Nat := 1000000
def idx : List Nat → Nat → Nat → Option Nat
  | [], _, _ => none
  | x :: xs, i, r => bif Nat.beq x r then some i else idx xs (i + 1) r
def gN (live : List Nat) : Nat → List AV → List AV
  | _, [] => []
  | i, v :: vs => (bif live.contains i then v else .undef) :: gN live (i + 1) vs
def St.hO (live : List Nat) (st : St) : St :=
  match st.fr with
  | [] => st
  | f :: fr => { st with fr := gN live 0 f :: fr }
def St.py (ord : List Nat) (st : St) : St :=
  { fr := st.fr.map (AV.j2 (idx ord 0)), rs := ord.map fun r => (st.rs.getD r .dead).ren (idx ord 0) }
def St.canon (live : List Nat) (st : St) : St :=
  let st' := st.hO live
  let ord := (reach st'.rs 4 (jj [] (st'.fr.flatMap AV.ai))).filter (alive st'.rs)
  bif decide ord.Nodup then st'.py ord else st'
def St.cut (st : St) : Option (Nat × Nat) → St
  | none => st
  | some (r, n) => { fr := st.fr.map (AV.fb r n), rs := st.rs.map (ar.cut r n) }
def kt (r : Nat) (ex : Option Nat) : Nat → List ar → Bool
  | _, [] => true
  | j, x :: xs => (match x with
    | .pend r' _ _ _ => !(Nat.beq r' r) || decide (ex = some j)
    | _ => true) && kt r ex (j + 1) xs
def cq (rs : List ar) (q : List (Nat × Option Nat)) : Bool := q.all fun x => kt x.1 x.2 0 rs
def St.app (st : St) (o : Out) : St := ({ st with rs := eN st.rs o.upd } : St).cut o.cut
section force
variable {R : Type}
def nZ (n : Nat) (k : Nat → Option R) : Option R := match n with
  | 0 => k 0
  | m + 1 => k (m + 1)
def qp : Path → (Path → Option R) → Option R
  | [], k => k []
  | (i, f) :: p, k => nZ f fun f => qp p fun p => k ((i, f) :: p)
mutual
def AV.force : AV → (AV → Option R) → Option R
  | .undef, k => k .undef
  | .nilS, k => k .nilS
  | .int kk n, k => k (.int kk n)
  | .bool b, k => k (.bool b)
  | .kb true, k => k (.kb true)
  | .kb false, k => k (.kb false)
  | .nb n, k => k (.nb n)
  | .str s, k => k (.str s)
  | .sl r p none, k => nZ r fun r => qp p fun p => k (.sl r p none)
  | .sl r p (some (o, l)), k => nZ r fun r => qp p fun p => k (.sl r p (some (o, l)))
  | .pv r c, k => nZ r fun r => nZ c fun c => k (.pv r c)
  | .lit r n, k => nZ r fun r => nZ n fun n => k (.lit r n)
  | .pe r p i f, k => nZ r fun r => qp p fun p => nZ f fun f => k (.pe r p i f)
  | .fn f a b, k => AV.jP a fun a => AV.jP b fun b => k (.fn f a b)
  | .agg cs, k => AV.jP cs fun cs => k (.agg cs)
  | .tup vs, k => AV.jP vs fun vs => k (.tup vs)
def AV.jP : List AV → (List AV → Option R) → Option R
  | [], k => k []
  | v :: vs, k => v.force fun v => AV.jP vs fun vs => k (v :: vs)
end
def ar.force : ar → (ar → Option R) → Option R
  | .dead, k => k .dead
  | .var cs, k => AV.jP cs fun cs => k (.var cs)
  | .row rw t xs, k => k (.row rw t xs)
  | .pend r p t xs, k => nZ r fun r => qp p fun p => k (.pend r p t xs)
def nH : List ar → (List ar → Option R) → Option R
  | [], k => k []
  | r :: rs, k => r.force fun r => nH rs fun rs => k (r :: rs)
def o7 : List (List AV) → (List (List AV) → Option R) → Option R
  | [], k => k []
  | f :: fs, k => AV.jP f fun f => o7 fs fun fs => k (f :: fs)
def St.force (st : St) (k : St → Option R) : Option R := o7 st.fr fun fr => nH st.rs fun rs => k ⟨fr, rs⟩
end force
def Code.cA : Code → Code
  | .seq a _ => a
  | .rangeFunc _ _ a _ => a
  | c => c
def Code.cB : Code → Code
  | .seq _ b => b
  | .rangeFunc _ _ _ b => b
  | c => c
def Code.cC : Code → Code
  | .block _ c => c
  | .loop c => c
  | .scope c => c
  | c => c
def Code.cT : Code → Code
  | .cond _ x _ => x
  | c => c
def Code.ops : Code → Array Oper
  | .region _ ops _ => ops
  | _ => #[]
def ya (ops : Array Oper) (i : Nat) : Oper := match ops[i]? with
  | some o => o
  | none => ⟨none, .move (.tmp 0), 0, "", #[], none⟩
def frm (n : Nat) (l : List (Nat × AV)) : List AV := l.foldl (fun f x => f.set x.1 x.2) (List.replicate n .undef)
def ct (P : Program) (f : Nat) : Code := match P.funcs[f]? with
  | some fn => match fn.body with
    | some c => c
    | none => .skip
  | none => .skip
def sg (P : Program) (f : Nat) : Func := match P.funcs[f]? with
  | some fn => fn
  | none => default
end Go.Am
end
section
/- The abstract machine, third part: the executor, in continuation style, over the model's Code. -/
noncomputable section
namespace Go.Am
variable [D]
section run
def chk {R : Type} (l : List Tst) (x : Option R) : Option R :=
  match l with
  | [] => x
  | .s b :: r => bif b then chk r x else none
  | .d b :: r => D.test b (chk r x) none
inductive Ex where
  | normal | exit (id : Nat) | ret
structure Env (P : Program) where
  pc : (f : Nat) → den (fN P f) → Option (den (resTy P f))
  inl : {R : Type} → Nat → List AV → St → (List AV → St → Option R) → Option R
structure Cfg where
  mode : Nat → Nat
  loops : Nat → Nat → Option (List Nat)
  joins : Nat → Nat → Option (List Nat)
variable {R : Type} (P : Program) (cfg : Cfg) (env : Env P)
structure Touch where
  reads : List Nat
  writes : List Nat
  quiet : List Nat
  alone : Bool
def ar.waits : ar → List Nat
  | .pend r _ _ _ => [r]
  | _ => []
def gF (st : St) (upd : List (Nat × ar)) : List Nat := upd.flatMap fun x => (st.get x.1).waits ++ x.2.waits
def np (o : Oper) (avs : List AV) : List Nat := match o.op with
  | .move _ => []
  | _ => AV.ai avs
def tn (o : Oper) (avs : List AV) (out : Out) (st : St) (K : Touch → St → Option R) : Option R :=
  match out with
  | ⟨ok, v, upd, cut, quiet⟩ => chk (.s (cq st.rs quiet) :: ok)
      (St.force ((({ st with rs := eN st.rs upd } : St).cut cut).put o.dst v) (K ⟨np o avs, upd.map (·.1), quiet.map (·.1) ++ gF st upd, cut.isSome⟩))
def n4 : List AV → AV
  | [v] => v
  | vs => .tup vs
def nr (P : Program) : List TypeId → List AV → Nat → List AV × List ar
  | t :: ts, v :: vs, base => match ku P t v base with
    | (v', rs) => match nr P ts vs (base + rs.length) with
      | (vs', rs') => (v' :: vs', rs ++ rs')
  | _, vs, _ => (vs, [])
def wk (P : Program) (t : TypeId) (v : AV) : Bool := match v with
  | .undef => false
  | .tup _ => false
  | .agg cs => mB P t && Nat.beq cs.length (tyD P t).size
  | _ => !mB P t && Nat.beq (tyD P t).size 1
def kB (P : Program) : List TypeId → List AV → Bool
  | [], [] => true
  | t :: ts, v :: vs => wk P t v && kB P ts vs
  | _, _ => false
mutual
def AV.vars : AV → List Nat
  | .pv r _ => [r]
  | .fn _ a b => AV.oI a ++ AV.oI b
  | .agg cs => AV.oI cs
  | .undef | .int _ _ | .bool _ | .kb _ | .nb _ | .str _ | .nilS | .sl _ _ _ | .pe _ _ _ _ | .lit _ _ | .tup _ => []
def AV.oI : List AV → List Nat
  | [] => []
  | v :: vs => v.vars ++ AV.oI vs
end
def vD (m3 : Bool) (get : Get) : AV → List Nat
  | .sl r [] none => bif m3 then (match get r with
    | .row true _ _ => [r]
    | _ => []) else []
  | _ => []
def bt (get : Get) (r : Nat) : List AV := match get r with
  | .var cs => cs
  | _ => []
def jA (get : Get) : Nat → List Nat → List Nat
  | 0, seen => seen
  | n + 1, seen => jA get n (jj seen (seen.flatMap fun r => AV.oI (bt get r)))
def tf (L : List Nat) (r : Nat) : Path → Option (Nat × Nat) → Option Nat
  | [], none => idx L 0 r
  | _, _ => none
mutual
def cu (get : Get) (L : List Nat) : AV → Nat → List Tst × AV × List ar
  | .int k n, _ => ([], .int k n, [])
  | .bool b, _ => ([], .bool b, [])
  | .kb b, _ => ([], .bool b, [])
  | .str s, _ => ([], .str s, [])
  | .nilS, _ => ([], .nilS, [])
  | .undef, _ => ([], .undef, [])
  | .sl r p sub, b => match tf L r p sub with
    | some i => ([], .sl i [] none, [])
    | none => match sliceAt get r p with
      | (ok, ⟨e, ys⟩) => (ok, .sl b [] none, [.row false e (eW sub ys)])
  | .pv r c, _ => match idx L 0 r with
    | some i => ([], .pv i c, [])
    | none => ([.s false], .undef, [])
  | .fn f x y, b => match eD get L x b with
    | (ok, x', rx) => match eD get L y (b + rx.length) with
      | (ok', y', ry) => (ok ++ ok', .fn f x' y', rx ++ ry)
  | .agg cs, b => match eD get L cs b with
    | (ok, cs', rs) => (ok, .agg cs', rs)
  | .nb _, _ => ([.s false], .undef, [])
  | .pe _ _ _ _, _ => ([.s false], .undef, [])
  | .lit _ _, _ => ([.s false], .undef, [])
  | .tup _, _ => ([.s false], .undef, [])
def eD (get : Get) (L : List Nat) : List AV → Nat → List Tst × List AV × List ar
  | [], _ => ([], [], [])
  | v :: vs, b => match cu get L v b with
    | (ok, v', r) => match eD get L vs (b + r.length) with
      | (ok', vs', rs) => (ok ++ ok', v' :: vs', r ++ rs)
end
def eR (get getK : Get) (L : List Nat) : List Nat → Nat → List Tst × List ar × List ar
  | [], _ => ([], [], [])
  | r :: V, b => match eD getK L (bt get r) b with
    | (ok, cs, rs) => match eR get getK L V (b + rs.length) with
      | (ok', vr, rs') => (.s (match get r with
        | .var _ => true
        | _ => false) :: (ok ++ ok'), .var cs :: vr, rs ++ rs')
structure ch where
  lv : List Nat
  ld : List Nat
  ln : List Nat
def ch.all (l : ch) : List Nat := l.lv ++ (l.ld ++ l.ln)
def pw (get : Get) (vs : List AV) : List Nat := jA get 4 (jj [] (AV.oI vs))
def yu (m3 : Bool) (get : Get) (vs : List AV) : List Nat := (vs.flatMap AV.cells).flatMap (vD m3 get)
def yo (m3 : Bool) (get : Get) (lv : List Nat) : List Nat := (lv.flatMap (bt get)).flatMap (vD m3 get)
def jE {R : Type} : List Nat → (List Nat → Option R) → Option R
  | [], k => k []
  | n :: ns, k => nZ n fun n => jE ns fun ns => k (n :: ns)
def iQ (nV nD n m : Nat) : List AV :=
  (List.range nV).map (fun i => .pv i 0) ++ ((List.range nD).map (fun i => .sl (nV + i) [] none) ++ (List.replicate (n - nV - nD) .undef ++ (List.range m).map (fun i => .sl (n + i) [] none)))
def dq (n : Nat) (rs : List ar) : AV → Ty
  | .int k _ => .int k
  | .bool _ => .bool
  | .str _ => .str
  | .sl i [] none => bif Nat.blt i n then (match rs.getD i .dead with
    | .row _ t _ => .sl t
    | _ => .unit) else .unit
  | _ => .unit
def di : ar → List AV
  | .var cs => cs
  | _ => []
def cz (nV nD : Nat) (rs : List ar) : List AV :=
  (List.range nD).map (fun i => .sl (nV + i) [] none) ++ (rs.take nV).flatMap di
def gK (nV nD n : Nat) (rs : List ar) : List Ty := (cz nV nD rs).map (dq n rs)
def qk (nV nD n : Nat) (rs : List ar) : Ty := Ty.all (gK nV nD n rs)
def da (n : Nat) (rs : List ar) : List AV → List Nat
  | [] => []
  | c :: cs => match c with
    | .sl i [] none => bif Nat.blt i n then i :: da n rs cs else da n rs cs
    | _ => da n rs cs
mutual
def cQ (get : Get) (hs : List AV) (n : Nat) : AV → AV → Bool
  | .nilS, .nilS => true
  | .sl i [] none, .sl r [] none => Nat.ble n i && (match hs.getD i .undef with
    | .sl r' [] none => Nat.beq r' r
    | _ => false) && (match get r with
    | .row _ _ _ => true
    | _ => false)
  | .pv i c, .pv r c' => Nat.beq c c' && (match hs.getD i .undef with
    | .pv r' 0 => Nat.beq r' r
    | _ => false) && (match get r with
    | .var _ => true
    | _ => false)
  | .fn f a b, .fn f' a' b' => Nat.beq f f' && (mg get hs n a a' && mg get hs n b b')
  | _, _ => false
def mg (get : Get) (hs : List AV) (n : Nat) : List AV → List AV → Bool
  | [], [] => true
  | v :: vs, u :: us => cQ get hs n v u && mg get hs n vs us
  | _, _ => false
end
def rd1 (get : Get) (t : Ty) (v : AV) : List Tst × den t × List Nat :=
  match t with
  | .unit => ([], (), [])
  | t => match bW get t [v] with
    | (ok, x, _) => match gives get t [v] with
      | (ok', l, _) => (ok ++ ok', x, l)
def qo (get : Get) : (tys : List Ty) → List AV → List Tst × den (Ty.all tys) × List Nat
  | [], _ => ([], (), [])
  | [t], fin => rd1 get t (fin.headD .undef)
  | t :: u :: r, fin => match rd1 get t (fin.headD .undef) with
    | (ok, x, l) => match qo get (u :: r) fin.tail with
      | (ok', y, l') => (ok ++ ok', (x, y), l ++ l')
def nC (get : Get) (hs : List AV) (n : Nat) : List Ty → List AV → List AV → Bool
  | [], _, _ => true
  | t :: tys, c, fin => (match t with
    | .unit => (match c.headD .undef with
      | .undef => true
      | c => cQ get hs n c (fin.headD .undef))
    | _ => true) && nC get hs n tys c.tail fin.tail
def varsOf (get : Get) : List AV → List ar → List Tst × List AV
  | [], [] => ([], [])
  | h :: hs, r :: rs => match h with
    | .pv x 0 => match get x with
      | .var cs' => match varsOf get hs rs with
        | (ok, cs) => (.s (Nat.beq cs'.length (di r).length) :: ok, cs' ++ cs)
      | _ => ([.s false], [])
    | _ => ([.s false], [])
  | _, _ => ([.s false], [])
def pJ (P : Program) (f nV nD n : Nat) (rs : List ar) (vs' : List AV) (st' : St) : Option (den (resTy P f) × den (qk nV nD n rs)) :=
  match varsOf st'.get (st'.top.take nV) (rs.take nV) with
  | (ok0, fin) =>
    match bW st'.get (resTy P f) (vs'.flatMap AV.cells) with
    | (ok1, y, rest) => match gives st'.get (resTy P f) (vs'.flatMap AV.cells) with
      | (ok2, l, _) =>
        match qo st'.get (gK nV nD n rs) ((st'.top.drop nV).take nD ++ fin) with
        | (ok3, x, l') =>
          chk (ok0 ++ (ok1 ++ (ok2 ++ (ok3 ++ [.s (kB P (dn P f) vs'), .s rest.isEmpty, .s (decide (l ++ l').Nodup), .s (Nat.beq ((st'.top.drop nV).take nD).length nD),
            .s (nC st'.get st'.top n (gK nV nD n rs) (cz nV nD rs) ((st'.top.drop nV).take nD ++ fin))])))) (some (y, x))
def AV.strip : AV → AV
  | .int k _ => .int k 0
  | .bool _ => .bool false
  | .str _ => .str ByteArray.empty
  | v => v
def ar.strip : ar → ar
  | .var cs => .var (cs.map AV.strip)
  | .row rw t _ => .row rw t []
  | x => x
def lh {P : Program} (env : Env P) (f nV nD n : Nat) (rs0 : List ar) (st : St) : Option (den (resTy P f) × den (qk nV nD n rs0)) :=
  env.inl f st.top ⟨st.fr.tail, st.rs⟩ fun vs' st' => pJ P f nV nD n rs0 vs' st'
def fu : (tys : List Ty) → den (Ty.all tys) → List Cell
  | [], _ => []
  | [t], x => [⟨t, x⟩]
  | t :: u :: r, x => ⟨t, x.1⟩ :: fu (u :: r) x.2
def wP (o : AV) : Cell → AV
  | ⟨.int k, n⟩ => .int k n
  | ⟨.bool, b⟩ => .bool b
  | ⟨.str, s⟩ => .str s
  | _ => o
def fy : List AV → List Cell → List AV
  | o :: os, c :: cs => wP o c :: fy os cs
  | os, [] => os
  | [], _ => []
def dY (n : Nat) (L : List Nat) (rs : List ar) : List AV → List Cell → List (Nat × ar)
  | c :: cs, b :: bs => (match c, b with
    | .sl i [] none, ⟨.sl t, xs⟩ => bif Nat.blt i n then [(L.getD i 0, .row true t xs)] else []
    | _, _ => []) ++ dY n L rs cs bs
  | _, _ => []
def iq (get : Get) : List Nat → List AV → List (Nat × ar)
  | [], _ => []
  | r :: V, cs => (r, .var (cs.take (bt get r).length)) :: iq get V (cs.drop (bt get r).length)
def du (n : Nat) : List Nat → St → St
  | [], st => st
  | r :: l, st => du n l (st.cut (some (r, n)))
def kH (ls : ch) (st : St) (vs : List AV) : List Tst × St :=
  match eD (fun r => bif ls.all.contains r then .dead else st.get r) ls.all vs ls.all.length with
  | (okA, vsS, roA) => match eR st.get (fun r => bif ls.all.contains r then .dead else st.get r) ls.all ls.lv (ls.all.length + roA.length) with
    | (okV, vrs, roV) => (okA ++ okV, ⟨[vsS, iQ ls.lv.length ls.ld.length ls.all.length (roA.length + roV.length)], vrs ++ ((ls.ld ++ ls.ln).map st.get ++ (roA ++ roV))⟩)
def pQ (ls : ch) (st : St) (rsS : List ar) (cells : List Cell) : List (Nat × ar) :=
  dY ls.all.length ls.all rsS (cz ls.lv.length ls.ld.length rsS) cells ++ iq st.get ls.lv (fy (ls.lv.flatMap (bt st.get)) (cells.drop ls.ld.length))
def jN (ls : ch) (st : St) (rsS : List ar) (x : den (qk ls.lv.length ls.ld.length ls.all.length rsS)) : St :=
  ⟨(du 0 ls.ln (du 1 ls.ld st)).fr, eN (du 0 ls.ln (du 1 ls.ld st)).rs (pQ ls st rsS (fu (gK ls.lv.length ls.ld.length ls.all.length rsS) x))⟩
def ioK {P : Program} {R : Type} (env : Env P) (m3 : Bool) (f : Nat) (vs : List AV) (st : St) (K : List AV → St → Option R) : Option R :=
  jE (pw st.get vs) fun lv => jE (yu m3 st.get vs) fun ld => jE (yo m3 st.get lv) fun ln =>
  match kH ⟨lv, ld, ln⟩ st vs with
  | (ok, stS) => chk (.s (decide (ch.all ⟨lv, ld, ln⟩).Nodup) :: .s (cq st.rs (fQ (ch.all ⟨lv, ld, ln⟩))) ::
      .s (decide (da (ch.all ⟨lv, ld, ln⟩).length stS.rs (cz lv.length ld.length stS.rs) = List.range' lv.length (ld.length + ln.length))) :: ok) (St.force stS fun stS => nH (stS.rs.map ar.strip) fun rs0 =>
    D.bnd (lh env f lv.length ld.length (ch.all ⟨lv, ld, ln⟩).length rs0 stS) fun yx =>
      St.force (jN ⟨lv, ld, ln⟩ st rs0 yx.2) fun st2 =>
      match eZ P true (dn P f) yx.1 st2.rs.length with
      | (vs', rs) => K vs' { st2 with rs := eN st2.rs (an st2.rs.length rs) })
def ioD {P : Program} {R : Type} (env : Env P) (f : Nat) (vs : List AV) (st : St) (base : Nat) (K : List AV → List (Nat × ar) → List Nat → List Nat → Option R) : Option R :=
  jE (pw st.get vs) fun lv =>
  match kH ⟨lv, [], []⟩ st vs with
  | (ok, stS) => chk (.s (decide (ch.all ⟨lv, [], []⟩).Nodup) :: .s (cq st.rs (fQ (ch.all ⟨lv, [], []⟩))) ::
      .s (decide (da (ch.all ⟨lv, [], []⟩).length stS.rs (cz lv.length 0 stS.rs) = List.range' lv.length 0)) :: ok) (St.force stS fun stS => nH (stS.rs.map ar.strip) fun rs0 =>
    D.bnd (lh env f lv.length 0 (ch.all ⟨lv, [], []⟩).length rs0 stS) fun yx =>
      match eZ P true (dn P f) yx.1 base with
      | (vs', rs) => K vs' (pQ ⟨lv, [], []⟩ st rs0 (fu (gK lv.length 0 (ch.all ⟨lv, [], []⟩).length rs0) yx.2) ++ an base rs)
          (AV.ai vs ++ (lv ++ AV.ai (lv.flatMap (bt st.get)))) lv)
def yD (get : Get) : AV → Bool
  | .sl r (_ :: _) _ => (match get r with
    | .row true _ _ => true
    | _ => false)
  | _ => false
def cm (get : Get) (m : Nat) (vs : List AV) : Bool := Nat.ble 3 m && !(Nat.beq m 3 && (vs.flatMap AV.cells).any (yD get))
def uN {R : Type} (f : Nat) (vs : List AV) (st : St) (K : List AV → St → Option R) : Option R :=
  bif cm st.get (cfg.mode f) vs then ioK env (Nat.beq (cfg.mode f) 3) f vs st K else env.inl f vs st K
def ny (f : Nat) (vs : List AV) (base : Nat) : List AV × List ar :=
  bif Nat.beq (cfg.mode f) 2 then (vs, []) else nr P (fk P f) vs base
def nc (base : Nat) (dr : Bool) (o : Oper) (c : Call) (st : St) (K : Touch → St → Option R) : Option R :=
  match c.callee with
  | .builtin _ => tn o (o.op.operands.toList.map (aq st)) (bk P o (o.op.operands.toList.map (aq st)) st.get base) st K
  | .invoke _ _ => none
  | .value x => match aq st x with
    | .fn f first cap =>
      bif Nat.beq (cfg.mode f) 0 then
        match first, cap with
        | [], [] =>
          match fR st.get (fN P f) ((c.args.toList.map (aq st)).flatMap AV.cells) with
          | (ok, x, rest) => chk (.s (kB P (fk P f) (c.args.toList.map (aq st))) :: .s rest.isEmpty :: ok) (D.bnd (env.pc f x) fun r =>
            match eZ P true (dn P f) r base with
            | (vs, rs) => St.force ({ st with rs := eN st.rs (an base rs) }.put o.dst (n4 vs))
                (K ⟨AV.ai (c.args.toList.map (aq st)) ++ gO st.get ((c.args.toList.map (aq st)).flatMap AV.cells), (an base rs).map (·.1), gF st (an base rs), false⟩))
        | _, _ => none
      else bif dr then (bif Nat.beq (cfg.mode f) 4 then
          ioD env f (first ++ c.args.toList.map (aq st) ++ cap) st base fun vs upd rd qu =>
            jE rd fun rd => jE (upd.map (·.1)) fun wr => jE (qu ++ gF st upd) fun qu =>
            St.force ({ st with rs := eN st.rs upd }.put o.dst (n4 vs)) (K ⟨rd, wr, qu, false⟩)
        else none) else
        match ny P cfg f (first ++ c.args.toList.map (aq st) ++ cap) st.rs.length with
        | (vs, rs) => uN P cfg env f vs { st with rs := st.rs ++ rs } fun vs st' => St.force (st'.put o.dst (n4 vs)) (K ⟨[], [], [], true⟩)
    | _ => none
def opK (base : Nat) (dr : Bool) (o : Oper) (st : St) (K : Touch → St → Option R) : Option R :=
  match o.op with
  | .call c => bif (fz P c).isSome then tn o (o.op.operands.toList.map (aq st)) (bk P o (o.op.operands.toList.map (aq st)) st.get base) st K else nc P cfg env base dr o c st K
  | _ => tn o (o.op.operands.toList.map (aq st)) (bk P o (o.op.operands.toList.map (aq st)) st.get base) st K
def xg (a b : List Nat) : Bool := a.all fun x => !b.contains x
def indep (a b : Touch) : Bool :=
  !a.alone && !b.alone && xg a.writes b.reads && xg a.writes b.writes && xg a.reads b.writes && xg a.quiet b.quiet
def jF (ops : Array Oper) (bf : List Nat) : List (Nat × Touch) → Bool
  | [] => true
  | (j, t) :: r => (r.all fun x => (bf.getD j 0).testBit x.1 ||
      (indep t x.2 && (match ops[x.1]?, ops[j]? with
        | some a, some b => Oper.apart ops a b
        | _, _ => false))) && jF ops bf r
def pf (b0 : Nat) (bf : List Nat) (tr : List (Nat × Touch)) : Bool :=
  tr.all fun x => x.2.writes.all fun r => Nat.blt r b0 || ((Nat.ble (b0 + 16 * x.1) r && Nat.blt r (b0 + 16 * x.1 + 16)) ||
    (Nat.blt r (b0 + 16 * x.1) && (bf.getD x.1 0).testBit ((r - b0) / 16)))
def kg (b0 : Option Nat) (i : Nat) (st : St) : Nat := match b0 with
  | none => st.rs.length
  | some b => b + 16 * i
def kf (ops : Array Oper) (i : Nat) : Bool := ops.toList.any fun o => match o.guard with
  | some (j, _) => Nat.beq j i
  | none => false
def fm (ops : Array Oper) (i : Nat) (o : Oper) (st : St) (K : St → Option R) : Option R :=
  match o.dst with
  | none => K st
  | some d => match st.top.getD d .undef with
    | .bool b => bif kf ops i then D.test b (K (st.put (some d) (.kb true))) (K (st.put (some d) (.kb false))) else K st
    | _ => K st
def eE : Touch := ⟨[], [], [], false⟩
def gR (b0 : Option Nat) (ops : Array Oper) (i : Nat) (st : St) (K : Touch → St → Option R) : Option R :=
  match ops[i]? with
  | none => none
  | some o =>
    match o.guard with
    | none => opK P cfg env (kg b0 i st) b0.isSome o st fun t st => fm ops i o st (K t)
    | some (j, want) => match (ops[j]?).bind (·.dst) with
      | none => none
      | some d => match st.top.getD d .undef with
        | .kb b => bif b == want then opK P cfg env (kg b0 i st) b0.isSome o st fun t st => fm ops i o st (K t) else St.force (st.put o.dst (.tup [])) (K eE)
        | .tup _ => St.force (st.put o.dst (.tup [])) (K eE)
        | _ => none
def dS (b0 : Option Nat) (ops : Array Oper) : List Nat → List (Nat × Touch) → St → (List (Nat × Touch) → St → Option R) → Option R
  | [], tr, st, K => K tr st
  | i :: rest, tr, st, K => gR P cfg env b0 ops i st fun t st => dS b0 ops rest ((i, bif b0.isSome then t else eE) :: tr) st K
def lQ (ops : Array Oper) : Bool := (List.range ops.size).all fun i => match ops[i]? with
  | some o => o.after.toList.all fun e => !Region.binds .any e || Nat.blt e.on i
  | none => true
def key : Code → Nat
  | .region id _ _ => 2 * id
  | .cond (.tmp t) _ _ => 2 * t + 1
  | .seq a _ => key a
  | .block _ c => key c
  | .loop c => key c
  | .scope c => key c
  | _ => far
abbrev cD (R : Type) := Ex → St → Option R
def mD (next : St → cD R → Option R) (K : cD R) : cD R := fun e st => match e with
  | .normal => next st K
  | .exit i => K (.exit i) st
  | .ret => K .ret st
def bN (id : Nat) (K : cD R) : cD R := fun e st => match e with
  | .normal => K .normal st
  | .exit i => bif Nat.beq i id then K .normal st else K (.exit i) st
  | .ret => K .ret st
def fg (h : Option (List Nat)) (F : St → Option R) (st : St) : Option R := match h with
  | some live => St.force (st.canon live) (D.jn F)
  | none => F st
def gl (F : St → cD R → Option R) (h : Option (List Nat)) : Nat → St → cD R → Option R
  | 0, _, _ => none
  | n + 1, st, K => F st (mD (fun st' K => fg h (fun st'' => gl F h n st'' K) st') K)
def nt (F : St → Option R) : cD R := fun e st => match e with
  | .normal => F st
  | .exit _ => none
  | .ret => F st
def cS : Code → Bool
  | .seq a b => cS a && cS b
  | .cond _ a b => cS a && cS b
  | .block _ c => cS c
  | .loop c => cS c
  | .rangeFunc _ _ _ _ => false
  | _ => true
def qD (o : Oper) (t : Nat) : Bool := match o.dst with
  | some d => Nat.beq d t
  | none => false
def xi (o : Oper) : Option Nat := match o.op, o.dst, o.guard with
  | .move (.tmp 0), some t, none => some t
  | _, _, _ => none
def xH (o : Oper) : Option (Nat × Nat × Array Operand) := match o.op, o.dst, o.guard with
  | .call c, some v, none => match c.callee with
    | .value (.tmp t) => some (v, t, c.args)
    | _ => none
  | _, _, _ => none
def yv (o : Oper) : Option (Nat × Nat) := match o.op, o.dst, o.guard with
  | .unOp .not _ (.tmp v), some d, none => some (d, v)
  | _, _, _ => none
def uV (ops : Array Oper) (t i : Nat) : Bool := match ops[i]? with
  | some o => !(qD o 0) && !(qD o t)
  | none => false
def nM : Code → Code → Option (Array Oper × Nat × Array Operand × Nat × Nat)
  | .region _ ops false, .cond (.tmp d) .ret .skip =>
    match (ops[0]?).bind xi, (ops[ops.size - 2]?).bind xH, (ops[ops.size - 1]?).bind yv with
    | some t, some (v, t', args), some (d', v') =>
      bif Nat.ble 3 ops.size && (Nat.beq t t' && (Nat.beq v v' && (Nat.beq d d' && (!(Nat.beq t 0) && (!(Nat.beq v 0) && (!(Nat.beq d 0) &&
        (List.range' 1 (ops.size - 3)).all (uV ops t))))))) then some (ops, t, args, v, d) else none
    | _, _, _ => none
  | _, _ => none
def vK (hand : List AV → St → (St → Option R) → Option R) (N : Nat) (u : Array Oper × Nat × Array Operand × Nat × Nat) (st : St) (K : cD R) : Option R :=
  match u with
  | (ops, t, args, v, d) => bif Nat.blt t N && (Nat.blt v N && Nat.blt d N) then St.force (st.put (some t) .undef) fun st =>
    dS P cfg env none ops (List.range' 1 (ops.size - 3)) [] st fun _ st =>
      hand (args.toList.map (aq st)) st fun st => St.force ((st.put (some v) (.kb true)).put (some d) (.kb false)) fun st => K .normal st
    else none
def dR (hand : List AV → St → (St → Option R) → Option R) (N kl fid : Nat) : Code → St → cD R → Option R
  | .skip, st, K => K .normal st
  | .region _ ops draw, st, K => bif !draw && ops.toList.all (fun o => !(qD o 0)) then dS P cfg env none ops (List.range ops.size) [] st fun _ st => K .normal st else none
  | .seq a b, st, K => match nM a b with
    | some u => vK P cfg env hand N u st K
    | none => dR hand N kl fid a st (mD (fun st K => fg (cfg.joins fid (key b)) (fun st => dR hand N kl fid b st K) st) K)
  | .cond c x y, st, K => match aq st c with
    | .bool b => D.test b (dR hand N kl fid x st K) (dR hand N kl fid y st K)
    | .kb b => bif b then dR hand N kl fid x st K else dR hand N kl fid y st K
    | _ => none
  | .block id c, st, K => dR hand N kl fid c st (bN id K)
  | .loop c, st, K => fg (cfg.loops fid (key c)) (fun st => gl (fun st K => dR hand N kl fid c st K) (cfg.loops fid (key c)) kl st K) st
  | .exit id, st, K => K (.exit id) st
  | .ret, st, K => K .ret st
  | _, _, _ => none
def gL (fn : Func) (args : List AV) : List AV := args ++ List.replicate (fn.ntmps - args.length) (.tup [])
def pU (ps : Array Tmp) (vs : List AV) (f : List AV) : List AV := (ps.toList.zip vs).foldl (fun f x => f.set x.1 x.2) f
def wY (Kgo : St → Option R) (KX : cD R) : cD R := fun e st => match e with
  | .normal => Kgo ⟨st.fr.tail, st.rs⟩
  | .exit i => KX (.exit i) ⟨st.fr.tail.tail, st.rs⟩
  | .ret => KX .ret ⟨st.fr.tail.tail, st.rs⟩
def yL (F : St → Option R) : cD R := fun e st => match e with
  | .normal => F st
  | .exit _ => none
  | .ret => none
def lk (FA FB : St → cD R → Option R) (ps : Array Tmp) (KX : cD R) (vs : List AV) (st : St) (Kgo : St → Option R) : Option R :=
  match st.fr with
  | it :: top :: rest => bif Nat.beq vs.length ps.size then
      St.force ⟨pU ps vs top :: it :: top :: rest, st.rs⟩ fun st => FA st (yL fun st => FB st (wY Kgo KX))
    else none
  | _ => none
def St.l6 (st : St) : Option (List Nat) → St
  | some live => st.hO live
  | none => st
def exec (kl fid : Nat) : Code → St → cD R → Option R
  | .skip, st, K => K .normal st
  | .region _ ops draw, st, K =>
    bif draw then nZ st.rs.length fun b0 => jE (Region.before ops).toList fun bf =>
      dS P cfg env (some b0) ops (List.range ops.size) [] st fun tr st => bif jF ops bf tr && (pf b0 bf tr && lQ ops) then K .normal st else none
    else dS P cfg env none ops (List.range ops.size) [] st fun _ st => K .normal st
  | .seq a b, st, K => exec kl fid a st (mD (fun st K => fg (cfg.joins fid (key b)) (fun st => exec kl fid b st K) st) K)
  | .cond c x y, st, K => match aq st c with
    | .bool b => D.test b (exec kl fid x st K) (exec kl fid y st K)
    | .kb b => bif b then exec kl fid x st K else exec kl fid y st K
    | .nb n => bif Nat.beq (cfg.mode fid) 0 then D.test (D.eqN n 0) (D.both (exec kl fid x st K) (exec kl fid y st K)) (exec kl fid y st K) else none
    | _ => none
  | .block id c, st, K => exec kl fid c st (bN id K)
  | .loop c, st, K => fg (cfg.loops fid (key c)) (fun st => gl (fun st K => exec kl fid c st K) (cfg.loops fid (key c)) kl st K) st
  | .exit id, st, K => K (.exit id) st
  | .ret, st, K => K .ret st
  | .rangeFunc h ps x y, st, K => bif cS x && cS y then match aq st h with
      | .fn f [] cap => match P.funcs[f]? with
        | none => none
        | some fn => match fn.body with
          | none => none
          | some c => bif fn.results.isEmpty then St.force ⟨gL fn (.undef :: cap) :: (st.l6 (cfg.loops fid (far + key y))).fr, st.rs⟩ fun st =>
            dR P cfg env (lk (fun st K => exec kl fid x st K) (fun st K => exec kl fid y st K) ps K) fn.ntmps kl f c st (nt fun st => K .normal ⟨st.fr.tail, st.rs⟩)
            else none
      | _ => none
    else none
  | _, _, _ => none
end run
def kT (P : Program) (st : St) : ResultVar → List Tst × AV
  | .tmp t => ([], st.top.getD t .undef)
  | .cell a t => ((dQ P t (st.top.getD a .undef) st.get).ok, (dQ P t (st.top.getD a .undef) st.get).v)
def sU (P : Program) (fn : Func) (st : St) : List Tst × List AV :=
  ((fn.results.toList.map (kT P st)).flatMap (·.1), (fn.results.toList.map (kT P st)).map (·.2))
def finish (P : Program) (f : Nat) (fn : Func) (st : St) : Option (den (resTy P f)) :=
  match sU P fn st with
  | (ok, vs) => match bW st.get (resTy P f) (vs.flatMap AV.cells) with
    | (ok1, x, rest) => match gives st.get (resTy P f) (vs.flatMap AV.cells) with
      | (ok2, l, _) => chk (ok ++ ok1 ++ ok2 ++ [.s (kB P (dn P f) vs), .s rest.isEmpty, .s (decide l.Nodup)]) (some x)
abbrev Ext (P : Program) := (f : Nat) → Option (den (fN P f) → Option (den (resTy P f)))
def sa (P : Program) (cfg : Cfg) (E : Ext P) (env : Env P) (k f : Nat) (x : den (fN P f)) : Option (den (resTy P f)) :=
  match E f with
  | some g => g x
  | none => match P.funcs[f]? with
    | none => none
    | some fn => match fn.body with
      | none => none
      | some c =>
        match eZ P false (fk P f) x 0 with
        | (vs, rs) => St.force { fr := [gL fn vs], rs := rs } fun st => exec P cfg env k f c st (nt (finish P f fn))
def fK {R : Type} (P : Program) (fn : Func) (K : List AV → St → Option R) (st : St) : Option R :=
  match sU P fn st with
  | (ok, vs) => chk ok (K vs { st with fr := st.fr.tail })
def od (P : Program) (cfg : Cfg) (env : Env P) (k : Nat) {R : Type} (f : Nat) (args : List AV) (st : St) (K : List AV → St → Option R) : Option R :=
  bif Nat.beq (cfg.mode f) 0 then none else
  match P.funcs[f]? with
  | none => none
  | some fn => match fn.body with
    | none => none
    | some c => St.force { st with fr := gL fn args :: st.fr } fun st => exec P cfg env k f c st (nt (fK P fn K))
def kN (P : Program) (cfg : Cfg) (E : Ext P) : Nat → Env P
  | 0 => ⟨fun _ _ => none, fun _ _ _ _ => none⟩
  | k + 1 => ⟨fun f x => sa P cfg E (kN P cfg E k) k f x, fun f args st K => od P cfg (kN P cfg E k) k f args st K⟩
def sI (P : Program) (cfg : Cfg) (E : Ext P) (k f : Nat) (x : den (fN P f)) : Option (den (resTy P f)) := (kN P cfg E k).pc f x
end Go.Am
end
