/- The machine: an executor of code over data, by symbols; nothing is proved here but small facts of its parts. -/
import Derived.Calls
import Derived.KernelRfl
import Derived.Laws.Sem
import Derived.Orders
set_option linter.unusedSimpArgs false
set_option linter.unusedVariables false
set_option linter.unnecessarySimpa false
set_option linter.unusedSectionVars false
section
/- The abstract machine, first part: typed trees, abstract values, states. -/
noncomputable section
namespace Go.Am
class D where
  rd : {α : Type} → (xs : List α) → (i : Nat) → (d : α) → α
  len : {α : Type} → (xs : List α) → Nat
  lenI : {α : Type} → (xs : List α) → Int
  app : {α : Type} → (xs : List α) → (ys : List α) → List α
  set : {α : Type} → (xs : List α) → (i : Nat) → (x : α) → List α
  take : {α : Type} → (n : Nat) → (xs : List α) → List α
  drop : {α : Type} → (n : Nat) → (xs : List α) → List α
  rep : {α : Type} → (n : Nat) → (x : α) → List α
  test : {α : Type} → (b : Bool) → (x : Option α) → (y : Option α) → Option α
  bnd : {α : Type} → {β : Type} → (x : Option α) → (f : α → Option β) → Option β
  both : {α : Type} → (x : Option α) → (y : Option α) → Option α
  jn : {α : Type} → {β : Type} → (F : α → Option β) → (x : α) → Option β
  sel : {α : Type} → (b : Bool) → (x : α) → (y : α) → α
  no : (b : Bool) → Bool
  wrap : (k : IntKind) → (n : Int) → Int
  add : (a : Int) → (b : Int) → Int
  sub : (a : Int) → (b : Int) → Int
  mul : (a : Int) → (b : Int) → Int
  quo : (a : Int) → (b : Int) → Int
  rem : (a : Int) → (b : Int) → Int
  ofN : (n : Nat) → Int
  nat : (n : Int) → Nat
  addN : (a : Nat) → (b : Nat) → Nat
  subN : (a : Nat) → (b : Nat) → Nat
  eq : (a : Int) → (b : Int) → Bool
  lt : (a : Int) → (b : Int) → Bool
  le : (a : Int) → (b : Int) → Bool
  eqB : (a : Bool) → (b : Bool) → Bool
  ltN : (a : Nat) → (b : Nat) → Bool
  leN : (a : Nat) → (b : Nat) → Bool
  eqN : (a : Nat) → (b : Nat) → Bool
  eqP : (p : List (Nat × Nat)) → (q : List (Nat × Nat)) → Bool
  or2 : (a : Bool) → (b : Bool) → Bool
  eqS : (a : ByteArray) → (b : ByteArray) → Bool
  ltS : (a : ByteArray) → (b : ByteArray) → Bool
  catS : (a : ByteArray) → (b : ByteArray) → ByteArray
  lenS : (s : ByteArray) → Nat
  cutS : (s : ByteArray) → (l : Nat) → (h : Nat) → ByteArray
  byte : (s : ByteArray) → (i : Nat) → Int
  ofInts : (xs : List Int) → ByteArray
  ints : (s : ByteArray) → List Int
  andI : (k : IntKind) → (a : Int) → (b : Int) → Int
  orI : (k : IntKind) → (a : Int) → (b : Int) → Int
  xorI : (k : IntKind) → (a : Int) → (b : Int) → Int
  andNI : (k : IntKind) → (a : Int) → (b : Int) → Int
  shlI : (k : IntKind) → (a : Int) → (b : Int) → Int
  shrI : (k : IntKind) → (a : Int) → (b : Int) → Int
open Classical in
noncomputable def ways {α : Type} (x y : Option α) : Option α := if x = y then x else none
theorem AT {α : Type} {x y : Option α} {r : α} (h : ways x y = some r) : x = some r ∧ y = some r := by
  unfold ways at h
  split at h
  · next e => exact ⟨h, e ▸ h⟩
  · cases h
theorem AD {α : Type} (x : Option α) : ways x x = x := by simp [ways]
@[reducible] noncomputable def D.real : D where
  rd := fun {_} xs i d => xs.getD i d
  len := fun {_} xs => xs.length
  lenI := fun {_} xs => (xs.length : Int)
  app := fun {_} xs ys => xs ++ ys
  set := fun {_} xs i x => xs.set i x
  take := fun {_} n xs => xs.take n
  drop := fun {_} n xs => xs.drop n
  rep := fun {_} n x => List.replicate n x
  test := fun {_} b x y => if b = true then x else y
  bnd := fun {_} {_} x f => x.bind f
  both := fun {_} x y => ways x y
  jn := fun {_} {_} F x => F x
  sel := fun {_} b x y => if b = true then x else y
  no := fun b => !b
  wrap := fun k n => k.wrap n
  add := fun a b => a + b
  sub := fun a b => a - b
  mul := fun a b => a * b
  quo := fun a b => a.tdiv b
  rem := fun a b => a.tmod b
  ofN := fun n => (n : Int)
  nat := fun n => n.toNat
  addN := fun a b => a + b
  subN := fun a b => a - b
  eq := fun a b => decide (a = b)
  lt := fun a b => decide (a < b)
  le := fun a b => decide (a ≤ b)
  eqB := fun a b => a == b
  ltN := fun a b => decide (a < b)
  leN := fun a b => decide (a ≤ b)
  eqN := fun a b => decide (a = b)
  eqP := fun p q => decide (p = q)
  or2 := fun a b => a || b
  eqS := fun a b => a.toList == b.toList
  ltS := fun a b => Op.bytesLess a.toList b.toList
  catS := fun a b => a ++ b
  lenS := fun s => s.size
  cutS := fun s l h => s.extract l h
  byte := fun s i => ((s.data.getD i 0).toNat : Int)
  ofInts := fun xs => ⟨(xs.map fun n => UInt8.ofNat n.toNat).toArray⟩
  ints := fun s => s.data.toList.map fun b => (b.toNat : Int)
  andI := fun k a b => k.wrap (BitVec.ofInt k.bits a &&& BitVec.ofInt k.bits b).toNat
  orI := fun k a b => k.wrap (BitVec.ofInt k.bits a ||| BitVec.ofInt k.bits b).toNat
  xorI := fun k a b => k.wrap (BitVec.ofInt k.bits a ^^^ BitVec.ofInt k.bits b).toNat
  andNI := fun k a b => k.wrap (BitVec.ofInt k.bits a &&& ~~~(BitVec.ofInt k.bits b)).toNat
  shlI := fun k a b => k.wrap (a * 2 ^ min b.toNat k.bits)
  shrI := fun k a b => a.fdiv (2 ^ min b.toNat k.bits)
class DJ [D] : Prop where
  jn_eq : ∀ {α β : Type} (F : α → Option β) (x : α), D.jn F x = F x
variable [D]
inductive Tst where
  | s (b : Bool) | d (b : Bool)
inductive Ty where
  | int (k : IntKind) | bool | str | sl (e : Ty) | pair (a b : Ty) | unit
  deriving DecidableEq
@[reducible] def den : Ty → Type
  | .int _ => Int
  | .bool => Bool
  | .str => ByteArray
  | .sl e => List (den e)
  | .pair a b => den a × den b
  | .unit => Unit
def Ty.size : Ty → Nat
  | .pair a b => a.size + b.size
  | .unit => 0
  | _ => 1
def cq : (t : Ty) → den t
  | .int _ => (0 : Int)
  | .bool => false
  | .str => ByteArray.empty
  | .sl _ => []
  | .pair a b => (cq a, cq b)
  | .unit => ()
def Ty.flat : Ty → Bool
  | .sl _ => false
  | .pair a b => a.flat && b.flat
  | _ => true
def Ty.all : List Ty → Ty
  | [] => .unit
  | [t] => t
  | t :: u :: r => .pair t (Ty.all (u :: r))
abbrev Path := List (Nat × Nat)
inductive AV where
  | undef
  | int (k : IntKind) (n : Int)
  | bool (b : Bool)
  | kb (b : Bool)
  | nb (n : Nat)
  | str (s : ByteArray)
  | nilS
  | sl (r : Nat) (p : Path) (sub : Option (Nat × Nat))
  | pv (r c : Nat)
  | pe (r : Nat) (p : Path) (i f : Nat)
  | lit (r n : Nat)
  | fn (f : Nat) (first cap : List AV)
  | agg (cs : List AV)
  | tup (vs : List AV)
inductive aU where
  | dead
  | var (cs : List AV)
  | row (rw : Bool) (t : Ty) (xs : List (den t))
  | pend (r : Nat) (p : Path) (t : Ty) (xs : List (den t))
structure St where
  fr : List (List AV)
  rs : List aU
def AV.cells : AV → List AV
  | .agg cs => cs
  | v => [v]
def Bh : List (Option (Bool × Ty)) → Option (List Ty)
  | [] => some []
  | none :: _ => none
  | some x :: r => match Bh r with
    | some l => some (x.2 :: l)
    | none => none
def Br (P : Program) : Nat → TypeId → Option (Bool × Ty)
  | 0, _ => none
  | n + 1, t =>
    match P.underlying t with
    | some .bool => some (false, .bool)
    | some (.int k) => some (false, .int k)
    | some .string => some (false, .str)
    | some (.slice e) => match Br P n e with
      | some x => some (false, .sl x.2)
      | none => none
    | some (.struct fs) => match Bh (fs.toList.map fun f => Br P n f.type) with
      | some l => some (true, Ty.all l)
      | none => none
    | some (.array m e) => match Br P n e with
      | some x => some (true, Ty.all (List.replicate m x.2))
      | none => none
    | _ => none
def rW (P : Program) (t : TypeId) : Option (Bool × Ty) := Br P 6 t
def tyD (P : Program) (t : TypeId) : Ty := match rW P t with
  | some x => x.2
  | none => .unit
def oZ (P : Program) (t : TypeId) : Bool := match rW P t with
  | some x => x.1
  | none => true
def gY (P : Program) (f : Nat) : List TypeId := match P.funcs[f]? with
  | some fn => fn.params.toList
  | none => []
def eM (P : Program) (f : Nat) : List TypeId := match P.funcs[f]? with
  | some fn => fn.resultTypes.toList
  | none => []
def ij (P : Program) (f : Nat) : Ty := Ty.all ((gY P f).map (tyD P))
def resTy (P : Program) (f : Nat) : Ty := Ty.all ((eM P f).map (tyD P))
abbrev Cell := (t : Ty) × den t
abbrev Row := (t : Ty) × List (den t)
def cellAt : (t : Ty) → den t → Nat → Cell
  | .pair a b, d, f => bif Nat.blt f a.size then cellAt a d.1 f else cellAt b d.2 (f - a.size)
  | .unit, d, _ => ⟨.unit, d⟩
  | .int k, d, f => bif Nat.beq f 0 then ⟨.int k, d⟩ else ⟨.unit, ()⟩
  | .bool, d, f => bif Nat.beq f 0 then ⟨.bool, d⟩ else ⟨.unit, ()⟩
  | .str, d, f => bif Nat.beq f 0 then ⟨.str, d⟩ else ⟨.unit, ()⟩
  | .sl e, d, f => bif Nat.beq f 0 then ⟨.sl e, d⟩ else ⟨.unit, ()⟩
def cG : (t : Ty) → den t → Nat → ((c : Ty) → den c → den c) → den t
  | .pair a b, d, f, g => bif Nat.blt f a.size then (cG a d.1 f g, d.2) else (d.1, cG b d.2 (f - a.size) g)
  | .unit, d, _, _ => d
  | .int k, d, f, g => bif Nat.beq f 0 then g (.int k) d else d
  | .bool, d, f, g => bif Nat.beq f 0 then g .bool d else d
  | .str, d, f, g => bif Nat.beq f 0 then g .str d else d
  | .sl e, d, f, g => bif Nat.beq f 0 then g (.sl e) d else d
def rowAt : (t : Ty) → List (den t) → Path → List Tst × Row
  | t, xs, [] => ([], ⟨t, xs⟩)
  | t, xs, (i, f) :: p =>
    match cellAt t (D.rd xs i (cq t)) f with
    | ⟨.sl e, ys⟩ => match rowAt e ys p with
      | (ok, r) => (.d (D.ltN i (D.len xs)) :: ok, r)
    | _ => ([.s false], ⟨.unit, []⟩)
def il : (t : Ty) → List (den t) → Path → ((e : Ty) → List (den e) → List (den e)) → List (den t)
  | t, xs, [], g => g t xs
  | t, xs, (i, f) :: p, g =>
    D.set xs i (cG t (D.rd xs i (cq t)) f fun c => match c with
      | .sl e => fun ys => il e ys p g
      | _ => fun d => d)
def jX (r : Nat) (p : Path) (i : Nat) : (t : Ty) → den t → Nat → List AV
  | .int k, n, _ => [.int k n]
  | .bool, b, _ => [.bool b]
  | .str, s, _ => [.str s]
  | .sl _, _, f => [.sl r (p ++ [(i, f)]) none]
  | .pair a b, d, f => jX r p i a d.1 f ++ jX r p i b d.2 (f + a.size)
  | .unit, _, _ => []
def gG {α : Type} : Option (Nat × Nat) → List α → List α
  | none, xs => xs
  | some (o, l), xs => D.take l (D.drop o xs)
def gB {α : Type} : Option (Nat × Nat) → List α → Nat
  | none, xs => D.len xs
  | some (_, l), _ => l
def py : Option (Nat × Nat) → Nat → Nat
  | none, n => n
  | some (o, _), n => D.addN o n
def nw {a b : Ty} (h : a = b) (x : List (den a)) : List (den b) := h ▸ x
abbrev Get := Nat → aU
def sliceAt (get : Get) (r : Nat) (p : Path) : List Tst × Row :=
  match get r with
  | .row _ t xs => rowAt t xs p
  | .pend _ _ t xs => match p with
    | [] => ([], ⟨t, xs⟩)
    | _ => ([.s false], ⟨.unit, []⟩)
  | _ => ([.s false], ⟨.unit, []⟩)
def cF (get : Get) : (t : Ty) → List AV → List Tst × den t × List AV
  | .int k, vs => match vs with
    | .int k' n :: vs => ([.s (decide (k' = k))], n, vs)
    | _ => ([.s false], (0 : Int), [])
  | .bool, vs => match vs with
    | .bool b :: vs => ([], b, vs)
    | .kb b :: vs => ([], b, vs)
    | _ => ([.s false], false, [])
  | .str, vs => match vs with
    | .str s :: vs => ([], s, vs)
    | _ => ([.s false], ByteArray.empty, [])
  | .sl e, vs => match vs with
    | .nilS :: vs => ([], ([] : List (den e)), vs)
    | .sl r p sub :: vs => match sliceAt get r p with
      | (ok, ⟨e', ys⟩) => match decEq e' e with
        | .isTrue h => (ok, gG sub (nw h ys), vs)
        | .isFalse _ => ([.s false], ([] : List (den e)), [])
    | _ => ([.s false], ([] : List (den e)), [])
  | .pair a b, vs => match cF get a vs with
    | (ok, x, vs) => match cF get b vs with
      | (ok', y, vs) => (ok ++ ok', (x, y), vs)
  | .unit, vs => ([], (), vs)
def iu {α : Type} (rd : List AV → List Tst × α × List AV) : Nat → List AV → List Tst × List α × List AV
  | 0, vs => ([], [], vs)
  | n + 1, vs => match rd vs with
    | (ok, x, vs) => match iu rd n vs with
      | (ok', xs, vs) => (ok ++ ok', x :: xs, vs)
def iB (get : Get) : (t : Ty) → List AV → List Tst × den t × List AV
  | .int k, vs => cF get (.int k) vs
  | .bool, vs => cF get .bool vs
  | .str, vs => cF get .str vs
  | .unit, vs => cF get .unit vs
  | .sl e, vs => match vs with
    | .lit r n :: vs' => match get r with
      | .var cs => match iu (cF get e) n cs with
        | (ok, xs, rest) => (.s rest.isEmpty :: .s (Nat.blt 0 e.size) :: ok, xs, vs')
      | _ => ([.s false], ([] : List (den e)), [])
    | vs => cF get (.sl e) vs
  | .pair a b, vs => match iB get a vs with
    | (ok, x, vs) => match iB get b vs with
      | (ok', y, vs) => (ok ++ ok', (x, y), vs)
def gives (get : Get) : (t : Ty) → List AV → List Tst × List Nat × List AV
  | .sl e, vs => match vs with
    | .nilS :: vs => ([], [], vs)
    | .sl r _ _ :: vs => match get r with
      | .row true _ _ => ([], [r], vs)
      | _ => ([.s false], [], [])
    | _ => ([.s false], [], [])
  | .pair a b, vs => match gives get a vs with
    | (ok, l, vs) => match gives get b vs with
      | (ok', l', vs) => (ok ++ ok', l ++ l', vs)
  | .unit, vs => ([], [], vs)
  | _, vs => ([], [], vs.tail)
def mJ (rw : Bool) : (t : Ty) → den t → (base : Nat) → List AV × List aU
  | .int k, n, _ => ([.int k n], [])
  | .bool, b, _ => ([.bool b], [])
  | .str, s, _ => ([.str s], [])
  | .sl e, xs, base => ([.sl base [] none], [.row rw e xs])
  | .pair a b, d, base => match mJ rw a d.1 base with
    | (vs, rs) => match mJ rw b d.2 (base + rs.length) with
      | (vs', rs') => (vs ++ vs', rs ++ rs')
  | .unit, _, _ => ([], [])
def mkV (agg : Bool) (cs : List AV) : AV := bif agg then .agg cs else cs.headD .undef
def gK (P : Program) (rw : Bool) : (ts : List TypeId) → den (Ty.all (ts.map (tyD P))) → (base : Nat) → List AV × List aU
  | [], _, _ => ([], [])
  | [t], d, base => match mJ rw (tyD P t) d base with
    | (vs, rs) => ([mkV (oZ P t) vs], rs)
  | t :: u :: r, d, base => match mJ rw (tyD P t) d.1 base with
    | (vs, rs) => match gK P rw (u :: r) d.2 (base + rs.length) with
      | (ws, rs') => (mkV (oZ P t) vs :: ws, rs ++ rs')
def kI : (t : Ty) → List AV → (base : Nat) → List AV × List aU
  | .sl e, vs, base => match vs with
    | .nilS :: r => (.sl base [] none :: r, [.row true e []])
    | vs => (vs, [])
  | .pair a b, vs, base => match kI a (vs.take a.size) base with
    | (ws, rs) => match kI b (vs.drop a.size) (base + rs.length) with
      | (ws', rs') => (ws ++ ws', rs ++ rs')
  | .unit, vs, _ => (vs, [])
  | _, vs, _ => (vs, [])
end Go.Am
end
section
/- The abstract machine, second part: the operations as total functions with the tests that they ask; the executor. -/
noncomputable section
namespace Go.Am
variable [D]
structure Out where
  ok : List Tst
  v : AV
  upd : List (Nat × aU) := []
  cut : Option (Nat × Nat) := none
  quiet : List (Nat × Option Nat) := []
def Out.bad : Out := { ok := [.s false], v := .undef }
def lim : Nat := 1099511627776
def ay (base : Nat) : List aU → List (Nat × aU)
  | [] => []
  | r :: rs => (base, r) :: ay (base + 1) rs
def gQ (cs : List AV) (c : Nat) (vs : List AV) : List AV := cs.take c ++ vs ++ cs.drop (c + vs.length)
def pL (P : Program) (s : TypeId) (i : Nat) : Option (Nat × TypeId) :=
  match P.underlying s with
  | some (.struct fs) => match fs[i]? with
    | some f => some (f.offset, f.type)
    | none => none
  | _ => none
def ki (P : Program) (t : TypeId) : Bool := match P.underlying t with
  | some (.struct _) => true
  | some (.array _ _) => true
  | _ => false
def gJ (P : Program) (t : TypeId) : Bool := (P.underlying t).isSome && (P.info? t).isSome
def fA : Ty → Value → Bool
  | .int k, .int k' n => decide (k = k') && decide (n = 0)
  | .bool, .bool b => !b
  | .str, .string s => Nat.beq s.size 0
  | .sl _, .slice none 0 0 => true
  | _, _ => false
def mZ : Ty → List Value → Option (List Value)
  | .pair a b, l => match mZ a l with
    | some l => mZ b l
    | none => none
  | .unit, l => some l
  | .int k, l => match l with
    | v :: l => bif fA (.int k) v then some l else none
    | [] => none
  | .bool, l => match l with
    | v :: l => bif fA .bool v then some l else none
    | [] => none
  | .str, l => match l with
    | v :: l => bif fA .str v then some l else none
    | [] => none
  | .sl e, l => match l with
    | v :: l => bif fA (.sl e) v then some l else none
    | [] => none
def lS (P : Program) (t : TypeId) : Bool := match P.info? t, rW P t, P.underlying t with
  | some i, some (agg, ty), some _ => Nat.beq i.size ty.size && Nat.ble i.bytes 128 && (agg == ki P t) && (match i.zero with
    | some z => (match mZ ty z.cells.toList with
      | some [] => true
      | _ => false)
    | none => false)
  | _, _, _ => false
def ik (P : Program) (t : TypeId) : Option TypeId := match P.underlying t with
  | some (.slice e) => some e
  | _ => none
def gZ (P : Program) (t : TypeId) (base : Nat) : Option (List AV × List aU) :=
  match rW P t with
  | some x => bif lS P t then some (mJ true x.2 (cq x.2) base) else none
  | none => match P.info? t with
    | some i => match i.zero with
      | some z => bif z.cells.toList.all Value.oneCell' then some (List.replicate z.cells.size .undef, []) else none
      | none => none
    | none => none
def mL (P : Program) (t : TypeId) (v : AV) (base : Nat) : AV × List aU :=
  match v with
  | .nilS => match kI (tyD P t) [.nilS] base with
    | (vs, rs) => (vs.headD .undef, rs)
  | .agg cs => match kI (tyD P t) cs base with
    | (vs, rs) => (.agg vs, rs)
  | v => (v, [])
def AV.ko : AV → Bool
  | .undef => false
  | .tup _ => false
  | _ => true
def zd (c a b : AV) : Out :=
  match c with
  | .kb true => { ok := [], v := a }
  | .kb false => { ok := [], v := b }
  | _ => .bad
def sL (op : BinOp) (k : IntKind) (a b : Int) : Out :=
  match op with
  | .add => { ok := [], v := .int k (D.wrap k (D.add a b)) }
  | .sub => { ok := [], v := .int k (D.wrap k (D.sub a b)) }
  | .mul => { ok := [], v := .int k (D.wrap k (D.mul a b)) }
  | .quo => { ok := [.d (D.no (D.eq b 0))], v := .int k (D.wrap k (D.quo a b)) }
  | .rem => { ok := [.d (D.no (D.eq b 0))], v := .int k (D.rem a b) }
  | .eql => { ok := [], v := .bool (D.eq a b) }
  | .neq => { ok := [], v := .bool (D.no (D.eq a b)) }
  | .lss => { ok := [], v := .bool (D.lt a b) }
  | .leq => { ok := [], v := .bool (D.le a b) }
  | .gtr => { ok := [], v := .bool (D.lt b a) }
  | .geq => { ok := [], v := .bool (D.le b a) }
  | .and => { ok := [], v := .int k (D.andI k a b) }
  | .or => { ok := [], v := .int k (D.orI k a b) }
  | .xor => { ok := [], v := .int k (D.xorI k a b) }
  | .andNot => { ok := [], v := .int k (D.andNI k a b) }
  | _ => .bad
def nB (op : BinOp) (k : IntKind) (a b : Int) : Out :=
  match op with
  | .shl => { ok := [.d (D.le 0 b)], v := .int k (D.shlI k a b) }
  | .shr => { ok := [.d (D.le 0 b)], v := .int k (D.shrI k a b) }
  | _ => .bad
def zK : BinOp → Bool
  | .shl => true
  | .shr => true
  | _ => false
def qE (op : BinOp) (a b : ByteArray) : Out :=
  match op with
  | .add => { ok := [.d (D.leN (D.addN (D.lenS a) (D.lenS b)) lim)], v := .str (D.catS a b) }
  | .eql => { ok := [], v := .bool (D.eqS a b) }
  | .neq => { ok := [], v := .bool (D.no (D.eqS a b)) }
  | .lss => { ok := [], v := .bool (D.ltS a b) }
  | .leq => { ok := [], v := .bool (D.or2 (D.ltS a b) (D.eqS a b)) }
  | .gtr => { ok := [], v := .bool (D.no (D.or2 (D.ltS a b) (D.eqS a b))) }
  | .geq => { ok := [], v := .bool (D.no (D.ltS a b)) }
  | _ => .bad
def AV.toB : AV → AV
  | .kb b => .bool b
  | v => v
def sd (P : Program) (t : TypeId) : Bool := match P.underlying t with
  | some .bool => true
  | _ => false
def qa (P : Program) (t : TypeId) (op : BinOp) (x y : AV) : Out :=
  match x.toB, y.toB with
  | .int k a, .int k' b => bif zK op then nB op k a b else bif decide (k = k') then sL op k a b else .bad
  | .str a, .str b => qE op a b
  | .bool a, .bool b => match op with
    | .eql => { ok := [.s (sd P t)], v := .bool (D.eqB a b) }
    | .neq => { ok := [.s (sd P t)], v := .bool (D.no (D.eqB a b)) }
    | _ => .bad
  | _, _ => .bad
def qB (P : Program) (t : TypeId) (op : BinOp) (x y : AV) (get : Get) : Out :=
  match op, x, y with
  | .eql, .sl r p sub, .nilS => match get r with
    | .row _ t' xs => match rowAt t' xs p with
      | (ok, ⟨_, ys⟩) => { ok := .s (ik P t).isSome :: ok, v := .nb (gB sub ys) }
    | _ => .bad
  | _, _, _ => qa P t op x y
def Bd (P : Program) (e : TypeId) : Bool := match P.underlying e with
  | some (.int .u8) => true
  | _ => false
def nH (P : Program) (src dst : TypeId) (x : AV) (get : Get) : Out :=
  match P.underlying src, P.underlying dst, x with
  | some _, some (.int k), .int _ n => { ok := [], v := .int k (D.wrap k n) }
  | some _, some .string, .str s => { ok := [], v := .str s }
  | some (.slice e), some .string, x =>
    bif Bd P e then
      match cF get (.sl (.int .u8)) [x] with
      | (ok, xs, _) => { ok := ok, v := .str (D.ofInts xs) }
    else .bad
  | _, _, _ => .bad
def gr (P : Program) (t : TypeId) (te : Ty) : Bool := match ik P t with
  | some e => lS P e && decide (tyD P e = te) && Nat.blt 0 te.size
  | none => false
def um (P : Program) (t : TypeId) : Bool := match P.underlying t with
  | some .string => true
  | _ => false
def fG (P : Program) (t : TypeId) (cs : List AV) (f : Nat) : Out :=
  bif ki P t then { ok := [.s (gJ P t), .s (Nat.ble (f + P.cellsOf t) cs.length)], v := .agg ((cs.drop f).take (P.cellsOf t)) }
  else { ok := [.s (gJ P t), .s (Nat.blt f cs.length)], v := cs.getD f .undef }
def fF (P : Program) (t : TypeId) (a : AV) (get : Get) : Out :=
  match a with
  | .pv r c => match get r with
    | .var cs => fG P t cs c
    | _ => .bad
  | .pe r p i f => match get r with
    | .row _ t' xs => match rowAt t' xs p with
      | (ok, ⟨e, ys⟩) =>
        match fG P t (jX r p i e (D.rd ys i (cq e)) 0) f with
        | ⟨ok', v, _, _, _⟩ => { ok := ok ++ .d (D.ltN i (D.len ys)) :: ok', v := v }
    | _ => .bad
  | _ => .bad
def fK (v : AV) : (c : Ty) → den c → den c
  | .int _, d => match v with
    | .int _ n => n
    | _ => d
  | .bool, d => match v with
    | .bool b => b
    | .kb b => b
    | _ => d
  | .str, d => match v with
    | .str s => s
    | _ => d
  | _, d => d
def dK (v : AV) : Ty → Bool
  | .int k => match v with
    | .int k' _ => decide (k = k')
    | _ => false
  | .bool => match v with
    | .bool _ => true
    | .kb _ => true
    | _ => false
  | .str => match v with
    | .str _ => true
    | _ => false
  | _ => false
def nu (e : Ty) (ys : List (den e)) : (c : Ty) → den c → den c
  | .sl e', d => match decEq e e' with
    | .isTrue h => nw h ys
    | .isFalse _ => d
  | _, d => d
def ky (t : Ty) (xs : List (den t)) (p : Path) (i f : Nat) (g : (c : Ty) → den c → den c) : aU :=
  .row true t (il t xs p fun e' zs => D.set zs i (cG e' (D.rd zs i (cq e')) f g))
def nC (v : AV) (r : Nat) (p : Path) (i f : Nat) (t : Ty) (xs : List (den t)) (e : Ty) (chk : List Tst) (get : Get) : Out :=
  match v with
  | .nilS => { ok := chk, v := .tup [], upd := [(r, ky t xs p i f (nu e []))], cut := some (r, p.length + 1), quiet := [(r, none)] }
  | .sl r2 q sub =>
    bif Nat.beq r2 r then
      match rowAt t xs q with
      | (ok, ⟨e', ys⟩) => match decEq e' e with
        | .isTrue h => { ok := chk ++ ok ++ [.d (D.eqP q (p ++ [(i, f)]))], v := .tup [], upd := [(r, ky t xs p i f (nu e (gG sub (nw h ys))))], cut := some (r, p.length + 1), quiet := [(r, none)] }
        | .isFalse _ => .bad
    else match q, get r2 with
      | [], .row true e' ys => match decEq e' e with
        | .isTrue h => { ok := chk, v := .tup [], upd := [(r2, .dead), (r, ky t xs p i f (nu e (gG sub (nw h ys))))], cut := some (r, p.length + 1), quiet := [(r, none), (r2, none)] }
        | .isFalse _ => .bad
      | [], .pend r' p' e' ys => match decEq e' e, sub with
        | .isTrue h, none => { ok := chk ++ [.s (Nat.beq r' r), .d (D.eqP p' (p ++ [(i, f)]))], v := .tup [], upd := [(r2, .dead), (r, ky t xs p i f (nu e (nw h ys)))], cut := some (r, p.length + 1), quiet := [(r, some r2)] }
        | _, _ => .bad
      | _, _ => .bad
  | _ => .bad
def iR (v : AV) (r : Nat) (p : Path) (i f : Nat) (t : Ty) (xs : List (den t)) (get : Get) : Out :=
  match rowAt t xs p with
  | (ok, ⟨e, ys⟩) => match (cellAt e (D.rd ys i (cq e)) f).1 with
    | .sl e' => nC v r p i f t xs e' (ok ++ [.d (D.ltN i (D.len ys))]) get
    | c => { ok := ok ++ [.d (D.ltN i (D.len ys)), .s (dK v c)], v := .tup [], upd := [(r, ky t xs p i f (fK v))], quiet := [(r, none)] }
def jT (e : Ty) : Nat → List AV → Bool
  | _, [] => true
  | f, v :: vs => dK v (cellAt e (cq e) f).1 && jT e (f + 1) vs
def og (e : Ty) : den e → Nat → List AV → den e
  | d, _, [] => d
  | d, f, v :: vs => og e (cG e d f (fK v)) (f + 1) vs
def vj (P : Program) (ty : TypeId) (v : AV) (r : Nat) (i f : Nat) (t : Ty) (xs : List (den t)) : Out :=
  { ok := [.s (gJ P ty), .s v.ko, .s (Nat.beq v.cells.length (P.cellsOf ty)), .s (!v.cells.isEmpty), .s (jT t f v.cells), .d (D.ltN i (D.len xs))], v := .tup []
    upd := [(r, .row true t (D.set xs i (og t (D.rd xs i (cq t)) f v.cells)))], quiet := [(r, none)] }
def gV (P : Program) (t : TypeId) (a v : AV) (get : Get) (base : Nat) : Out :=
  match a with
  | .pv r c => match get r with
    | .var cs => match mL P t v base with
      | (v', rs) =>
        { ok := [.s (gJ P t), .s v'.ko, .s (Nat.ble (c + P.cellsOf t) cs.length), .s (Nat.beq v'.cells.length (P.cellsOf t))], v := .tup []
          upd := ay base rs ++ [(r, .var (gQ cs c v'.cells))] }
    | _ => .bad
  | .pe r p i f => bif Nat.beq (P.cellsOf t) 1 then
      match get r with
      | .row true t' xs => iR v r p i f t' xs get
      | _ => .bad
    else match p, get r with
      | [], .row true t' xs => vj P t v r i f t' xs
      | _, _ => .bad
  | _ => .bad
def readAll (get : Get) (t : Ty) : List AV → List Tst × List (den t)
  | [] => ([], [])
  | v :: vs => match cF get t v.cells with
    | (ok, x, rest) => match readAll get t vs with
      | (ok', xs) => (ok ++ [.s rest.isEmpty, .s v.ko] ++ ok', x :: xs)
def iw (get : Get) (t : Ty) : List AV → List Tst × List Nat
  | [] => ([], [])
  | v :: vs => match gives get t v.cells with
    | (ok, l, _) => match iw get t vs with
      | (ok', l') => (ok ++ ok', l ++ l')
def fu (l : List Nat) : List (Nat × aU) := l.map fun r => (r, .dead)
def im (l : List Nat) : List (Nat × Option Nat) := l.map fun r => (r, none)
def tz (e : Ty) (x : AV) (get : Get) : List Tst × List (den e) × List Nat :=
  match x with
  | .str b => match decEq (Ty.int .u8) e with
    | .isTrue h => ([], nw h (D.ints b), [])
    | .isFalse _ => ([.s false], [], [])
  | x => match cF get (.sl e) [x] with
    | (ok, xs, _) => bif e.flat then (ok, xs, [])
      else match gives get (.sl e) [x] with
        | (ok', l, _) => (ok ++ ok', xs, l)
def nE (e : Ty) (s : AV) (ok : List Tst) (zs : List (den e)) (l : List Nat) (get : Get) (base : Nat) : Out :=
  match s with
  | .nilS => { ok := ok ++ [.d (D.leN (D.len zs) lim)], v := .sl base [] none, upd := fu l ++ [(base, .row true e zs)], quiet := im l }
  | .sl r p sub => match p, get r with
    | [], .row true e' ys => match decEq e' e with
      | .isTrue h =>
        { ok := ok ++ [.s (!l.contains r), .d (D.leN (D.len (D.app (gG sub (nw h ys)) zs)) lim)], v := .sl base [] none
          upd := fu l ++ [(r, .dead), (base, .row true e (D.app (gG sub (nw h ys)) zs))], quiet := (r, none) :: im l }
      | .isFalse _ => .bad
    | q :: p, .row true t xs => match rowAt t xs (q :: p), sub with
      | (ok', ⟨e', ys⟩), none => match decEq e' e with
        | .isTrue h =>
          { ok := ok ++ ok' ++ [.s e.flat, .d (D.leN (D.len (D.app (nw h ys) zs)) lim)], v := .sl base [] none
            upd := [(base, .pend r (q :: p) e (D.app (nw h ys) zs))], quiet := [(r, none)] }
        | .isFalse _ => .bad
      | _, _ => .bad
    | _, _ => .bad
  | _ => .bad
def fy (P : Program) (st : TypeId) (s x : AV) (get : Get) (base : Nat) : Out :=
  match ik P st with
  | none => .bad
  | some et => match rW P et with
    | none => .bad
    | some (_, t) => match tz t x get with
      | (ok, zs, l) => nE t s (.s (gr P st t) :: ok) zs l get base
def n8 (l : List AV) : Option Operand → Option AV × List AV
  | none => (none, l)
  | some _ => (some (l.headD .undef), l.tail)
def bounds (n : Nat) (lo hi : Option AV) : List Tst × Nat × Nat :=
  match lo, hi with
  | none, none => ([], 0, n)
  | none, some (.int _ h) => ([.d (D.le 0 h), .d (D.leN (D.nat h) n)], 0, D.nat h)
  | some (.int _ l), none => ([.d (D.le 0 l), .d (D.leN (D.nat l) n)], D.nat l, n)
  | some (.int _ l), some (.int _ h) => ([.d (D.le 0 h), .d (D.leN (D.nat h) n), .d (D.le 0 l), .d (D.leN (D.nat l) (D.nat h))], D.nat l, D.nat h)
  | _, _ => ([.s false], 0, 0)
def jZ (P : Program) (t : TypeId) (x : AV) (lo hi : Option AV) (get : Get) : Out :=
  match x with
  | .nilS => match bounds 0 lo hi with
    | (ok, _, _) => { ok := [.s (ik P t).isSome, .s (lS P ((ik P t).getD 0))] ++ ok, v := .nilS }
  | .str s => match bounds (D.lenS s) lo hi with
    | (ok, l, h) => { ok := .s (um P t) :: ok, v := .str (D.cutS s l h) }
  | .sl r p sub => match get r with
    | .row _ t' xs => match rowAt t' xs p with
      | (ok, ⟨e, ys⟩) => match bounds (gB sub ys) lo hi with
        | (ok', l, h) => { ok := .s (gr P t e) :: (ok ++ ok'), v := .sl r p (some (py sub l, D.subN h l)) }
    | _ => .bad
  | _ => .bad
def isZero : Operand → Bool
  | .const (.int _ n) => decide (n = 0)
  | _ => false
def g9 (P : Program) (t : TypeId) (x : AV) (get : Get) (base : Nat) : Out :=
  match x with
  | .nilS => { ok := [.s (ik P t).isSome, .s (lS P ((ik P t).getD 0))], v := .nilS }
  | .sl r p _ => match get r with
    | .row _ t' xs => match rowAt t' xs p with
      | (ok, ⟨e, _⟩) => { ok := .s (gr P t e) :: ok, v := .sl base [] none, upd := [(base, .row true e [])] }
    | _ => .bad
  | _ => .bad
def jM (P : Program) (t : TypeId) (x : AV) (h c : Int) (get : Get) (base : Nat) : Out :=
  match x with
  | .sl r p sub => match p, get r with
    | [], .row true e ys => { ok := [.s (gr P t e), .d (D.le 0 h), .d (D.le h c), .d (D.leN (D.nat c) (gB sub ys))], v := .sl base [] none, upd := fu [r] ++ [(base, .row true e (D.take (D.nat h) (gG sub ys)))], quiet := im [r] }
    | _, _ => .bad
  | _ => .bad
def kL (P : Program) (t : TypeId) (lo : Option Operand) (avs : List AV) (get : Get) (base : Nat) : Out := match lo, avs with
  | none, [x, .int _ h, .int _ c] => jM P t x h c get base
  | _, _ => .bad
def mV (P : Program) (t : TypeId) (x : AV) (get : Get) : Out :=
  match x with
  | .str s => { ok := [.s (um P t)], v := .int .i64 (D.ofN (D.lenS s)) }
  | .nilS => { ok := [.s (ik P t).isSome], v := .int .i64 0 }
  | .sl r p sub => match get r with
    | .row _ t' xs => match rowAt t' xs p with
      | (ok, ⟨_, ys⟩) => { ok := .s (ik P t).isSome :: ok, v := .int .i64 (D.ofN (gB sub ys)) }
    | _ => .bad
  | _ => .bad
def qz (P : Program) (t : TypeId) (x : AV) : Out :=
  match x with
  | .nilS => { ok := [.s (ik P t).isSome], v := .int .i64 0 }
  | _ => .bad
def mM (P : Program) (t : TypeId) (s x : AV) (base : Nat) : Out := match ik P t, s, x with
  | some e, .nilS, .int _ n => match rW P e with
    | some (_, t') => { ok := [.s (gr P t t'), .d (D.le 1 n), .d (D.leN (D.nat n) lim)], v := .sl base [] none, upd := [(base, .row true t' (D.rep (D.nat n) (cq t')))] }
    | none => .bad
  | _, _, _ => .bad
def lW (gt : Bool) : List AV → Out
  | [.int k a, .int k' b] => bif decide (k = k') then { ok := [], v := .int k (bif gt then D.sel (D.lt a b) b a else D.sel (D.lt b a) b a) } else .bad
  | _ => .bad
def oD (b : Bool) (v u : AV) : AV := match v, u with
  | .int k a, .int k' b' => bif decide (k = k') then .int k (D.sel b a b') else .undef
  | _, _ => .undef
def xS : AV → AV
  | .int k a => .int k a
  | _ => .undef
def jf : List AV → Nat → Int → AV
  | [], _, _ => .undef
  | v :: vs, i, n => match vs with
    | [] => xS v
    | _ :: _ => oD (D.eq n (D.ofN i)) v (jf vs (i + 1) n)
def nZ (P : Program) (xt : TypeId) (x ix : AV) : Out :=
  match x, ix with
  | .str s, .int _ n => { ok := [.s (um P xt), .d (D.le 0 n), .d (D.ltN (D.nat n) (D.lenS s))], v := .int .u8 (D.byte s (D.nat n)) }
  | .agg cs, .int _ n => match P.underlying xt with
    | some (.array m e) => { ok := [.s (gJ P e && Nat.beq (P.cellsOf e) 1 && !ki P e), .s (Nat.beq cs.length m), .d (D.le 0 n), .d (D.lt n (D.ofN m))], v := jf cs 0 n }
    | _ => .bad
  | _, _ => .bad
def fL (P : Program) (xt : TypeId) (x ix : AV) (get : Get) : Out :=
  match ix with
  | .int _ n => match x with
    | .sl r p sub => match get r with
      | .row _ t xs => match rowAt t xs p with
        | (ok, ⟨e, ys⟩) => { ok := .s (gr P xt e) :: (ok ++ [.d (D.le 0 n), .d (D.ltN (D.nat n) (gB sub ys))]), v := .pe r p (py sub (D.nat n)) 0 }
      | _ => .bad
    | .pv r c => match P.underlying xt with
      | some (.array m e) => { ok := [.s (gJ P e), .d (D.le 0 n), .d (D.lt n (D.ofN m))], v := .pv r (c + n.toNat * P.cellsOf e) }
      | _ => .bad
    | .pe r p i f => match P.underlying xt with
      | some (.array m e) => { ok := [.s (gJ P e), .d (D.le 0 n), .d (D.lt n (D.ofN m))], v := .pe r p i (f + n.toNat * P.cellsOf e) }
      | _ => .bad
    | _ => .bad
  | _ => .bad
def jI (P : Program) (place : Nat → Option (Nat × TypeId)) : List (Nat × AV) → List AV → Nat → List Tst × List AV × List aU
  | [], cs, _ => ([], cs, [])
  | (i, v) :: r, cs, base => match place i with
    | none => ([.s false], cs, [])
    | some (off, t) => match mL P t v base with
      | (v', rs) => match jI P place r (gQ cs off v'.cells) (base + rs.length) with
        | (ok, cs', rs') => ([.s v'.ko, .s (Nat.beq v'.cells.length (P.cellsOf t)), .s (Nat.ble (off + P.cellsOf t) cs.length)] ++ ok, cs', rs ++ rs')
def placeOf (P : Program) (t : TypeId) (i : Nat) : Option (Nat × TypeId) :=
  match P.underlying t with
  | some (.struct _) => pL P t i
  | some (.array m e) => bif Nat.blt i m then some (i * P.cellsOf e, e) else none
  | _ => none
def sV (P : Program) (t : TypeId) : Bool := match P.underlying t with
  | some (.struct fs) => fs.toList.all fun f => (P.info? f.type).isSome
  | some (.array _ e) => (P.info? e).isSome
  | _ => false
def mE (P : Program) (t : TypeId) (parts : List (Nat × AV)) (base : Nat) : Out :=
  match gZ P t base with
  | none => .bad
  | some (cs, rs) => match jI P (placeOf P t) parts cs (base + rs.length) with
    | (ok, cs', rs') => { ok := ok ++ [.s (sV P t)], v := .agg cs', upd := ay base (rs ++ rs') }
def DO : Tst → Bool
  | .s b => b
  | .d _ => true
def Bs : AV → Bool
  | .sl _ _ _ => true
  | .nilS => true
  | _ => false
def eA (P : Program) (t : TypeId) (len : Nat) (parts : List (Nat × AV)) (get : Get) (base : Nat) : Out :=
  match ik P t with
  | none => .bad
  | some e => match rW P e with
    | none => .bad
    | some (_, te) => match readAll get te (parts.map (·.2)) with
      | (ok, xs) => match iw get te (parts.map (·.2)) with
        | (ok', l) => bif !(ok'.all DO) && (Nat.beq te.size 1 && (parts.map (·.2)).all Bs) then
            { ok := [.s (gr P t te), .s (decide (parts.map (·.1) = List.range len)), .s (Nat.ble (len * te.size) 16777216)], v := .lit base len, upd := [(base, .var (parts.map (·.2)))] }
          else
          { ok := [.s (gr P t te), .s (decide (parts.map (·.1) = List.range len)), .s (Nat.ble (len * te.size) 16777216)] ++ ok ++ ok' ++ [.s (decide l.Nodup)]
            v := .sl base [] none, upd := fu l ++ [(base, .row true te xs)], quiet := im l }
def yj : List AV → Out
  | [.pv r c] => { ok := [], v := .pv r c }
  | [.pe r p i f] => { ok := [], v := .pe r p i f }
  | _ => .bad
def BD (op : UnOp) (avs : List AV) : Out := match op, avs with
  | .not, [.bool b] => { ok := [], v := .bool (D.no b) }
  | .not, [.kb b] => { ok := [], v := .kb (!b) }
  | .neg, [.int k n] => { ok := [], v := .int k (D.wrap k (D.sub 0 n)) }
  | _, _ => .bad
def pI (fn : Fn) (n : Nat) (avs : List AV) : Out := match fn with
  | .func f => { ok := [], v := .fn f (avs.take n) (avs.drop n) }
  | _ => .bad
def ov (P : Program) (t : TypeId) (avs : List AV) (base : Nat) : Out := match ik P t, avs with
  | some e, [.int _ l, .int _ c] => match rW P e with
    | some (_, t') => { ok := [.s (gr P t t'), .d (D.le 0 l), .d (D.le l c), .d (D.leN (D.nat c) lim)], v := .sl base [] none, upd := [(base, .row true t' (D.rep (D.nat l) (cq t')))] }
    | none => .bad
  | _, _ => .bad
def jo (P : Program) (s : TypeId) (i : Nat) (avs : List AV) : Out := match pL P s i, avs with
  | some (f, ft), [.pv r c] => { ok := [.s (Nat.blt 0 (P.cellsOf ft))], v := .pv r (c + f) }
  | some (f, ft), [.pe r p j g] => { ok := [.s (Nat.blt 0 (P.cellsOf ft))], v := .pe r p j (g + f) }
  | _, _ => .bad
def ug (P : Program) (s : TypeId) (i : Nat) (avs : List AV) : Out := match pL P s i, avs with
  | some (f, ft), [.agg cs] => fG P ft cs f
  | _, _ => .bad
def pn (i : Nat) : List AV → Out
  | [.tup vs] => { ok := [.s (Nat.blt i vs.length)], v := vs.getD i .undef }
  | _ => .bad
def CA (o : Oper) : Option (Nat × TypeId) := match o.op, o.dst, o.guard with
  | .box t (.tmp 0), some p, none => some (p, t)
  | _, _, _ => none
def Dj (o : Oper) : Option Nat := match o.op, o.dst, o.guard with
  | .assign (.const _), some q, none => some q
  | _, _, _ => none
def De (o : Oper) : Option (Nat × Nat × Nat) := match o.op, o.dst, o.guard with
  | .makeFunc (.func f) a b, some m, none => match a.toList, b.toList with
    | [], [.tmp p] => some (m, f, p)
    | _, _ => none
  | _, _, _ => none
def CD (fn : Func) : Option Nat := match fn.results.toList with
  | [.tmp r] => some r
  | _ => none
def Dc (o : Oper) : Option (Nat × Nat) := match o.op, o.dst, o.guard with
  | .assign (.tmp m), some q, none => some (q, m)
  | _, _, _ => none
def vJ (P : Program) (f : Nat) : Option (Nat × TypeId) := match P.funcs[f]? with
  | none => none
  | some fn => match fn.body with
    | some (.seq (.region _ a false) (.seq (.region _ b false) .ret)) =>
      match (a[0]?).bind CA, (a[1]?).bind Dj, (b[0]?).bind De, (b[1]?).bind Dc, CD fn with
      | some (p, t), some q, some (m, f1, p'), some (q', m'), some r =>
        bif Nat.beq a.size 2 && (Nat.beq b.size 2 && (Nat.beq p p' && (Nat.beq m m' && (Nat.beq q' r && (!(Nat.beq q p) && (Nat.blt p fn.ntmps && (Nat.blt m fn.ntmps && Nat.blt r fn.ntmps))))))) then some (f1, t) else none
      | _, _, _, _, _ => none
    | _ => none
def gN (P : Program) (c : Call) : Option (Nat × TypeId) := match c.callee with
  | .value (.func f) => vJ P f
  | _ => none
def sf (P : Program) (c : Call) (avs : List AV) (base : Nat) : Out := match gN P c, avs with
  | some (f1, _), [_, .sl r p sub] => { ok := [.s (Nat.beq c.args.size 1)], v := .fn f1 [] [.pv base 0], upd := [(base, .var [.sl r p sub])] }
  | _, _ => .bad
def bQ (P : Program) (o : Oper) (avs : List AV) (get : Get) (base : Nat) : Out :=
  match o.op with
  | .move _ => { ok := [], v := avs.headD .undef }
  | .assign _ => match mL P o.type (avs.headD .undef) base with
    | (v, rs) => { ok := [], v := v, upd := ay base rs }
  | .pick _ _ _ => match avs with
    | [c, a, b] => zd c a b
    | _ => .bad
  | .alloc t => match gZ P t (base + 1) with
    | some (cs, rs) => { ok := [], v := .pv base 0, upd := (base, .var cs) :: ay (base + 1) rs }
    | none => .bad
  | .box t _ => match mL P t (avs.headD .undef) (base + 1) with
    | (v, rs) => { ok := [.s v.ko], v := .pv base 0, upd := (base, .var v.cells) :: ay (base + 1) rs }
  | .build t ps => mE P t ((ps.toList.map (·.1)).zip avs) base
  | .buildSlice t len ps => eA P t len ((ps.toList.map (·.1)).zip avs) get base
  | .load t _ => fF P t (avs.headD .undef) get
  | .store t _ _ => match avs with
    | [a, v] => gV P t a v get base
    | _ => .bad
  | .nilCheck _ => yj avs
  | .binOp op t _ _ _ => match avs with
    | [a, b] => qB P t op a b get
    | _ => .bad
  | .unOp op _ _ => BD op avs
  | .convert s d _ => nH P s d (avs.headD .undef) get
  | .makeFunc fn first _ => pI fn first.size avs
  | .makeSlice t _ _ => ov P t avs base
  | .slice t _ lo hi mx => match mx with
    | none => jZ P t (avs.headD .undef) (n8 avs.tail lo).1 (n8 (n8 avs.tail lo).2 hi).1 get
    | some m => bif isZero m && hi.any isZero && lo.all isZero then g9 P t (avs.headD .undef) get base else kL P t lo avs get base
  | .fieldAddr s _ i => jo P s i avs
  | .field s _ i => ug P s i avs
  | .indexAddr t _ _ => match avs with
    | [x, i] => fL P t x i get
    | _ => .bad
  | .index t _ _ => match avs with
    | [x, i] => nZ P t x i
    | _ => .bad
  | .extract _ i => pn i avs
  | .call c => match c.callee with
    | .builtin .len => match c.argTypes[0]? with
      | some t => mV P t (avs.headD .undef) get
      | none => .bad
    | .builtin .cap => match c.argTypes[0]? with
      | some t => qz P t (avs.headD .undef)
      | none => .bad
    | .builtin .append => match avs, c.argTypes[0]?, c.argTypes[1]? with
      | [s, x], some t, some u => match P.underlying u with
        | some .string => fy P t s x get base
        | some (.slice _) => fy P t s x get base
        | some (.int _) => mM P t s x base
        | _ => .bad
      | _, _, _ => .bad
    | .builtin .min => lW false avs
    | .builtin .max => lW true avs
    | .value _ => sf P c avs base
    | _ => .bad
  | _ => .bad
def setAt (rs : List aU) (i : Nat) (x : aU) : List aU :=
  bif Nat.blt i rs.length then rs.set i x else rs ++ List.replicate (i - rs.length) .dead ++ [x]
def gz (rs : List aU) : List (Nat × aU) → List aU
  | [] => rs
  | (i, x) :: r => gz (setAt rs i x) r
def St.get (st : St) : Get := fun r => st.rs.getD r .dead
def St.top (st : St) : List AV := st.fr.headD []
def St.put (st : St) (dst : Option Tmp) (v : AV) : St :=
  match dst with
  | none => st
  | some d => match st.fr with
    | [] => st
    | f :: r => { st with fr := f.set d v :: r }
def oB : Value → AV
  | .int k n => .int k n
  | .bool b => .kb b
  | .string s => .str s
  | .slice none 0 0 => .nilS
  | .agg cs => bif cs.toList.all Value.oneCell' then .agg (cs.toList.map fun
    | .int k n => .int k n
    | .bool b => .kb b
    | .string s => .str s
    | .slice none 0 0 => .nilS
    | _ => .undef) else .undef
  | _ => .undef
def aS (st : St) : Operand → AV
  | .tmp i => st.top.getD i .undef
  | .const v => oB v
  | .global _ => .undef
  | .func f => .fn f [] []
mutual
def AV.ren (π : Nat → Option Nat) : AV → AV
  | .sl r p s => match π r with
    | some r => .sl r p s
    | none => .undef
  | .pv r c => match π r with
    | some r => .pv r c
    | none => .undef
  | .lit r n => match π r with
    | some r => .lit r n
    | none => .undef
  | .pe r p i f => match π r with
    | some r => .pe r p i f
    | none => .undef
  | .fn f a b => .fn f (AV.mn π a) (AV.mn π b)
  | .agg cs => .agg (AV.mn π cs)
  | .tup vs => .tup (AV.mn π vs)
  | .undef => .undef
  | .nilS => .nilS
  | .int k n => .int k n
  | .bool b => .bool b
  | .kb b => .bool b
  | .nb n => .nb n
  | .str s => .str s
def AV.mn (π : Nat → Option Nat) : List AV → List AV
  | [] => []
  | v :: vs => v.ren π :: AV.mn π vs
end
mutual
def AV.roots : AV → List Nat
  | .sl r _ _ => [r]
  | .pv r _ => [r]
  | .lit r _ => [r]
  | .pe r _ _ _ => [r]
  | .fn _ a b => AV.ah a ++ AV.ah b
  | .agg cs => AV.ah cs
  | .tup vs => AV.ah vs
  | .undef | .int _ _ | .bool _ | .kb _ | .nb _ | .str _ | .nilS => []
def AV.ah : List AV → List Nat
  | [] => []
  | v :: vs => v.roots ++ AV.ah vs
end
def qb (get : Get) : AV → List Nat
  | .lit r _ => match get r with
    | .var cs => AV.ah cs
    | _ => []
  | _ => []
def jl (get : Get) (vs : List AV) : List Nat := vs.flatMap (qb get)
mutual
def AV.cut (r n : Nat) : AV → AV
  | .sl r' p s => bif Nat.beq r' r && Nat.ble n p.length then .undef else .sl r' p s
  | .pe r' p i f => bif Nat.beq r' r && Nat.ble n p.length then .undef else .pe r' p i f
  | .fn f a b => .fn f (AV.gF r n a) (AV.gF r n b)
  | .agg cs => .agg (AV.gF r n cs)
  | .tup vs => .tup (AV.gF r n vs)
  | .pv r' c => .pv r' c
  | .lit r' n => .lit r' n
  | .undef => .undef
  | .nilS => .nilS
  | .int k n => .int k n
  | .bool b => .bool b
  | .kb b => .kb b
  | .nb n => .nb n
  | .str s => .str s
def AV.gF (r n : Nat) : List AV → List AV
  | [] => []
  | v :: vs => v.cut r n :: AV.gF r n vs
end
def aU.ren (π : Nat → Option Nat) : aU → aU
  | .var cs => .var (AV.mn π cs)
  | .pend r p t xs => match π r with
    | some r => .pend r p t xs
    | none => .dead
  | x => x
def aU.roots : aU → List Nat
  | .var cs => AV.ah cs
  | .pend r _ _ _ => [r]
  | _ => []
def aU.cut (r n : Nat) : aU → aU
  | .var cs => .var (AV.gF r n cs)
  | x => x
def kO (seen : List Nat) : List Nat → List Nat
  | [] => seen
  | x :: xs => bif seen.contains x then kO seen xs else kO (seen ++ [x]) xs
def reach (rs : List aU) : Nat → List Nat → List Nat
  | 0, seen => seen
  | n + 1, seen => reach rs n (kO seen (seen.flatMap fun r => (rs.getD r .dead).roots))
def alive (rs : List aU) (r : Nat) : Bool := match rs.getD r .dead with
  | .dead => false
  | _ => true
def far : Nat := 1000000
def idx : List Nat → Nat → Nat → Option Nat
  | [], _, _ => none
  | x :: xs, i, r => bif Nat.beq x r then some i else idx xs (i + 1) r
def jm (live : List Nat) : Nat → List AV → List AV
  | _, [] => []
  | i, v :: vs => (bif live.contains i then v else .undef) :: jm live (i + 1) vs
def St.jN (live : List Nat) (st : St) : St :=
  match st.fr with
  | [] => st
  | f :: fr => { st with fr := jm live 0 f :: fr }
def St.uw (ord : List Nat) (st : St) : St :=
  { fr := st.fr.map (AV.mn (idx ord 0)), rs := ord.map fun r => (st.rs.getD r .dead).ren (idx ord 0) }
def St.canon (live : List Nat) (st : St) : St :=
  let st' := st.jN live
  let ord := (reach st'.rs 4 (kO [] (st'.fr.flatMap AV.ah))).filter (alive st'.rs)
  bif decide ord.Nodup then st'.uw ord else st'
def St.cut (st : St) : Option (Nat × Nat) → St
  | none => st
  | some (r, n) => { fr := st.fr.map (AV.gF r n), rs := st.rs.map (aU.cut r n) }
def mR (r : Nat) (ex : Option Nat) : Nat → List aU → Bool
  | _, [] => true
  | j, x :: xs => (match x with
    | .pend r' _ _ _ => !(Nat.beq r' r) || decide (ex = some j)
    | _ => true) && mR r ex (j + 1) xs
def dj (rs : List aU) (q : List (Nat × Option Nat)) : Bool := q.all fun x => mR x.1 x.2 0 rs
def St.app (st : St) (o : Out) : St := ({ st with rs := gz st.rs o.upd } : St).cut o.cut
section force
variable {R : Type}
def qM (n : Nat) (k : Nat → Option R) : Option R := match n with
  | 0 => k 0
  | m + 1 => k (m + 1)
def ue : Path → (Path → Option R) → Option R
  | [], k => k []
  | (i, f) :: p, k => qM f fun f => ue p fun p => k ((i, f) :: p)
mutual
def AV.force : AV → (AV → Option R) → Option R
  | .undef, k => k .undef
  | .nilS, k => k .nilS
  | .int kk n, k => k (.int kk n)
  | .bool b, k => k (.bool b)
  | .kb true, k => k (.kb true)
  | .kb false, k => k (.kb false)
  | .nb n, k => k (.nb n)
  | .str s, k => k (.str s)
  | .sl r p none, k => qM r fun r => ue p fun p => k (.sl r p none)
  | .sl r p (some (o, l)), k => qM r fun r => ue p fun p => k (.sl r p (some (o, l)))
  | .pv r c, k => qM r fun r => qM c fun c => k (.pv r c)
  | .lit r n, k => qM r fun r => qM n fun n => k (.lit r n)
  | .pe r p i f, k => qM r fun r => ue p fun p => qM f fun f => k (.pe r p i f)
  | .fn f a b, k => AV.lP a fun a => AV.lP b fun b => k (.fn f a b)
  | .agg cs, k => AV.lP cs fun cs => k (.agg cs)
  | .tup vs, k => AV.lP vs fun vs => k (.tup vs)
def AV.lP : List AV → (List AV → Option R) → Option R
  | [], k => k []
  | v :: vs, k => v.force fun v => AV.lP vs fun vs => k (v :: vs)
end
def aU.force : aU → (aU → Option R) → Option R
  | .dead, k => k .dead
  | .var cs, k => AV.lP cs fun cs => k (.var cs)
  | .row rw t xs, k => k (.row rw t xs)
  | .pend r p t xs, k => qM r fun r => ue p fun p => k (.pend r p t xs)
def qN : List aU → (List aU → Option R) → Option R
  | [], k => k []
  | r :: rs, k => r.force fun r => qN rs fun rs => k (r :: rs)
def sc : List (List AV) → (List (List AV) → Option R) → Option R
  | [], k => k []
  | f :: fs, k => AV.lP f fun f => sc fs fun fs => k (f :: fs)
def St.force (st : St) (k : St → Option R) : Option R := sc st.fr fun fr => qN st.rs fun rs => k ⟨fr, rs⟩
end force
def Code.cA : Code → Code
  | .seq a _ => a
  | .rangeFunc _ _ a _ => a
  | c => c
def Code.cB : Code → Code
  | .seq _ b => b
  | .rangeFunc _ _ _ b => b
  | c => c
def Code.cC : Code → Code
  | .block _ c => c
  | .loop c => c
  | .scope c => c
  | c => c
def Code.cT : Code → Code
  | .cond _ x _ => x
  | c => c
def Code.ops : Code → Array Oper
  | .region _ ops _ => ops
  | _ => #[]
def rO (ops : Array Oper) (i : Nat) : Oper := match ops[i]? with
  | some o => o
  | none => ⟨none, .move (.tmp 0), 0, "", #[], none⟩
def frm (n : Nat) (l : List (Nat × AV)) : List AV := l.foldl (fun f x => f.set x.1 x.2) (List.replicate n .undef)
def cD (P : Program) (f : Nat) : Code := match P.funcs[f]? with
  | some fn => match fn.body with
    | some c => c
    | none => .skip
  | none => .skip
def rP (P : Program) (f : Nat) : Func := match P.funcs[f]? with
  | some fn => fn
  | none => default
end Go.Am
end
section
/- The abstract machine, third part: the executor, in continuation style, over the model's Code. -/
noncomputable section
namespace Go.Am
variable [D]
section run
def chk {R : Type} (l : List Tst) (x : Option R) : Option R :=
  match l with
  | [] => x
  | .s b :: r => bif b then chk r x else none
  | .d b :: r => D.test b (chk r x) none
inductive Ex where
  | normal | exit (id : Nat) | ret
structure Env (P : Program) where
  pc : (f : Nat) → den (ij P f) → Option (den (resTy P f))
  inl : {R : Type} → Nat → List AV → St → (List AV → St → Option R) → Option R
structure Cfg where
  mode : Nat → Nat
  loops : Nat → Nat → Option (List Nat)
  joins : Nat → Nat → Option (List Nat)
variable {R : Type} (P : Program) (cfg : Cfg) (env : Env P)
structure Touch where
  reads : List Nat
  writes : List Nat
  quiet : List Nat
  alone : Bool
def aU.waits : aU → List Nat
  | .pend r _ _ _ => [r]
  | _ => []
def jb (st : St) (upd : List (Nat × aU)) : List Nat := upd.flatMap fun x => (st.get x.1).waits ++ x.2.waits
def pP (o : Oper) (avs : List AV) : List Nat := match o.op with
  | .move _ => []
  | _ => AV.ah avs
def xk (o : Oper) (avs : List AV) (out : Out) (st : St) (K : Touch → St → Option R) : Option R :=
  match out with
  | ⟨ok, v, upd, cut, quiet⟩ => chk (.s (dj st.rs quiet) :: ok)
      (St.force ((({ st with rs := gz st.rs upd } : St).cut cut).put o.dst v) (K ⟨pP o avs, upd.map (·.1), quiet.map (·.1) ++ jb st upd, cut.isSome⟩))
def nN : List AV → AV
  | [v] => v
  | vs => .tup vs
def qs (P : Program) : List TypeId → List AV → Nat → List AV × List aU
  | t :: ts, v :: vs, base => match mL P t v base with
    | (v', rs) => match qs P ts vs (base + rs.length) with
      | (vs', rs') => (v' :: vs', rs ++ rs')
  | _, vs, _ => (vs, [])
def AK (P : Program) (t : TypeId) (v : AV) : Bool := match v with
  | .undef => false
  | .tup _ => false
  | .agg cs => oZ P t && Nat.beq cs.length (tyD P t).size
  | _ => !oZ P t && Nat.beq (tyD P t).size 1
def m8 (P : Program) : List TypeId → List AV → Bool
  | [], [] => true
  | t :: ts, v :: vs => AK P t v && m8 P ts vs
  | _, _ => false
mutual
def AV.vars : AV → List Nat
  | .pv r _ => [r]
  | .fn _ a b => AV.rN a ++ AV.rN b
  | .agg cs => AV.rN cs
  | .undef | .int _ _ | .bool _ | .kb _ | .nb _ | .str _ | .nilS | .sl _ _ _ | .pe _ _ _ _ | .lit _ _ | .tup _ => []
def AV.rN : List AV → List Nat
  | [] => []
  | v :: vs => v.vars ++ AV.rN vs
end
def zS (m3 : Bool) (get : Get) : AV → List Nat
  | .sl r [] none => bif m3 then (match get r with
    | .row true _ _ => [r]
    | _ => []) else []
  | _ => []
def bX (get : Get) (r : Nat) : List AV := match get r with
  | .var cs => cs
  | _ => []
def lH (get : Get) : Nat → List Nat → List Nat
  | 0, seen => seen
  | n + 1, seen => lH get n (kO seen (seen.flatMap fun r => AV.rN (bX get r)))
def yb (L : List Nat) (r : Nat) : Path → Option (Nat × Nat) → Option Nat
  | [], none => idx L 0 r
  | _, _ => none
mutual
def dp (get : Get) (L : List Nat) : AV → Nat → List Tst × AV × List aU
  | .int k n, _ => ([], .int k n, [])
  | .bool b, _ => ([], .bool b, [])
  | .kb b, _ => ([], .bool b, [])
  | .str s, _ => ([], .str s, [])
  | .nilS, _ => ([], .nilS, [])
  | .undef, _ => ([], .undef, [])
  | .sl r p sub, b => match yb L r p sub with
    | some i => ([], .sl i [] none, [])
    | none => match sliceAt get r p with
      | (ok, ⟨e, ys⟩) => (ok, .sl b [] none, [.row false e (gG sub ys)])
  | .pv r c, _ => match idx L 0 r with
    | some i => ([], .pv i c, [])
    | none => ([.s false], .undef, [])
  | .fn f x y, b => match fZ get L x b with
    | (ok, x', rx) => match fZ get L y (b + rx.length) with
      | (ok', y', ry) => (ok ++ ok', .fn f x' y', rx ++ ry)
  | .agg cs, b => match fZ get L cs b with
    | (ok, cs', rs) => (ok, .agg cs', rs)
  | .nb _, _ => ([.s false], .undef, [])
  | .pe _ _ _ _, _ => ([.s false], .undef, [])
  | .lit _ _, _ => ([.s false], .undef, [])
  | .tup _, _ => ([.s false], .undef, [])
def fZ (get : Get) (L : List Nat) : List AV → Nat → List Tst × List AV × List aU
  | [], _ => ([], [], [])
  | v :: vs, b => match dp get L v b with
    | (ok, v', r) => match fZ get L vs (b + r.length) with
      | (ok', vs', rs) => (ok ++ ok', v' :: vs', r ++ rs)
end
def gw (get getK : Get) (L : List Nat) : List Nat → Nat → List Tst × List aU × List aU
  | [], _ => ([], [], [])
  | r :: V, b => match fZ getK L (bX get r) b with
    | (ok, cs, rs) => match gw get getK L V (b + rs.length) with
      | (ok', vr, rs') => (.s (match get r with
        | .var _ => true
        | _ => false) :: (ok ++ ok'), .var cs :: vr, rs ++ rs')
structure cW where
  lv : List Nat
  ld : List Nat
  ln : List Nat
def cW.all (l : cW) : List Nat := l.lv ++ (l.ld ++ l.ln)
def tf (get : Get) (vs : List AV) : List Nat := lH get 4 (kO [] (AV.rN vs))
def Cw (m3 : Bool) (get : Get) (vs : List AV) : List Nat := (vs.flatMap AV.cells).flatMap (zS m3 get)
def Cv (m3 : Bool) (get : Get) (lv : List Nat) : List Nat := (lv.flatMap (bX get)).flatMap (zS m3 get)
def lB {R : Type} : List Nat → (List Nat → Option R) → Option R
  | [], k => k []
  | n :: ns, k => qM n fun n => lB ns fun ns => k (n :: ns)
def kp (nV nD n m : Nat) : List AV :=
  (List.range nV).map (fun i => .pv i 0) ++ ((List.range nD).map (fun i => .sl (nV + i) [] none) ++ (List.replicate (n - nV - nD) .undef ++ (List.range m).map (fun i => .sl (n + i) [] none)))
def eW (n : Nat) (rs : List aU) : AV → Ty
  | .int k _ => .int k
  | .bool _ => .bool
  | .str _ => .str
  | .sl i [] none => bif Nat.blt i n then (match rs.getD i .dead with
    | .row _ t _ => .sl t
    | _ => .unit) else .unit
  | _ => .unit
def eB : aU → List AV
  | .var cs => cs
  | _ => []
def dv (nV nD : Nat) (rs : List aU) : List AV :=
  (List.range nD).map (fun i => .sl (nV + i) [] none) ++ (rs.take nV).flatMap eB
def jq (nV nD n : Nat) (rs : List aU) : List Ty := (dv nV nD rs).map (eW n rs)
def s9 (nV nD n : Nat) (rs : List aU) : Ty := Ty.all (jq nV nD n rs)
def ef (n : Nat) (rs : List aU) : List AV → List Nat
  | [] => []
  | c :: cs => match c with
    | .sl i [] none => bif Nat.blt i n then i :: ef n rs cs else ef n rs cs
    | _ => ef n rs cs
mutual
def dM (get : Get) (hs : List AV) (n : Nat) : AV → AV → Bool
  | .nilS, .nilS => true
  | .sl i [] none, .sl r [] none => Nat.ble n i && (match hs.getD i .undef with
    | .sl r' [] none => Nat.beq r' r
    | _ => false) && (match get r with
    | .row _ _ _ => true
    | _ => false)
  | .pv i c, .pv r c' => Nat.beq c c' && (match hs.getD i .undef with
    | .pv r' 0 => Nat.beq r' r
    | _ => false) && (match get r with
    | .var _ => true
    | _ => false)
  | .fn f a b, .fn f' a' b' => Nat.beq f f' && (oP get hs n a a' && oP get hs n b b')
  | _, _ => false
def oP (get : Get) (hs : List AV) (n : Nat) : List AV → List AV → Bool
  | [], [] => true
  | v :: vs, u :: us => dM get hs n v u && oP get hs n vs us
  | _, _ => false
end
def rd1 (get : Get) (t : Ty) (v : AV) : List Tst × den t × List Nat :=
  match t with
  | .unit => ([], (), [])
  | t => match cF get t [v] with
    | (ok, x, _) => match gives get t [v] with
      | (ok', l, _) => (ok ++ ok', x, l)
def s0 (get : Get) : (tys : List Ty) → List AV → List Tst × den (Ty.all tys) × List Nat
  | [], _ => ([], (), [])
  | [t], fin => rd1 get t (fin.headD .undef)
  | t :: u :: r, fin => match rd1 get t (fin.headD .undef) with
    | (ok, x, l) => match s0 get (u :: r) fin.tail with
      | (ok', y, l') => (ok ++ ok', (x, y), l ++ l')
def pW (get : Get) (hs : List AV) (n : Nat) : List Ty → List AV → List AV → Bool
  | [], _, _ => true
  | t :: tys, c, fin => (match t with
    | .unit => (match c.headD .undef with
      | .undef => true
      | c => dM get hs n c (fin.headD .undef))
    | _ => true) && pW get hs n tys c.tail fin.tail
def varsOf (get : Get) : List AV → List aU → List Tst × List AV
  | [], [] => ([], [])
  | h :: hs, r :: rs => match h with
    | .pv x 0 => match get x with
      | .var cs' => match varsOf get hs rs with
        | (ok, cs) => (.s (Nat.beq cs'.length (eB r).length) :: ok, cs' ++ cs)
      | _ => ([.s false], [])
    | _ => ([.s false], [])
  | _, _ => ([.s false], [])
def rn (P : Program) (f nV nD n : Nat) (rs : List aU) (vs' : List AV) (st' : St) : Option (den (resTy P f) × den (s9 nV nD n rs)) :=
  match varsOf st'.get (st'.top.take nV) (rs.take nV) with
  | (ok0, fin) =>
    match cF st'.get (resTy P f) (vs'.flatMap AV.cells) with
    | (ok1, y, rest) => match gives st'.get (resTy P f) (vs'.flatMap AV.cells) with
      | (ok2, l, _) =>
        match s0 st'.get (jq nV nD n rs) ((st'.top.drop nV).take nD ++ fin) with
        | (ok3, x, l') =>
          chk (ok0 ++ (ok1 ++ (ok2 ++ (ok3 ++ [.s (m8 P (eM P f) vs'), .s rest.isEmpty, .s (decide (l ++ l').Nodup), .s (Nat.beq ((st'.top.drop nV).take nD).length nD),
            .s (pW st'.get st'.top n (jq nV nD n rs) (dv nV nD rs) ((st'.top.drop nV).take nD ++ fin))])))) (some (y, x))
def AV.strip : AV → AV
  | .int k _ => .int k 0
  | .bool _ => .bool false
  | .str _ => .str ByteArray.empty
  | v => v
def aU.strip : aU → aU
  | .var cs => .var (cs.map AV.strip)
  | .row rw t _ => .row rw t []
  | x => x
def nQ {P : Program} (env : Env P) (f nV nD n : Nat) (rs0 : List aU) (st : St) : Option (den (resTy P f) × den (s9 nV nD n rs0)) :=
  env.inl f st.top ⟨st.fr.tail, st.rs⟩ fun vs' st' => rn P f nV nD n rs0 vs' st'
def gO : (tys : List Ty) → den (Ty.all tys) → List Cell
  | [], _ => []
  | [t], x => [⟨t, x⟩]
  | t :: u :: r, x => ⟨t, x.1⟩ :: gO (u :: r) x.2
def AM (o : AV) : Cell → AV
  | ⟨.int k, n⟩ => .int k n
  | ⟨.bool, b⟩ => .bool b
  | ⟨.str, s⟩ => .str s
  | _ => o
def gP : List AV → List Cell → List AV
  | o :: os, c :: cs => AM o c :: gP os cs
  | os, [] => os
  | [], _ => []
def fS (n : Nat) (L : List Nat) (rs : List aU) : List AV → List Cell → List (Nat × aU)
  | c :: cs, b :: bs => (match c, b with
    | .sl i [] none, ⟨.sl t, xs⟩ => bif Nat.blt i n then [(L.getD i 0, .row true t xs)] else []
    | _, _ => []) ++ fS n L rs cs bs
  | _, _ => []
def jV (get : Get) : List Nat → List AV → List (Nat × aU)
  | [], _ => []
  | r :: V, cs => (r, .var (cs.take (bX get r).length)) :: jV get V (cs.drop (bX get r).length)
def fe (n : Nat) : List Nat → St → St
  | [], st => st
  | r :: l, st => fe n l (st.cut (some (r, n)))
def nh (ls : cW) (st : St) (vs : List AV) : List Tst × St :=
  match fZ (fun r => bif ls.all.contains r then .dead else st.get r) ls.all vs ls.all.length with
  | (okA, vsS, roA) => match gw st.get (fun r => bif ls.all.contains r then .dead else st.get r) ls.all ls.lv (ls.all.length + roA.length) with
    | (okV, vrs, roV) => (okA ++ okV, ⟨[vsS, kp ls.lv.length ls.ld.length ls.all.length (roA.length + roV.length)], vrs ++ ((ls.ld ++ ls.ln).map st.get ++ (roA ++ roV))⟩)
def tC (ls : cW) (st : St) (rsS : List aU) (cells : List Cell) : List (Nat × aU) :=
  fS ls.all.length ls.all rsS (dv ls.lv.length ls.ld.length rsS) cells ++ jV st.get ls.lv (gP (ls.lv.flatMap (bX st.get)) (cells.drop ls.ld.length))
def lQ (ls : cW) (st : St) (rsS : List aU) (x : den (s9 ls.lv.length ls.ld.length ls.all.length rsS)) : St :=
  ⟨(fe 0 ls.ln (fe 1 ls.ld st)).fr, gz (fe 0 ls.ln (fe 1 ls.ld st)).rs (tC ls st rsS (gO (jq ls.lv.length ls.ld.length ls.all.length rsS) x))⟩
def ioK {P : Program} {R : Type} (env : Env P) (m3 : Bool) (f : Nat) (vs : List AV) (st : St) (K : List AV → St → Option R) : Option R :=
  lB (tf st.get vs) fun lv => lB (Cw m3 st.get vs) fun ld => lB (Cv m3 st.get lv) fun ln =>
  match nh ⟨lv, ld, ln⟩ st vs with
  | (ok, stS) => chk (.s (decide (cW.all ⟨lv, ld, ln⟩).Nodup) :: .s (dj st.rs (im (cW.all ⟨lv, ld, ln⟩))) ::
      .s (decide (ef (cW.all ⟨lv, ld, ln⟩).length stS.rs (dv lv.length ld.length stS.rs) = List.range' lv.length (ld.length + ln.length))) :: ok) (St.force stS fun stS => qN (stS.rs.map aU.strip) fun rs0 =>
    D.bnd (nQ env f lv.length ld.length (cW.all ⟨lv, ld, ln⟩).length rs0 stS) fun yx =>
      St.force (lQ ⟨lv, ld, ln⟩ st rs0 yx.2) fun st2 =>
      match gK P true (eM P f) yx.1 st2.rs.length with
      | (vs', rs) => K vs' { st2 with rs := gz st2.rs (ay st2.rs.length rs) })
def ioD {P : Program} {R : Type} (env : Env P) (f : Nat) (vs : List AV) (st : St) (base : Nat) (K : List AV → List (Nat × aU) → List Nat → List Nat → Option R) : Option R :=
  lB (tf st.get vs) fun lv =>
  match nh ⟨lv, [], []⟩ st vs with
  | (ok, stS) => chk (.s (decide (cW.all ⟨lv, [], []⟩).Nodup) :: .s (dj st.rs (im (cW.all ⟨lv, [], []⟩))) ::
      .s (decide (ef (cW.all ⟨lv, [], []⟩).length stS.rs (dv lv.length 0 stS.rs) = List.range' lv.length 0)) :: ok) (St.force stS fun stS => qN (stS.rs.map aU.strip) fun rs0 =>
    D.bnd (nQ env f lv.length 0 (cW.all ⟨lv, [], []⟩).length rs0 stS) fun yx =>
      match gK P true (eM P f) yx.1 base with
      | (vs', rs) => K vs' (tC ⟨lv, [], []⟩ st rs0 (gO (jq lv.length 0 (cW.all ⟨lv, [], []⟩).length rs0) yx.2) ++ ay base rs)
          (AV.ah vs ++ (lv ++ AV.ah (lv.flatMap (bX st.get)))) lv)
def CO (get : Get) : AV → Bool
  | .sl r (_ :: _) _ => (match get r with
    | .row true _ _ => true
    | _ => false)
  | _ => false
def bN (get : Get) (m : Nat) (vs : List AV) : Bool := Nat.ble 3 m && !(Nat.beq m 3 && (vs.flatMap AV.cells).any (CO get))
def yz {R : Type} (f : Nat) (vs : List AV) (st : St) (K : List AV → St → Option R) : Option R :=
  bif bN st.get (cfg.mode f) vs then ioK env (Nat.beq (cfg.mode f) 3) f vs st K else env.inl f vs st K
def pT (f : Nat) (vs : List AV) (base : Nat) : List AV × List aU :=
  bif Nat.beq (cfg.mode f) 2 then (vs, []) else qs P (gY P f) vs base
def pQ (base : Nat) (dr : Bool) (o : Oper) (c : Call) (st : St) (K : Touch → St → Option R) : Option R :=
  match c.callee with
  | .builtin _ => xk o (o.op.operands.toList.map (aS st)) (bQ P o (o.op.operands.toList.map (aS st)) st.get base) st K
  | .invoke _ _ => none
  | .value x => match aS st x with
    | .fn f first cap =>
      bif Nat.beq (cfg.mode f) 0 then
        match first, cap with
        | [], [] =>
          match iB st.get (ij P f) ((c.args.toList.map (aS st)).flatMap AV.cells) with
          | (ok, x, rest) => chk (.s (m8 P (gY P f) (c.args.toList.map (aS st))) :: .s rest.isEmpty :: ok) (D.bnd (env.pc f x) fun r =>
            match gK P true (eM P f) r base with
            | (vs, rs) => St.force ({ st with rs := gz st.rs (ay base rs) }.put o.dst (nN vs))
                (K ⟨AV.ah (c.args.toList.map (aS st)) ++ jl st.get ((c.args.toList.map (aS st)).flatMap AV.cells), (ay base rs).map (·.1), jb st (ay base rs), false⟩))
        | _, _ => none
      else bif dr then (bif Nat.beq (cfg.mode f) 4 then
          ioD env f (first ++ c.args.toList.map (aS st) ++ cap) st base fun vs upd rd qu =>
            lB rd fun rd => lB (upd.map (·.1)) fun wr => lB (qu ++ jb st upd) fun qu =>
            St.force ({ st with rs := gz st.rs upd }.put o.dst (nN vs)) (K ⟨rd, wr, qu, false⟩)
        else none) else
        match pT P cfg f (first ++ c.args.toList.map (aS st) ++ cap) st.rs.length with
        | (vs, rs) => yz P cfg env f vs { st with rs := st.rs ++ rs } fun vs st' => St.force (st'.put o.dst (nN vs)) (K ⟨[], [], [], true⟩)
    | _ => none
def opK (base : Nat) (dr : Bool) (o : Oper) (st : St) (K : Touch → St → Option R) : Option R :=
  match o.op with
  | .call c => bif (gN P c).isSome then xk o (o.op.operands.toList.map (aS st)) (bQ P o (o.op.operands.toList.map (aS st)) st.get base) st K else pQ P cfg env base dr o c st K
  | _ => xk o (o.op.operands.toList.map (aS st)) (bQ P o (o.op.operands.toList.map (aS st)) st.get base) st K
def A0 (a b : List Nat) : Bool := a.all fun x => !b.contains x
def indep (a b : Touch) : Bool :=
  !a.alone && !b.alone && A0 a.writes b.reads && A0 a.writes b.writes && A0 a.reads b.writes && A0 a.quiet b.quiet
def lK (ops : Array Oper) (bf : List Nat) : List (Nat × Touch) → Bool
  | [] => true
  | (j, t) :: r => (r.all fun x => (bf.getD j 0).testBit x.1 ||
      (indep t x.2 && (match ops[x.1]?, ops[j]? with
        | some a, some b => Oper.apart ops a b
        | _, _ => false))) && lK ops bf r
def sn (b0 : Nat) (bf : List Nat) (tr : List (Nat × Touch)) : Bool :=
  tr.all fun x => x.2.writes.all fun r => Nat.blt r b0 || ((Nat.ble (b0 + 16 * x.1) r && Nat.blt r (b0 + 16 * x.1 + 16)) ||
    (Nat.blt r (b0 + 16 * x.1) && (bf.getD x.1 0).testBit ((r - b0) / 16)))
def mN (b0 : Option Nat) (i : Nat) (st : St) : Nat := match b0 with
  | none => st.rs.length
  | some b => b + 16 * i
def mP (ops : Array Oper) (i : Nat) : Bool := ops.toList.any fun o => match o.guard with
  | some (j, _) => Nat.beq j i
  | none => false
def fX (ops : Array Oper) (i : Nat) (o : Oper) (st : St) (K : St → Option R) : Option R :=
  match o.dst with
  | none => K st
  | some d => match st.top.getD d .undef with
    | .bool b => bif mP ops i then D.test b (K (st.put (some d) (.kb true))) (K (st.put (some d) (.kb false))) else K st
    | _ => K st
def gh : Touch := ⟨[], [], [], false⟩
def jt (b0 : Option Nat) (ops : Array Oper) (i : Nat) (st : St) (K : Touch → St → Option R) : Option R :=
  match ops[i]? with
  | none => none
  | some o =>
    match o.guard with
    | none => opK P cfg env (mN b0 i st) b0.isSome o st fun t st => fX ops i o st (K t)
    | some (j, want) => match (ops[j]?).bind (·.dst) with
      | none => none
      | some d => match st.top.getD d .undef with
        | .kb b => bif b == want then opK P cfg env (mN b0 i st) b0.isSome o st fun t st => fX ops i o st (K t) else St.force (st.put o.dst (.tup [])) (K gh)
        | .tup _ => St.force (st.put o.dst (.tup [])) (K gh)
        | _ => none
def eZ (b0 : Option Nat) (ops : Array Oper) : List Nat → List (Nat × Touch) → St → (List (Nat × Touch) → St → Option R) → Option R
  | [], tr, st, K => K tr st
  | i :: rest, tr, st, K => jt P cfg env b0 ops i st fun t st => eZ b0 ops rest ((i, bif b0.isSome then t else gh) :: tr) st K
def ot (ops : Array Oper) : Bool := (List.range ops.size).all fun i => match ops[i]? with
  | some o => o.after.toList.all fun e => !Region.binds .any e || Nat.blt e.on i
  | none => true
def key : Code → Nat
  | .region id _ _ => 2 * id
  | .cond (.tmp t) _ _ => 2 * t + 1
  | .seq a _ => key a
  | .block _ c => key c
  | .loop c => key c
  | .scope c => key c
  | _ => far
abbrev cZ (R : Type) := Ex → St → Option R
def o5 (next : St → cZ R → Option R) (K : cZ R) : cZ R := fun e st => match e with
  | .normal => next st K
  | .exit i => K (.exit i) st
  | .ret => K .ret st
def bY (id : Nat) (K : cZ R) : cZ R := fun e st => match e with
  | .normal => K .normal st
  | .exit i => bif Nat.beq i id then K .normal st else K (.exit i) st
  | .ret => K .ret st
def gM (h : Option (List Nat)) (F : St → Option R) (st : St) : Option R := match h with
  | some live => St.force (st.canon live) (D.jn F)
  | none => F st
def jr (F : St → cZ R → Option R) (h : Option (List Nat)) : Nat → St → cZ R → Option R
  | 0, _, _ => none
  | n + 1, st, K => F st (o5 (fun st' K => gM h (fun st'' => jr F h n st'' K) st') K)
def nk (F : St → Option R) : cZ R := fun e st => match e with
  | .normal => F st
  | .exit _ => none
  | .ret => F st
def dS : Code → Bool
  | .seq a b => dS a && dS b
  | .cond _ a b => dS a && dS b
  | .block _ c => dS c
  | .loop c => dS c
  | .rangeFunc _ _ _ _ => false
  | _ => true
def tJ (o : Oper) (t : Nat) : Bool := match o.dst with
  | some d => Nat.beq d t
  | none => false
def Bc (o : Oper) : Option Nat := match o.op, o.dst, o.guard with
  | .move (.tmp 0), some t, none => some t
  | _, _, _ => none
def BP (o : Oper) : Option (Nat × Nat × Array Operand) := match o.op, o.dst, o.guard with
  | .call c, some v, none => match c.callee with
    | .value (.tmp t) => some (v, t, c.args)
    | _ => none
  | _, _, _ => none
def Cz (o : Oper) : Option (Nat × Nat) := match o.op, o.dst, o.guard with
  | .unOp .not _ (.tmp v), some d, none => some (d, v)
  | _, _, _ => none
def yo (ops : Array Oper) (t i : Nat) : Bool := match ops[i]? with
  | some o => !(tJ o 0) && !(tJ o t)
  | none => false
def qG : Code → Code → Option (Array Oper × Nat × Array Operand × Nat × Nat)
  | .region _ ops false, .cond (.tmp d) .ret .skip =>
    match (ops[0]?).bind Bc, (ops[ops.size - 2]?).bind BP, (ops[ops.size - 1]?).bind Cz with
    | some t, some (v, t', args), some (d', v') =>
      bif Nat.ble 3 ops.size && (Nat.beq t t' && (Nat.beq v v' && (Nat.beq d d' && (!(Nat.beq t 0) && (!(Nat.beq v 0) && (!(Nat.beq d 0) &&
        (List.range' 1 (ops.size - 3)).all (yo ops t))))))) then some (ops, t, args, v, d) else none
    | _, _, _ => none
  | _, _ => none
def zn (hand : List AV → St → (St → Option R) → Option R) (N : Nat) (u : Array Oper × Nat × Array Operand × Nat × Nat) (st : St) (K : cZ R) : Option R :=
  match u with
  | (ops, t, args, v, d) => bif Nat.blt t N && (Nat.blt v N && Nat.blt d N) then St.force (st.put (some t) .undef) fun st =>
    eZ P cfg env none ops (List.range' 1 (ops.size - 3)) [] st fun _ st =>
      hand (args.toList.map (aS st)) st fun st => St.force ((st.put (some v) (.kb true)).put (some d) (.kb false)) fun st => K .normal st
    else none
def fY (hand : List AV → St → (St → Option R) → Option R) (N kl fid : Nat) : Code → St → cZ R → Option R
  | .skip, st, K => K .normal st
  | .region _ ops draw, st, K => bif !draw && ops.toList.all (fun o => !(tJ o 0)) then eZ P cfg env none ops (List.range ops.size) [] st fun _ st => K .normal st else none
  | .seq a b, st, K => match qG a b with
    | some u => zn P cfg env hand N u st K
    | none => fY hand N kl fid a st (o5 (fun st K => gM (cfg.joins fid (key b)) (fun st => fY hand N kl fid b st K) st) K)
  | .cond c x y, st, K => match aS st c with
    | .bool b => D.test b (fY hand N kl fid x st K) (fY hand N kl fid y st K)
    | .kb b => bif b then fY hand N kl fid x st K else fY hand N kl fid y st K
    | _ => none
  | .block id c, st, K => fY hand N kl fid c st (bY id K)
  | .loop c, st, K => gM (cfg.loops fid (key c)) (fun st => jr (fun st K => fY hand N kl fid c st K) (cfg.loops fid (key c)) kl st K) st
  | .exit id, st, K => K (.exit id) st
  | .ret, st, K => K .ret st
  | _, _, _ => none
def je (fn : Func) (args : List AV) : List AV := args ++ List.replicate (fn.ntmps - args.length) (.tup [])
def tD (ps : Array Tmp) (vs : List AV) (f : List AV) : List AV := (ps.toList.zip vs).foldl (fun f x => f.set x.1 x.2) f
def Bi (Kgo : St → Option R) (KX : cZ R) : cZ R := fun e st => match e with
  | .normal => Kgo ⟨st.fr.tail, st.rs⟩
  | .exit i => KX (.exit i) ⟨st.fr.tail.tail, st.rs⟩
  | .ret => KX .ret ⟨st.fr.tail.tail, st.rs⟩
def DH (F : St → Option R) : cZ R := fun e st => match e with
  | .normal => F st
  | .exit _ => none
  | .ret => none
def pV (FA FB : St → cZ R → Option R) (ps : Array Tmp) (KX : cZ R) (vs : List AV) (st : St) (Kgo : St → Option R) : Option R :=
  match st.fr with
  | it :: top :: rest => bif Nat.beq vs.length ps.size then
      St.force ⟨tD ps vs top :: it :: top :: rest, st.rs⟩ fun st => FA st (DH fun st => FB st (Bi Kgo KX))
    else none
  | _ => none
def St.oK (st : St) : Option (List Nat) → St
  | some live => st.jN live
  | none => st
def exec (kl fid : Nat) : Code → St → cZ R → Option R
  | .skip, st, K => K .normal st
  | .region _ ops draw, st, K =>
    bif draw then qM st.rs.length fun b0 => lB (Region.before ops).toList fun bf =>
      eZ P cfg env (some b0) ops (List.range ops.size) [] st fun tr st => bif lK ops bf tr && (sn b0 bf tr && ot ops) then K .normal st else none
    else eZ P cfg env none ops (List.range ops.size) [] st fun _ st => K .normal st
  | .seq a b, st, K => exec kl fid a st (o5 (fun st K => gM (cfg.joins fid (key b)) (fun st => exec kl fid b st K) st) K)
  | .cond c x y, st, K => match aS st c with
    | .bool b => D.test b (exec kl fid x st K) (exec kl fid y st K)
    | .kb b => bif b then exec kl fid x st K else exec kl fid y st K
    | .nb n => bif Nat.beq (cfg.mode fid) 0 then D.test (D.eqN n 0) (D.both (exec kl fid x st K) (exec kl fid y st K)) (exec kl fid y st K) else none
    | _ => none
  | .block id c, st, K => exec kl fid c st (bY id K)
  | .loop c, st, K => gM (cfg.loops fid (key c)) (fun st => jr (fun st K => exec kl fid c st K) (cfg.loops fid (key c)) kl st K) st
  | .exit id, st, K => K (.exit id) st
  | .ret, st, K => K .ret st
  | .rangeFunc h ps x y, st, K => bif dS x && dS y then match aS st h with
      | .fn f [] cap => match P.funcs[f]? with
        | none => none
        | some fn => match fn.body with
          | none => none
          | some c => bif fn.results.isEmpty then St.force ⟨je fn (.undef :: cap) :: (st.oK (cfg.loops fid (far + key y))).fr, st.rs⟩ fun st =>
            fY P cfg env (pV (fun st K => exec kl fid x st K) (fun st K => exec kl fid y st K) ps K) fn.ntmps kl f c st (nk fun st => K .normal ⟨st.fr.tail, st.rs⟩)
            else none
      | _ => none
    else none
  | _, _, _ => none
end run
def nI (P : Program) (st : St) : ResultVar → List Tst × AV
  | .tmp t => ([], st.top.getD t .undef)
  | .cell a t => ((fF P t (st.top.getD a .undef) st.get).ok, (fF P t (st.top.getD a .undef) st.get).v)
def xa (P : Program) (fn : Func) (st : St) : List Tst × List AV :=
  ((fn.results.toList.map (nI P st)).flatMap (·.1), (fn.results.toList.map (nI P st)).map (·.2))
def finish (P : Program) (f : Nat) (fn : Func) (st : St) : Option (den (resTy P f)) :=
  match xa P fn st with
  | (ok, vs) => match cF st.get (resTy P f) (vs.flatMap AV.cells) with
    | (ok1, x, rest) => match gives st.get (resTy P f) (vs.flatMap AV.cells) with
      | (ok2, l, _) => chk (ok ++ ok1 ++ ok2 ++ [.s (m8 P (eM P f) vs), .s rest.isEmpty, .s (decide l.Nodup)]) (some x)
abbrev Ext (P : Program) := (f : Nat) → Option (den (ij P f) → Option (den (resTy P f)))
def vK (P : Program) (cfg : Cfg) (E : Ext P) (env : Env P) (k f : Nat) (x : den (ij P f)) : Option (den (resTy P f)) :=
  match E f with
  | some g => g x
  | none => match P.funcs[f]? with
    | none => none
    | some fn => match fn.body with
      | none => none
      | some c =>
        match gK P false (gY P f) x 0 with
        | (vs, rs) => St.force { fr := [je fn vs], rs := rs } fun st => exec P cfg env k f c st (nk (finish P f fn))
def fE {R : Type} (P : Program) (fn : Func) (K : List AV → St → Option R) (st : St) : Option R :=
  match xa P fn st with
  | (ok, vs) => chk ok (K vs { st with fr := st.fr.tail })
def qC (P : Program) (cfg : Cfg) (env : Env P) (k : Nat) {R : Type} (f : Nat) (args : List AV) (st : St) (K : List AV → St → Option R) : Option R :=
  bif Nat.beq (cfg.mode f) 0 then none else
  match P.funcs[f]? with
  | none => none
  | some fn => match fn.body with
    | none => none
    | some c => St.force { st with fr := je fn args :: st.fr } fun st => exec P cfg env k f c st (nk (fE P fn K))
def mq (P : Program) (cfg : Cfg) (E : Ext P) : Nat → Env P
  | 0 => ⟨fun _ _ => none, fun _ _ _ _ => none⟩
  | k + 1 => ⟨fun f x => vK P cfg E (mq P cfg E k) k f x, fun f args st K => qC P cfg (mq P cfg E k) k f args st K⟩
def we (P : Program) (cfg : Cfg) (E : Ext P) (k f : Nat) (x : den (ij P f)) : Option (den (resTy P f)) := (mq P cfg E k).pc f x
end Go.Am
end
