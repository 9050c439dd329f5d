/- The machine: an executor of code over data, by symbols; nothing is proved here but small facts of its parts. -/
import Derived.Calls
import Derived.KernelRfl
import Derived.Laws.Sem
import Derived.Orders
import Derived.Lib.Join
import Derived.Lib.Repeat
import Derived.Lib.ItoaNum
import Derived.Lib.Bytealg
set_option linter.unusedSimpArgs false
set_option linter.unusedVariables false
set_option linter.unnecessarySimpa false
set_option linter.unusedSectionVars false
section
/- The abstract machine, first part: typed trees, abstract values, states. -/
noncomputable section
namespace Go.Am
class D where
  rd : {α : Type} → (xs : List α) → (i : Nat) → (d : α) → α
  len : {α : Type} → (xs : List α) → Nat
  lenI : {α : Type} → (xs : List α) → Int
  app : {α : Type} → (xs : List α) → (ys : List α) → List α
  set : {α : Type} → (xs : List α) → (i : Nat) → (x : α) → List α
  take : {α : Type} → (n : Nat) → (xs : List α) → List α
  drop : {α : Type} → (n : Nat) → (xs : List α) → List α
  rep : {α : Type} → (n : Nat) → (x : α) → List α
  test : {α : Type} → (b : Bool) → (x : Option α) → (y : Option α) → Option α
  bnd : {α : Type} → {β : Type} → (x : Option α) → (f : α → Option β) → Option β
  both : {α : Type} → (x : Option α) → (y : Option α) → Option α
  jn : {α : Type} → {β : Type} → (F : α → Option β) → (x : α) → Option β
  sel : {α : Type} → (b : Bool) → (x : α) → (y : α) → α
  no : (b : Bool) → Bool
  wrap : (k : IntKind) → (n : Int) → Int
  add : (a : Int) → (b : Int) → Int
  sub : (a : Int) → (b : Int) → Int
  mul : (a : Int) → (b : Int) → Int
  quo : (a : Int) → (b : Int) → Int
  rem : (a : Int) → (b : Int) → Int
  ofN : (n : Nat) → Int
  nat : (n : Int) → Nat
  addN : (a : Nat) → (b : Nat) → Nat
  subN : (a : Nat) → (b : Nat) → Nat
  eq : (a : Int) → (b : Int) → Bool
  lt : (a : Int) → (b : Int) → Bool
  le : (a : Int) → (b : Int) → Bool
  eqB : (a : Bool) → (b : Bool) → Bool
  ltN : (a : Nat) → (b : Nat) → Bool
  leN : (a : Nat) → (b : Nat) → Bool
  eqN : (a : Nat) → (b : Nat) → Bool
  eqP : (p : List (Nat × Nat)) → (q : List (Nat × Nat)) → Bool
  or2 : (a : Bool) → (b : Bool) → Bool
  eqS : (a : ByteArray) → (b : ByteArray) → Bool
  ltS : (a : ByteArray) → (b : ByteArray) → Bool
  catS : (a : ByteArray) → (b : ByteArray) → ByteArray
  lenS : (s : ByteArray) → Nat
  cutS : (s : ByteArray) → (l : Nat) → (h : Nat) → ByteArray
  byte : (s : ByteArray) → (i : Nat) → Int
  ofInts : (xs : List Int) → ByteArray
  ints : (s : ByteArray) → List Int
  andI : (k : IntKind) → (a : Int) → (b : Int) → Int
  orI : (k : IntKind) → (a : Int) → (b : Int) → Int
  xorI : (k : IntKind) → (a : Int) → (b : Int) → Int
  andNI : (k : IntKind) → (a : Int) → (b : Int) → Int
  shlI : (k : IntKind) → (a : Int) → (b : Int) → Int
  shrI : (k : IntKind) → (a : Int) → (b : Int) → Int
  srt : {α : Type} → (f : α → α → Option Int) → (xs : List α) → Option (List α)
def lQ{α:Type}(f:α→α→Option Int)(a b:α):Prop:=(f a b).getD 0<0
def nz{α:Type}(f:α→α→Option Int)(xs ys:List α):Prop:=
 ys.Perm xs∧ ∀(i j:Nat) (a b:α),i<j→ys[i]?=some a→ys[j]?=some b→ ¬lQ f b a
def B6{α:Type}(f:α→α→Option Int)(xs:List α):Prop:=
 xs.length<4611686018427387904∧(∀a∈xs,∀b∈xs,(f a b).isSome=true)∧(∀a∈xs,¬lQ f a a)∧(∀a∈xs,∀b∈xs,∀c∈xs,lQ f a b→lQ f b c→lQ f a c)∧
 (∀a∈xs,∀b∈xs,∀c∈xs,¬lQ f a b→ ¬lQ f b c→ ¬lQ f a c)∧ ∃ys,nz f xs ys∧ ∀zs,nz f xs zs→zs=ys
open Classical in
noncomputable def Ea{α:Type}(f:α→α→Option Int)(xs:List α):Option (List α):=
 if h:B6 f xs then some (Classical.choose h.2.2.2.2.2)else none
theorem sj{α:Type}{f:α→α→Option Int}{xs ys:List α}(h:Ea f xs=some ys):B6 f xs∧nz f xs ys∧ ∀zs,nz f xs zs→zs=ys:=by
 unfold Ea at h
 split at h
 ·next h'=>
  cases h
  exact⟨h',Classical.choose_spec h'.2.2.2.2.2⟩
 ·cases h
open Classical in
noncomputable def ways{α:Type}(x y:Option α):Option α:=if x=y then x else none
theorem Dz{α:Type}{x y:Option α}{r:α}(h:ways x y=some r):x=some r∧y=some r:=by
 unfold ways at h
 split at h
 ·next e=>exact⟨h,e▸h⟩
 ·cases h
theorem DF{α:Type}(x:Option α):ways x x=x:=by simp[ways]
@[reducible] noncomputable def D.real : D where
  rd := fun {_} xs i d => xs.getD i d
  len := fun {_} xs => xs.length
  lenI := fun {_} xs => (xs.length : Int)
  app := fun {_} xs ys => xs ++ ys
  set := fun {_} xs i x => xs.set i x
  take := fun {_} n xs => xs.take n
  drop := fun {_} n xs => xs.drop n
  rep := fun {_} n x => List.replicate n x
  test := fun {_} b x y => if b = true then x else y
  bnd := fun {_} {_} x f => x.bind f
  both := fun {_} x y => ways x y
  jn := fun {_} {_} F x => F x
  sel := fun {_} b x y => if b = true then x else y
  no := fun b => !b
  wrap := fun k n => k.wrap n
  add := fun a b => a + b
  sub := fun a b => a - b
  mul := fun a b => a * b
  quo := fun a b => a.tdiv b
  rem := fun a b => a.tmod b
  ofN := fun n => (n : Int)
  nat := fun n => n.toNat
  addN := fun a b => a + b
  subN := fun a b => a - b
  eq := fun a b => decide (a = b)
  lt := fun a b => decide (a < b)
  le := fun a b => decide (a ≤ b)
  eqB := fun a b => a == b
  ltN := fun a b => decide (a < b)
  leN := fun a b => decide (a ≤ b)
  eqN := fun a b => decide (a = b)
  eqP := fun p q => decide (p = q)
  or2 := fun a b => a || b
  eqS := fun a b => a.toList == b.toList
  ltS := fun a b => Op.bytesLess a.toList b.toList
  catS := fun a b => a ++ b
  lenS := fun s => s.size
  cutS := fun s l h => s.extract l h
  byte := fun s i => ((s.data.getD i 0).toNat : Int)
  ofInts := fun xs => ⟨(xs.map fun n => UInt8.ofNat n.toNat).toArray⟩
  ints := fun s => s.data.toList.map fun b => (b.toNat : Int)
  andI := fun k a b => k.wrap (BitVec.ofInt k.bits a &&& BitVec.ofInt k.bits b).toNat
  orI := fun k a b => k.wrap (BitVec.ofInt k.bits a ||| BitVec.ofInt k.bits b).toNat
  xorI := fun k a b => k.wrap (BitVec.ofInt k.bits a ^^^ BitVec.ofInt k.bits b).toNat
  andNI := fun k a b => k.wrap (BitVec.ofInt k.bits a &&& ~~~(BitVec.ofInt k.bits b)).toNat
  shlI := fun k a b => k.wrap (a * 2 ^ min b.toNat k.bits)
  shrI := fun k a b => a.fdiv (2 ^ min b.toNat k.bits)
  srt := fun {_} f xs => Ea f xs
class DJ [D] : Prop where
  jn_eq : ∀ {α β : Type} (F : α → Option β) (x : α), D.jn F x = F x
variable [D]
inductive Tst where
  | s (b : Bool) | d (b : Bool)
inductive Ty where
  | int (k : IntKind) | bool | str | sl (e : Ty) | pair (a b : Ty) | unit
  deriving DecidableEq
@[reducible] def den : Ty → Type
  | .int _ => Int
  | .bool => Bool
  | .str => ByteArray
  | .sl e => List (den e)
  | .pair a b => den a × den b
  | .unit => Unit
def Ty.size:Ty→Nat
 | .pair a b=>a.size+b.size
 | .unit=>0
 |_=>1
def bm:(t:Ty)→den t
 | .int _=>(0:Int)
 | .bool=>false
 | .str=>ByteArray.empty
 | .sl _=> []
 | .pair a b=>(bm a,bm b)
 | .unit=>()
def Ty.flat:Ty→Bool
 | .sl _=>false
 | .pair a b=>a.flat&&b.flat
 |_=>true
def Ty.all:List Ty→Ty
 | []=> .unit
 | [t]=>t
 |t::u::r=> .pair t (Ty.all (u::r))
abbrev Path:=List (Nat×Nat)
inductive AV where
  | undef
  | int (k : IntKind) (n : Int)
  | bool (b : Bool)
  | kb (b : Bool)
  | ki (k : IntKind) (n : Int)
  | nb (n : Nat)
  | str (s : ByteArray)
  | nilS
  | sl (r : Nat) (p : Path) (sub : Option (Nat × Nat))
  | pv (r c : Nat)
  | pe (r : Nat) (p : Path) (i f : Nat)
  | lit (r n : Nat)
  | fn (f : Nat) (first cap : List AV)
  | agg (cs : List AV)
  | tup (vs : List AV)
inductive ak where
  | dead
  | var (cs : List AV)
  | row (rw : Bool) (t : Ty) (xs : List (den t))
  | pend (r : Nat) (p : Path) (t : Ty) (xs : List (den t))
  | half (t : Ty) (xs : List (den t))
  | sh (t : Ty) (xs : List (den t))
structure St where
  fr : List (List AV)
  rs : List ak
def AV.cells:AV→List AV
 | .agg cs=>cs
 |v=> [v]
def Fc:List (Option (Bool×Ty))→Option (List Ty)
 | []=>some []
 |none::_=>none
 |some x::r=>match Fc r with
  |some l=>some (x.2::l)
  |none=>none
def ET(P:Program):Nat→TypeId→Option (Bool×Ty)
 |0,_=>none
 |n+1,t=>
  match P.underlying t with
  |some .bool=>some (false,.bool)
  |some (.int k)=>some (false,.int k)
  |some .string=>some (false,.str)
  |some (.slice e)=>match ET P n e with
   |some x=>some (false,.sl x.2)
   |none=>none
  |some (.struct fs)=>match Fc (fs.toList.map fun f=>ET P n f.type)with
   |some l=>some (true,Ty.all l)
   |none=>none
  |some (.array m e)=>match ET P n e with
   |some x=>some (true,Ty.all (List.replicate m x.2))
   |none=>none
  |_=>none
def qL(P:Program)(t:TypeId):Option (Bool×Ty):=ET P 6 t
def tyD(P:Program)(t:TypeId):Ty:=match qL P t with
 |some x=>x.2
 |none=> .unit
def kj(P:Program)(t:TypeId):Bool:=match qL P t with
 |some x=>x.1
 |none=>true
def dV(P:Program)(f:Nat):List TypeId:=match P.funcs[f]? with
 |some fn=>fn.params.toList
 |none=> []
def bE(P:Program)(f:Nat):List TypeId:=match P.funcs[f]? with
 |some fn=>fn.resultTypes.toList
 |none=> []
def eH(P:Program)(f:Nat):Ty:=Ty.all ((dV P f).map (tyD P))
def resTy(P:Program)(f:Nat):Ty:=Ty.all ((bE P f).map (tyD P))
abbrev Cell:=(t:Ty)×den t
abbrev Row:=(t:Ty)×List (den t)
def cellAt:(t:Ty)→den t→Nat→Cell
 | .pair a b,d,f=>bif Nat.blt f a.size then cellAt a d.1 f else cellAt b d.2 (f-a.size)
 | .unit,d,_=>⟨.unit,d⟩
 | .int k,d,f=>bif Nat.beq f 0 then⟨.int k,d⟩else⟨.unit,()⟩
 | .bool,d,f=>bif Nat.beq f 0 then⟨.bool,d⟩else⟨.unit,()⟩
 | .str,d,f=>bif Nat.beq f 0 then⟨.str,d⟩else⟨.unit,()⟩
 | .sl e,d,f=>bif Nat.beq f 0 then⟨.sl e,d⟩else⟨.unit,()⟩
def bz:(t:Ty)→den t→Nat→((c:Ty)→den c→den c)→den t
 | .pair a b,d,f,g=>bif Nat.blt f a.size then(bz a d.1 f g,d.2)else(d.1,bz b d.2 (f-a.size) g)
 | .unit,d,_,_=>d
 | .int k,d,f,g=>bif Nat.beq f 0 then g (.int k) d else d
 | .bool,d,f,g=>bif Nat.beq f 0 then g .bool d else d
 | .str,d,f,g=>bif Nat.beq f 0 then g .str d else d
 | .sl e,d,f,g=>bif Nat.beq f 0 then g (.sl e) d else d
def rowAt:(t:Ty)→List (den t)→Path→List Tst×Row
 |t,xs,[]=>([],⟨t,xs⟩)
 |t,xs,(i,f)::p=>
  match cellAt t (D.rd xs i (bm t)) f with
  |⟨.sl e,ys⟩=>match rowAt e ys p with
   |(ok,r)=>(.d (D.ltN i (D.len xs))::ok,r)
  |_=>([.s false],⟨.unit,[]⟩)
def ir:(t:Ty)→List (den t)→Path→((e:Ty)→List (den e)→List (den e))→List (den t)
 |t,xs,[],g=>g t xs
 |t,xs,(i,f)::p,g=>
  D.set xs i (bz t (D.rd xs i (bm t)) f fun c=>match c with
   | .sl e=>fun ys=>ir e ys p g
   |_=>fun d=>d)
def jV(r:Nat)(p:Path)(i:Nat):(t:Ty)→den t→Nat→List AV
 | .int k,n,_=> [.int k n]
 | .bool,b,_=> [.bool b]
 | .str,s,_=> [.str s]
 | .sl _,_,f=> [.sl r (p++ [(i,f)]) none]
 | .pair a b,d,f=>jV r p i a d.1 f++jV r p i b d.2 (f+a.size)
 | .unit,_,_=> []
def dJ{α:Type}:Option (Nat×Nat)→List α→List α
 |none,xs=>xs
 |some (o,l),xs=>D.take l (D.drop o xs)
def bR{α:Type}:Option (Nat×Nat)→List α→Nat
 |none,xs=>D.len xs
 |some (_,l),_=>l
def cF:Option (Nat×Nat)→Nat→Nat
 |none,n=>n
 |some (o,_),n=>D.addN o n
def nE{a b:Ty}(h:a=b)(x:den a):den b:=h▸x
def ly{a b:Ty}(h:a=b)(x:List (den a)):List (den b):=h▸x
abbrev Get:=Nat→ak
def sliceAt(get:Get)(r:Nat)(p:Path):List Tst×Row:=
 match get r with
 | .row _ t xs=>rowAt t xs p
 | .sh t xs=>rowAt t xs p
 | .pend _ _ t xs=>match p with
  | []=>([],⟨t,xs⟩)
  |_=>([.s false],⟨.unit,[]⟩)
 |_=>([.s false],⟨.unit,[]⟩)
def bp(get:Get):(t:Ty)→List AV→List Tst×den t×List AV
 | .int k,vs=>match vs with
  | .int k' n::vs=>([.s (decide (k'=k))],n,vs)
  |_=>([.s false],(0:Int),[])
 | .bool,vs=>match vs with
  | .bool b::vs=>([],b,vs)
  | .kb b::vs=>([],b,vs)
  |_=>([.s false],false,[])
 | .str,vs=>match vs with
  | .str s::vs=>([],s,vs)
  |_=>([.s false],ByteArray.empty,[])
 | .sl e,vs=>match vs with
  | .nilS::vs=>([],([]:List (den e)),vs)
  | .sl r p sub::vs=>match sliceAt get r p with
   |(ok,⟨e',ys⟩)=>match decEq e' e with
    | .isTrue h=>(ok,dJ sub (ly h ys),vs)
    | .isFalse _=>([.s false],([]:List (den e)),[])
  |_=>([.s false],([]:List (den e)),[])
 | .pair a b,vs=>match bp get a vs with
  |(ok,x,vs)=>match bp get b vs with
   |(ok',y,vs)=>(ok++ok',(x,y),vs)
 | .unit,vs=>([],(),vs)
def iy{α:Type}(rd:List AV→List Tst×α×List AV):Nat→List AV→List Tst×List α×List AV
 |0,vs=>([],[],vs)
 |n+1,vs=>match rd vs with
  |(ok,x,vs)=>match iy rd n vs with
   |(ok',xs,vs)=>(ok++ok',x::xs,vs)
def fT(get:Get):(t:Ty)→List AV→List Tst×den t×List AV
 | .int k,vs=>bp get (.int k) vs
 | .bool,vs=>bp get .bool vs
 | .str,vs=>bp get .str vs
 | .unit,vs=>bp get .unit vs
 | .sl e,vs=>match vs with
  | .lit r n::vs'=>match get r with
   | .var cs=>match iy (bp get e) n cs with
    |(ok,xs,rest)=>(.s rest.isEmpty:: .s (Nat.blt 0 e.size)::ok,xs,vs')
   |_=>([.s false],([]:List (den e)),[])
  |vs=>bp get (.sl e) vs
 | .pair a b,vs=>match fT get a vs with
  |(ok,x,vs)=>match fT get b vs with
   |(ok',y,vs)=>(ok++ok',(x,y),vs)
def Hn(a b:Ty)(vs:List AV):Option (Nat×List AV):=match a with
 | .sl _=>match b with
  | .sl _=>match vs with
   | .sl r [(_,f)] _:: .sl r' [(_,f')] _::rest=>bif Nat.beq r' r&& !(Nat.beq f' f)then some (r,rest)else none
   |_=>none
  |_=>none
 |_=>none
def qQ(get:Get)(r:Nat)(rest:List AV):List Tst×List Nat×List AV:=match get r with
 | .row true _ _=>([],[r],rest)
 |_=>([.s false],[],[])
def gives(get:Get):(t:Ty)→List AV→List Tst×List Nat×List AV
 | .sl e,vs=>match vs with
  | .nilS::vs=>([],[],vs)
  | .sl r _ _::vs=>match get r with
   | .row true _ _=>([],[r],vs)
   |_=>([.s false],[],[])
  |_=>([.s false],[],[])
 | .pair a b,vs=>match Hn a b vs with
  |some (r,rest)=>qQ get r rest
  |none=>match gives get a vs with
   |(ok,l,vs)=>match gives get b vs with
    |(ok',l',vs)=>(ok++ok',l++l',vs)
 | .unit,vs=>([],[],vs)
 |_,vs=>([],[],vs.tail)
def nh(rw:Bool):(t:Ty)→den t→(base:Nat)→List AV×List ak
 | .int k,n,_=>([.int k n],[])
 | .bool,b,_=>([.bool b],[])
 | .str,s,_=>([.str s],[])
 | .sl e,xs,base=>([.sl base [] none],[.row rw e xs])
 | .pair a b,d,base=>match nh rw a d.1 base with
  |(vs,rs)=>match nh rw b d.2 (base+rs.length)with
   |(vs',rs')=>(vs++vs',rs++rs')
 | .unit,_,_=>([],[])
def mkV(agg:Bool)(cs:List AV):AV:=bif agg then .agg cs else cs.headD .undef
def eN(P:Program)(rw:Bool):(ts:List TypeId)→den (Ty.all (ts.map (tyD P)))→(base:Nat)→List AV×List ak
 | [],_,_=>([],[])
 | [t],d,base=>match nh rw (tyD P t) d base with
  |(vs,rs)=>([mkV (kj P t) vs],rs)
 |t::u::r,d,base=>match nh rw (tyD P t) d.1 base with
  |(vs,rs)=>match eN P rw (u::r) d.2 (base+rs.length)with
   |(ws,rs')=>(mkV (kj P t) vs::ws,rs++rs')
def lk:(t:Ty)→List AV→(base:Nat)→List AV×List ak
 | .sl e,vs,base=>match vs with
  | .nilS::r=>(.sl base [] none::r,[.row true e []])
  |vs=>(vs,[])
 | .pair a b,vs,base=>match lk a (vs.take a.size) base with
  |(ws,rs)=>match lk b (vs.drop a.size) (base+rs.length)with
   |(ws',rs')=>(ws++ws',rs++rs')
 | .unit,vs,_=>(vs,[])
 |_,vs,_=>(vs,[])
end Go.Am
end
section
/- The abstract machine, second part: the operations as total functions with the tests that they ask; the executor. -/
noncomputable section
namespace Go.Am
variable [D]
structure Out where
  ok : List Tst
  v : AV
  upd : List (Nat × ak) := []
  cut : Option (Nat × Nat) := none
  quiet : List (Nat × Option Nat) := []
def Out.bad:Out:={ok:= [.s false],v:= .undef}
def lim:Nat:=1099511627776
def aj(base:Nat):List ak→List (Nat×ak)
 | []=> []
 |r::rs=>(base,r)::aj (base+1) rs
def setCells(cs:List AV)(c:Nat)(vs:List AV):List AV:=cs.take c++vs++cs.drop (c+vs.length)
def qK(P:Program)(s:TypeId)(i:Nat):Option (Nat×TypeId):=
 match P.underlying s with
 |some (.struct fs)=>match fs[i]? with
  |some f=>some (f.offset,f.type)
  |none=>none
 |_=>none
def kB(P:Program)(t:TypeId):Bool:=match P.underlying t with
 |some (.struct _)=>true
 |some (.array _ _)=>true
 |_=>false
def fL(P:Program)(t:TypeId):Bool:=(P.underlying t).isSome&&(P.info? t).isSome
def eY:Ty→Value→Bool
 | .int k,.int k' n=>decide (k=k')&&decide (n=0)
 | .bool,.bool b=> !b
 | .str,.string s=>Nat.beq s.size 0
 | .sl _,.slice none 0 0=>true
 |_,_=>false
def nm:Ty→List Value→Option (List Value)
 | .pair a b,l=>match nm a l with
  |some l=>nm b l
  |none=>none
 | .unit,l=>some l
 | .int k,l=>match l with
  |v::l=>bif eY (.int k) v then some l else none
  | []=>none
 | .bool,l=>match l with
  |v::l=>bif eY .bool v then some l else none
  | []=>none
 | .str,l=>match l with
  |v::l=>bif eY .str v then some l else none
  | []=>none
 | .sl e,l=>match l with
  |v::l=>bif eY (.sl e) v then some l else none
  | []=>none
def mg(P:Program)(t:TypeId):Bool:=match P.info? t,qL P t,P.underlying t with
 |some i,some (agg,ty),some _=>Nat.beq i.size ty.size&&Nat.ble i.bytes 128&&(agg==kB P t)&&(match i.zero with
  |some z=>(match nm ty z.cells.toList with
   |some []=>true
   |_=>false)
  |none=>false)
 |_,_,_=>false
def fQ(P:Program)(t:TypeId):Option TypeId:=match P.underlying t with
 |some (.slice e)=>some e
 |_=>none
def gN(P:Program)(t:TypeId)(base:Nat):Option (List AV×List ak):=
 match qL P t with
 |some x=>bif mg P t then some (nh true x.2 (bm x.2) base)else none
 |none=>match P.info? t with
  |some i=>match i.zero with
   |some z=>bif z.cells.toList.all Value.oneCell' then some (List.replicate z.cells.size .undef,[])else none
   |none=>none
  |none=>none
def nq(P:Program)(t:TypeId)(v:AV)(base:Nat):AV×List ak:=
 match v with
 | .nilS=>match lk (tyD P t) [.nilS] base with
  |(vs,rs)=>(vs.headD .undef,rs)
 | .agg cs=>match lk (tyD P t) cs base with
  |(vs,rs)=>(.agg vs,rs)
 |v=>(v,[])
def AV.kC:AV→Bool
 | .undef=>false
 | .tup _=>false
 |_=>true
def Bd(c a b:AV):Out:=
 match c with
 | .kb true=>{ok:= [],v:=a}
 | .kb false=>{ok:= [],v:=b}
 |_=> .bad
def wu(op:BinOp)(k:IntKind)(a b:Int):Out:=
 match op with
 | .add=>{ok:= [],v:= .int k (D.wrap k (D.add a b))}
 | .sub=>{ok:= [],v:= .int k (D.wrap k (D.sub a b))}
 | .mul=>{ok:= [],v:= .int k (D.wrap k (D.mul a b))}
 | .quo=>{ok:= [.d (D.no (D.eq b 0))],v:= .int k (D.wrap k (D.quo a b))}
 | .rem=>{ok:= [.d (D.no (D.eq b 0))],v:= .int k (D.rem a b)}
 | .eql=>{ok:= [],v:= .bool (D.eq a b)}
 | .neq=>{ok:= [],v:= .bool (D.no (D.eq a b))}
 | .lss=>{ok:= [],v:= .bool (D.lt a b)}
 | .leq=>{ok:= [],v:= .bool (D.le a b)}
 | .gtr=>{ok:= [],v:= .bool (D.lt b a)}
 | .geq=>{ok:= [],v:= .bool (D.le b a)}
 | .and=>{ok:= [],v:= .int k (D.andI k a b)}
 | .or=>{ok:= [],v:= .int k (D.orI k a b)}
 | .xor=>{ok:= [],v:= .int k (D.xorI k a b)}
 | .andNot=>{ok:= [],v:= .int k (D.andNI k a b)}
 |_=> .bad
def nL(op:BinOp)(k:IntKind)(a b:Int):Out:=
 match op with
 | .shl=>{ok:= [.d (D.le 0 b)],v:= .int k (D.shlI k a b)}
 | .shr=>{ok:= [.d (D.le 0 b)],v:= .int k (D.shrI k a b)}
 |_=> .bad
def Ce:BinOp→Bool
 | .shl=>true
 | .shr=>true
 |_=>false
def rU(op:BinOp)(a b:ByteArray):Out:=
 match op with
 | .add=>{ok:= [.d (D.leN (D.addN (D.lenS a) (D.lenS b)) lim)],v:= .str (D.catS a b)}
 | .eql=>{ok:= [],v:= .bool (D.eqS a b)}
 | .neq=>{ok:= [],v:= .bool (D.no (D.eqS a b))}
 | .lss=>{ok:= [],v:= .bool (D.ltS a b)}
 | .leq=>{ok:= [],v:= .bool (D.or2 (D.ltS a b) (D.eqS a b))}
 | .gtr=>{ok:= [],v:= .bool (D.no (D.or2 (D.ltS a b) (D.eqS a b)))}
 | .geq=>{ok:= [],v:= .bool (D.no (D.ltS a b))}
 |_=> .bad
def AV.toB:AV→AV
 | .kb b=> .bool b
 |v=>v
def tR(P:Program)(t:TypeId):Bool:=match P.underlying t with
 |some .bool=>true
 |_=>false
def qV(P:Program)(t:TypeId)(op:BinOp)(x y:AV):Out:=
 match x.toB,y.toB with
 | .int k a,.int k' b=>bif Ce op then nL op k a b else bif decide (k=k')then wu op k a b else .bad
 | .str a,.str b=>rU op a b
 | .bool a,.bool b=>match op with
  | .eql=>{ok:= [.s (tR P t)],v:= .bool (D.eqB a b)}
  | .neq=>{ok:= [.s (tR P t)],v:= .bool (D.no (D.eqB a b))}
  |_=> .bad
 |_,_=> .bad
def rF(P:Program)(t:TypeId)(op:BinOp)(x y:AV)(get:Get):Out:=
 match op,x,y with
 | .eql,.sl r p sub,.nilS=>match get r with
  | .row _ t' xs=>match rowAt t' xs p with
   |(ok,⟨_,ys⟩)=>{ok:= .s (fQ P t).isSome::ok,v:= .nb (bR sub ys)}
  |_=> .bad
 |_,_,_=>qV P t op x y
def EE(P:Program)(e:TypeId):Bool:=match P.underlying e with
 |some (.int .u8)=>true
 |_=>false
def ov(P:Program)(src dst:TypeId)(x:AV)(get:Get):Out:=
 match P.underlying src,P.underlying dst,x with
 |some _,some (.int k),.int _ n=>{ok:= [],v:= .int k (D.wrap k n)}
 |some _,some .string,.str s=>{ok:= [],v:= .str s}
 |some (.slice e),some .string,x=>
  bif EE P e then
   match bp get (.sl (.int .u8)) [x]with
   |(ok,xs,_)=>{ok:=ok,v:= .str (D.ofInts xs)}
  else .bad
 |_,_,_=> .bad
def cV(P:Program)(t:TypeId)(te:Ty):Bool:=match fQ P t with
 |some e=>mg P e&&decide (tyD P e=te)&&Nat.blt 0 te.size
 |none=>false
def wq(P:Program)(t:TypeId):Bool:=match P.underlying t with
 |some .string=>true
 |_=>false
def fh(P:Program)(t:TypeId)(cs:List AV)(f:Nat):Out:=
 bif kB P t then{ok:= [.s (fL P t),.s (Nat.ble (f+P.cellsOf t) cs.length)],v:= .agg ((cs.drop f).take (P.cellsOf t))}
 else{ok:= [.s (fL P t),.s (Nat.blt f cs.length)],v:=cs.getD f .undef}
def fg(P:Program)(t:TypeId)(a:AV)(get:Get):Out:=
 match a with
 | .pv r c=>match get r with
  | .var cs=>fh P t cs c
  |_=> .bad
 | .pe r p i f=>match get r with
  | .row _ t' xs=>match rowAt t' xs p with
   |(ok,⟨e,ys⟩)=>
    match fh P t (jV r p i e (D.rd ys i (bm e)) 0) f with
    |⟨ok',v,_,_,_⟩=>{ok:=ok++ .d (D.ltN i (D.len ys))::ok',v:=v}
  |_=> .bad
 |_=> .bad
def fq(v:AV):(c:Ty)→den c→den c
 | .int _,d=>match v with
  | .int _ n=>n
  |_=>d
 | .bool,d=>match v with
  | .bool b=>b
  | .kb b=>b
  |_=>d
 | .str,d=>match v with
  | .str s=>s
  |_=>d
 |_,d=>d
def cI(v:AV):Ty→Bool
 | .int k=>match v with
  | .int k' _=>decide (k=k')
  |_=>false
 | .bool=>match v with
  | .bool _=>true
  | .kb _=>true
  |_=>false
 | .str=>match v with
  | .str _=>true
  |_=>false
 |_=>false
def putRow(e:Ty)(ys:List (den e)):(c:Ty)→den c→den c
 | .sl e',d=>match decEq e e' with
  | .isTrue h=>ly h ys
  | .isFalse _=>d
 |_,d=>d
def kK(t:Ty)(xs:List (den t))(p:Path)(i f:Nat)(g:(c:Ty)→den c→den c):ak:=
 .row true t (ir t xs p fun e' zs=>D.set zs i (bz e' (D.rd zs i (bm e')) f g))
def oq(v:AV)(r:Nat)(p:Path)(i f:Nat)(t:Ty)(xs:List (den t))(e:Ty)(chk:List Tst)(get:Get):Out:=
 match v with
 | .nilS=>{ok:=chk,v:= .tup [],upd:= [(r,kK t xs p i f (putRow e []))],cut:=some (r,p.length+1),quiet:= [(r,none)]}
 | .sl r2 q sub=>
  bif Nat.beq r2 r then
   match rowAt t xs q with
   |(ok,⟨e',ys⟩)=>match decEq e' e with
    | .isTrue h=>{ok:=chk++ok++ [.d (D.eqP q (p++ [(i,f)]))],v:= .tup [],upd:= [(r,kK t xs p i f (putRow e (dJ sub (ly h ys))))],cut:=some (r,p.length+1),quiet:= [(r,none)]}
    | .isFalse _=> .bad
  else match q,get r2 with
   | [],.row true e' ys=>match decEq e' e with
    | .isTrue h=>{ok:=chk,v:= .tup [],upd:= [(r2,.dead),(r,kK t xs p i f (putRow e (dJ sub (ly h ys))))],cut:=some (r,p.length+1),quiet:= [(r,none),(r2,none)]}
    | .isFalse _=> .bad
   | [],.pend r' p' e' ys=>match decEq e' e,sub with
    | .isTrue h,none=>{ok:=chk++ [.s (Nat.beq r' r),.d (D.eqP p' (p++ [(i,f)]))],v:= .tup [],upd:= [(r2,.dead),(r,kK t xs p i f (putRow e (ly h ys)))],cut:=some (r,p.length+1),quiet:= [(r,some r2)]}
    |_,_=> .bad
   |_,_=> .bad
 |_=> .bad
def iY(v:AV)(r:Nat)(p:Path)(i f:Nat)(t:Ty)(xs:List (den t))(get:Get):Out:=
 match rowAt t xs p with
 |(ok,⟨e,ys⟩)=>match (cellAt e (D.rd ys i (bm e)) f).1 with
  | .sl e'=>oq v r p i f t xs e' (ok++ [.d (D.ltN i (D.len ys))]) get
  |c=>{ok:=ok++ [.d (D.ltN i (D.len ys)),.s (cI v c)],v:= .tup [],upd:= [(r,kK t xs p i f (fq v))],quiet:= [(r,none)]}
def jq(e:Ty):Nat→List AV→Bool
 |_,[]=>true
 |f,v::vs=>cI v (cellAt e (bm e) f).1&&jq e (f+1) vs
def ml(e:Ty):den e→Nat→List AV→den e
 |d,_,[]=>d
 |d,f,v::vs=>ml e (bz e d f (fq v)) (f+1) vs
def wY(P:Program)(ty:TypeId)(v:AV)(r:Nat)(i f:Nat)(t:Ty)(xs:List (den t)):Out:=
 {ok:= [.s (fL P ty),.s v.kC,.s (Nat.beq v.cells.length (P.cellsOf ty)),.s (!v.cells.isEmpty),.s (jq t f v.cells),.d (D.ltN i (D.len xs))],v:= .tup []
  upd:= [(r,.row true t (D.set xs i (ml t (D.rd xs i (bm t)) f v.cells)))],quiet:= [(r,none)]}
def gW(P:Program)(t:TypeId)(a v:AV)(get:Get)(base:Nat):Out:=
 match a with
 | .pv r c=>match get r with
  | .var cs=>match nq P t v base with
   |(v',rs)=>
    {ok:= [.s (fL P t),.s v'.kC,.s (Nat.ble (c+P.cellsOf t) cs.length),.s (Nat.beq v'.cells.length (P.cellsOf t))],v:= .tup []
     upd:=aj base rs++ [(r,.var (setCells cs c v'.cells))]}
  |_=> .bad
 | .pe r p i f=>bif Nat.beq (P.cellsOf t) 1 then
   match get r with
   | .row true t' xs=>iY v r p i f t' xs get
   |_=> .bad
  else match p,get r with
   | [],.row true t' xs=>wY P t v r i f t' xs
   |_,_=> .bad
 |_=> .bad
def readAll(get:Get)(t:Ty):List AV→List Tst×List (den t)
 | []=>([],[])
 |v::vs=>match bp get t v.cells with
  |(ok,x,rest)=>match readAll get t vs with
   |(ok',xs)=>(ok++ [.s rest.isEmpty,.s v.kC]++ok',x::xs)
def iB(get:Get)(t:Ty):List AV→List Tst×List Nat
 | []=>([],[])
 |v::vs=>match gives get t v.cells with
  |(ok,l,_)=>match iB get t vs with
   |(ok',l')=>(ok++ok',l++l')
def cH(l:List Nat):List (Nat×ak):=l.map fun r=>(r,.dead)
def dL(l:List Nat):List (Nat×Option Nat):=l.map fun r=>(r,none)
def vj(e:Ty)(x:AV)(get:Get):List Tst×List (den e)×List Nat:=
 match x with
 | .str b=>match decEq (Ty.int .u8) e with
  | .isTrue h=>([],ly h (D.ints b),[])
  | .isFalse _=>([.s false],[],[])
 |x=>match bp get (.sl e) [x]with
  |(ok,xs,_)=>bif e.flat then(ok,xs,[])
   else match gives get (.sl e) [x]with
    |(ok',l,_)=>(ok++ok',xs,l)
def og(e:Ty)(s:AV)(ok:List Tst)(zs:List (den e))(l:List Nat)(get:Get)(base:Nat):Out:=
 match s with
 | .nilS=>{ok:=ok++ [.d (D.leN (D.len zs) lim)],v:= .sl base [] none,upd:=cH l++ [(base,.row true e zs)],quiet:=dL l}
 | .sl r p sub=>match p,get r with
  | [],.row true e' ys=>match decEq e' e with
   | .isTrue h=>
    {ok:=ok++ [.s (!l.contains r),.d (D.leN (D.len (D.app (dJ sub (ly h ys)) zs)) lim)],v:= .sl base [] none
     upd:=cH l++ [(r,.dead),(base,.row true e (D.app (dJ sub (ly h ys)) zs))],quiet:=(r,none)::dL l}
   | .isFalse _=> .bad
  |q::p,.row true t xs=>match rowAt t xs (q::p),sub with
   |(ok',⟨e',ys⟩),none=>match decEq e' e with
    | .isTrue h=>
     {ok:=ok++ok'++ [.s e.flat,.d (D.leN (D.len (D.app (ly h ys) zs)) lim)],v:= .sl base [] none
      upd:= [(base,.pend r (q::p) e (D.app (ly h ys) zs))],quiet:= [(r,none)]}
    | .isFalse _=> .bad
   |_,_=> .bad
  |_,_=> .bad
 |_=> .bad
def cz(P:Program)(st:TypeId)(s x:AV)(get:Get)(base:Nat):Out:=
 match fQ P st with
 |none=> .bad
 |some et=>match qL P et with
  |none=> .bad
  |some (_,t)=>match vj t x get with
   |(ok,zs,l)=>og t s (.s (cV P st t)::ok) zs l get base
def ownRow(e:Ty)(get:Get)(r:Nat):Option (List (den e)):=match get r with
 | .row true t ys=>match decEq t e with
  | .isTrue h=>some (ly h ys)
  | .isFalse _=>none
 |_=>none
def gT(P:Program)(st:TypeId)(e:Ty)(r1:Nat)(sub1:Option (Nat×Nat))(ys1:List (den e))(r o l:Nat)(ys:List (den e))(base:Nat):Out:=
 {ok:= [.s (cV P st e),.s (!Nat.beq r1 r),.d (D.leN (D.len (D.app (dJ sub1 ys1) (dJ (some (o,l)) ys))) lim)],v:= .sl base [] none
  upd:= [(r1,.dead),(r,.half e (D.take o ys)),(base,.row true e (D.app (dJ sub1 ys1) (dJ (some (o,l)) ys)))],quiet:= [(r1,none),(r,none)]}
def fP(P:Program)(st:TypeId)(s x:AV)(get:Get)(base:Nat):Out:=match s with
 | .sl r1 [] sub1=>match x with
  | .sl r [] (some (o,l))=>match fQ P st with
   |some et=>match qL P et with
    |some (_,e)=>bif e.flat then cz P st s x get base else match ownRow e get r1 with
     |some ys1=>match ownRow e get r with
      |some ys=>gT P st e r1 sub1 ys1 r o l ys base
      |none=>cz P st s x get base
     |none=>cz P st s x get base
    |none=>cz P st s x get base
   |none=>cz P st s x get base
  |_=>cz P st s x get base
 |_=>cz P st s x get base
def shared(get:Get):AV→Bool
 | .sl r _ _=>match get r with
  | .row false _ _=>true
  | .sh _ _=>true
  |_=>false
 |_=>false
def uw(e:Ty)(s x:AV)(get:Get):Option (Nat×List (den e)):=match s with
 | .sl r [] none=>match get r with
  | .sh t ys=>match decEq t e with
   | .isTrue h=>some (r,ly h ys)
   | .isFalse _=>none
  | .row true t ys=>bif shared get x then(match decEq t e with
   | .isTrue h=>some (r,ly h ys)
   | .isFalse _=>none)else none
  |_=>none
 |_=>none
def uV(e:Ty)(x:AV)(get:Get):List Tst×List (den e)×List Nat:=match x with
 | .sl r p sub=>match bp get (.sl e) [.sl r p sub]with
  |(ok,xs,_)=>match get r with
   | .row false _ _=>(ok,xs,[])
   | .row true _ _=>(ok,xs,[r])
   | .sh _ _=>(ok,xs,[r])
   |_=>([.s false],[],[])
 |_=>([.s false],[],[])
def u3(P:Program)(st:TypeId)(e:Ty)(r:Nat)(ys:List (den e))(x:AV)(get:Get)(base:Nat):Out:=match uV e x get with
 |(ok,zs,l)=>{ok:= .s (cV P st e):: .s (!l.contains r)::(ok++ [.d (D.leN (D.len (D.app ys zs)) lim)]),v:= .sl base [] none,upd:=cH (r::l)++ [(base,.sh e (D.app ys zs))],quiet:=dL (r::l)}
def wj(P:Program)(st:TypeId)(s x:AV)(get:Get):Option ((e:Ty)×Nat×List (den e)):=match fQ P st with
 |some et=>match qL P et with
  |some (_,e)=>bif e.flat then none else match uw e s x get with
   |some (r,ys)=>some ⟨e,r,ys⟩
   |none=>none
  |none=>none
 |none=>none
def fS(P:Program)(st:TypeId)(s x:AV)(get:Get)(base:Nat):Out:=match wj P st s x get with
 |some ⟨e,r,ys⟩=>u3 P st e r ys x get base
 |none=>fP P st s x get base
def Aa:Ty→Bool
 | .int _=>true
 | .pair (.int _) (.int _)=>true
 |_=>false
def gz (P : Program) (t : TypeId) (d s : AV) (get : Get) : Out := match d with
  | .sl r [] sub => match get r with
    | .row true e xs => bif Aa e then (match bp get (.sl e) [s] with
      | (ok, ys, _) => { ok := .s (cV P t e) :: ok, v := .int .i64 (D.ofN (D.len (D.take (bR sub xs) ys)))
                         upd := [(r, .row true e (D.app (D.take (cF sub 0) xs) (D.app (D.take (bR sub xs) ys) (D.drop (cF sub (D.len (D.take (bR sub xs) ys))) xs))))], quiet := [(r, none)] }) else .bad
    | _ => .bad
  | _ => .bad
def od(l:List AV):Option Operand→Option AV×List AV
 |none=>(none,l)
 |some _=>(some (l.headD .undef),l.tail)
def bounds(n:Nat)(lo hi:Option AV):List Tst×Nat×Nat:=
 match lo,hi with
 |none,none=>([],0,n)
 |none,some (.int _ h)=>([.d (D.le 0 h),.d (D.leN (D.nat h) n)],0,D.nat h)
 |some (.int _ l),none=>([.d (D.le 0 l),.d (D.leN (D.nat l) n)],D.nat l,n)
 |some (.int _ l),some (.int _ h)=>([.d (D.le 0 h),.d (D.leN (D.nat h) n),.d (D.le 0 l),.d (D.leN (D.nat l) (D.nat h))],D.nat l,D.nat h)
 |_,_=>([.s false],0,0)
def kr(P:Program)(t:TypeId)(x:AV)(lo hi:Option AV)(get:Get):Out:=
 match x with
 | .nilS=>match bounds 0 lo hi with
  |(ok,_,_)=>{ok:= [.s (fQ P t).isSome,.s (mg P ((fQ P t).getD 0))]++ok,v:= .nilS}
 | .str s=>match bounds (D.lenS s) lo hi with
  |(ok,l,h)=>{ok:= .s (wq P t)::ok,v:= .str (D.cutS s l h)}
 | .sl r p sub=>match get r with
  | .row _ t' xs=>match rowAt t' xs p with
   |(ok,⟨e,ys⟩)=>match bounds (bR sub ys) lo hi with
    |(ok',l,h)=>{ok:= .s (cV P t e)::(ok++ok'),v:= .sl r p (some (cF sub l,D.subN h l))}
  |_=> .bad
 |_=> .bad
def mY(P:Program)(t:TypeId)(e:Ty)(xs:List (den e))(r:Nat)(h:Int)(base:Nat):Out:=
 {ok:= [.s (cV P t e),.d (D.le 0 h),.d (D.leN (D.nat h) (D.len xs))],v:= .sl base [] none,upd:=cH [r]++ [(base,.row true e (D.take (D.nat h) xs))],quiet:=dL [r]}
def sA(lo hi:Option AV)(x:AV)(get:Get):Option (Nat×Int×Row):=match lo with
 |none=>match hi with
  |some (.int _ h)=>match x with
   | .sl r [] none=>match get r with
    | .half e xs=>some (r,h,⟨e,xs⟩)
    |_=>none
   |_=>none
  |_=>none
 |_=>none
def fM(P:Program)(t:TypeId)(x:AV)(lo hi:Option AV)(get:Get)(base:Nat):Out:=match sA lo hi x get with
 |some (r,h,⟨e,xs⟩)=>mY P t e xs r h base
 |none=>kr P t x lo hi get
def isZero:Operand→Bool
 | .const (.int _ n)=>decide (n=0)
 |_=>false
def hZ(P:Program)(t:TypeId)(x:AV)(get:Get)(base:Nat):Out:=
 match x with
 | .nilS=>{ok:= [.s (fQ P t).isSome,.s (mg P ((fQ P t).getD 0))],v:= .nilS}
 | .sl r p _=>match get r with
  | .row _ t' xs=>match rowAt t' xs p with
   |(ok,⟨e,_⟩)=>{ok:= .s (cV P t e)::ok,v:= .sl base [] none,upd:= [(base,.row true e [])]}
  |_=> .bad
 |_=> .bad
def jE(P:Program)(t:TypeId)(x:AV)(h c:Int)(get:Get)(base:Nat):Out:=
 match x with
 | .sl r p sub=>match p,get r with
  | [],.row true e ys=>{ok:= [.s (cV P t e),.d (D.le 0 h),.d (D.le h c),.d (D.leN (D.nat c) (bR sub ys))],v:= .sl base [] none,upd:=cH [r]++ [(base,.row true e (D.take (D.nat h) (dJ sub ys)))],quiet:=dL [r]}
  |_,_=> .bad
 |_=> .bad
def lx(P:Program)(t:TypeId)(lo:Option Operand)(avs:List AV)(get:Get)(base:Nat):Out:=match lo,avs with
 |none,[x,.int _ h,.int _ c]=>jE P t x h c get base
 |_,_=> .bad
def nt(P:Program)(t:TypeId)(x:AV)(get:Get):Out:=
 match x with
 | .str s=>{ok:= [.s (wq P t)],v:= .int .i64 (D.ofN (D.lenS s))}
 | .nilS=>{ok:= [.s (fQ P t).isSome],v:= .int .i64 0}
 | .sl r p sub=>match get r with
  | .row _ t' xs=>match rowAt t' xs p with
   |(ok,⟨_,ys⟩)=>{ok:= .s (fQ P t).isSome::ok,v:= .int .i64 (D.ofN (bR sub ys))}
  |_=> .bad
 |_=> .bad
def sJ(P:Program)(t:TypeId)(x:AV):Out:=
 match x with
 | .nilS=>{ok:= [.s (fQ P t).isSome],v:= .int .i64 0}
 |_=> .bad
def nB(P:Program)(t:TypeId)(s x:AV)(base:Nat):Out:=match fQ P t,s,x with
 |some e,.nilS,.int _ n=>match qL P e with
  |some (_,t')=>{ok:= [.s (cV P t t'),.d (D.le 1 n),.d (D.leN (D.nat n) lim)],v:= .sl base [] none,upd:= [(base,.row true t' (D.rep (D.nat n) (bm t')))]}
  |none=> .bad
 |_,_,_=> .bad
def l9(gt:Bool):List AV→Out
 | [.int k a,.int k' b]=>bif decide (k=k')then{ok:= [],v:= .int k (bif gt then D.sel (D.lt a b) b a else D.sel (D.lt b a) b a)}else .bad
 |_=> .bad
def pd(b:Bool)(v u:AV):AV:=match v,u with
 | .int k a,.int k' b'=>bif decide (k=k')then .int k (D.sel b a b')else .undef
 |_,_=> .undef
def AD:AV→AV
 | .int k a=> .int k a
 |_=> .undef
def jm:List AV→Nat→Int→AV
 | [],_,_=> .undef
 |v::vs,i,n=>match vs with
  | []=>AD v
  |_::_=>pd (D.eq n (D.ofN i)) v (jm vs (i+1) n)
def nQ(P:Program)(xt:TypeId)(x ix:AV):Out:=
 match x,ix with
 | .str s,.int _ n=>{ok:= [.s (wq P xt),.d (D.le 0 n),.d (D.ltN (D.nat n) (D.lenS s))],v:= .int .u8 (D.byte s (D.nat n))}
 | .agg cs,.int _ n=>match P.underlying xt with
  |some (.array m e)=>{ok:= [.s (fL P e&&Nat.beq (P.cellsOf e) 1&& !kB P e),.s (Nat.beq cs.length m),.d (D.le 0 n),.d (D.lt n (D.ofN m))],v:=jm cs 0 n}
  |_=> .bad
 |_,_=> .bad
def fw(P:Program)(xt:TypeId)(x ix:AV)(get:Get):Out:=
 match ix with
 | .int _ n=>match x with
  | .sl r p sub=>match get r with
   | .row _ t xs=>match rowAt t xs p with
    |(ok,⟨e,ys⟩)=>{ok:= .s (cV P xt e)::(ok++ [.d (D.le 0 n),.d (D.ltN (D.nat n) (bR sub ys))]),v:= .pe r p (cF sub (D.nat n)) 0}
   |_=> .bad
  | .pv r c=>match P.underlying xt with
   |some (.array m e)=>{ok:= [.s (fL P e),.d (D.le 0 n),.d (D.lt n (D.ofN m))],v:= .pv r (c+n.toNat*P.cellsOf e)}
   |_=> .bad
  | .pe r p i f=>match P.underlying xt with
   |some (.array m e)=>{ok:= [.s (fL P e),.d (D.le 0 n),.d (D.lt n (D.ofN m))],v:= .pe r p i (f+n.toNat*P.cellsOf e)}
   |_=> .bad
  |_=> .bad
 |_=> .bad
def jF(P:Program)(place:Nat→Option (Nat×TypeId)):List (Nat×AV)→List AV→Nat→List Tst×List AV×List ak
 | [],cs,_=>([],cs,[])
 |(i,v)::r,cs,base=>match place i with
  |none=>([.s false],cs,[])
  |some (off,t)=>match nq P t v base with
   |(v',rs)=>match jF P place r (setCells cs off v'.cells) (base+rs.length)with
    |(ok,cs',rs')=>([.s v'.kC,.s (Nat.beq v'.cells.length (P.cellsOf t)),.s (Nat.ble (off+P.cellsOf t) cs.length)]++ok,cs',rs++rs')
def placeOf(P:Program)(t:TypeId)(i:Nat):Option (Nat×TypeId):=
 match P.underlying t with
 |some (.struct _)=>qK P t i
 |some (.array m e)=>bif Nat.blt i m then some (i*P.cellsOf e,e)else none
 |_=>none
def vi(P:Program)(t:TypeId):Bool:=match P.underlying t with
 |some (.struct fs)=>fs.toList.all fun f=>(P.info? f.type).isSome
 |some (.array _ e)=>(P.info? e).isSome
 |_=>false
def mH(P:Program)(t:TypeId)(parts:List (Nat×AV))(base:Nat):Out:=
 match gN P t base with
 |none=> .bad
 |some (cs,rs)=>match jF P (placeOf P t) parts cs (base+rs.length)with
  |(ok,cs',rs')=>{ok:=ok++ [.s (vi P t)],v:= .agg cs',upd:=aj base (rs++rs')}
def HD:Tst→Bool
 | .s b=>b
 | .d _=>true
def Cm:Ty→Bool
 | .sl (.sl _)=>true
 |_=>false
def E7:AV→Bool
 | .sl _ _ _=>true
 | .nilS=>true
 |_=>false
def dn(P:Program)(t:TypeId)(len:Nat)(parts:List (Nat×AV))(get:Get)(base:Nat):Out:=
 match fQ P t with
 |none=> .bad
 |some e=>match qL P e with
  |none=> .bad
  |some (_,te)=>match readAll get te (parts.map (·.2))with
   |(ok,xs)=>match iB get te (parts.map (·.2))with
    |(ok',l)=>bif (!(ok'.all HD)||(Cm te&&Nat.blt 0 len))&&(Nat.beq te.size 1&&(parts.map (·.2)).all E7)then
      {ok:= [.s (cV P t te),.s (decide (parts.map (·.1)=List.range len)),.s (Nat.ble (len*te.size) 16777216)],v:= .lit base len,upd:= [(base,.var (parts.map (·.2)))]}
     else bif Cm te&&parts.isEmpty then{ok:= [.s (cV P t te),.s (Nat.beq len 0)],v:= .sl base [] none,upd:= [(base,.sh te [])]}else
     {ok:= [.s (cV P t te),.s (decide (parts.map (·.1)=List.range len)),.s (Nat.ble (len*te.size) 16777216)]++ok++ok'++ [.s (decide l.Nodup)]
      v:= .sl base [] none,upd:=cH l++ [(base,.row true te xs)],quiet:=dL l}
def A4:List AV→Out
 | [.pv r c]=>{ok:= [],v:= .pv r c}
 | [.pe r p i f]=>{ok:= [],v:= .pe r p i f}
 |_=> .bad
def Fe(op:UnOp)(avs:List AV):Out:=match op,avs with
 | .not,[.bool b]=>{ok:= [],v:= .bool (D.no b)}
 | .not,[.kb b]=>{ok:= [],v:= .kb (!b)}
 | .neg,[.int k n]=>{ok:= [],v:= .int k (D.wrap k (D.sub 0 n))}
 |_,_=> .bad
def qw(fn:Fn)(n:Nat)(avs:List AV):Out:=match fn with
 | .func f=>{ok:= [],v:= .fn f (avs.take n) (avs.drop n)}
 |_=> .bad
def oM(P:Program)(t:TypeId)(avs:List AV)(base:Nat):Out:=match fQ P t,avs with
 |some e,[.int _ l,.int _ c]=>match qL P e with
  |some (_,t')=>{ok:= [.s (cV P t t'),.d (D.le 0 l),.d (D.le l c),.d (D.leN (D.nat c) lim)],v:= .sl base [] none,upd:= [(base,.row true t' (D.rep (D.nat l) (bm t')))]}
  |none=> .bad
 |_,_=> .bad
def jB(P:Program)(s:TypeId)(i:Nat)(avs:List AV):Out:=match qK P s i,avs with
 |some (f,ft),[.pv r c]=>{ok:= [.s (Nat.blt 0 (P.cellsOf ft))],v:= .pv r (c+f)}
 |some (f,ft),[.pe r p j g]=>{ok:= [.s (Nat.blt 0 (P.cellsOf ft))],v:= .pe r p j (g+f)}
 |_,_=> .bad
def uK(P:Program)(s:TypeId)(i:Nat)(avs:List AV):Out:=match qK P s i,avs with
 |some (f,ft),[.agg cs]=>fh P ft cs f
 |_,_=> .bad
def qk(i:Nat):List AV→Out
 | [.tup vs]=>{ok:= [.s (Nat.blt i vs.length)],v:=vs.getD i .undef}
 |_=> .bad
def G5(o:Oper):Option (Nat×TypeId):=match o.op,o.dst,o.guard with
 | .box t (.tmp 0),some p,none=>some (p,t)
 |_,_,_=>none
def HK(o:Oper):Option Nat:=match o.op,o.dst,o.guard with
 | .assign (.const _),some q,none=>some q
 |_,_,_=>none
def Hy(o:Oper):Option (Nat×Nat×Nat):=match o.op,o.dst,o.guard with
 | .makeFunc (.func f) a b,some m,none=>match a.toList,b.toList with
  | [],[.tmp p]=>some (m,f,p)
  |_,_=>none
 |_,_,_=>none
def G3(fn:Func):Option Nat:=match fn.results.toList with
 | [.tmp r]=>some r
 |_=>none
def HF(o:Oper):Option (Nat×Nat):=match o.op,o.dst,o.guard with
 | .assign (.tmp m),some q,none=>some (q,m)
 |_,_,_=>none
def xU(P:Program)(f:Nat):Option (Nat×TypeId):=match P.funcs[f]? with
 |none=>none
 |some fn=>match fn.body with
  |some (.seq (.region _ a false) (.seq (.region _ b false) .ret))=>
   match (a[0]?).bind G5,(a[1]?).bind HK,(b[0]?).bind Hy,(b[1]?).bind HF,G3 fn with
   |some (p,t),some q,some (m,f1,p'),some (q',m'),some r=>
    bif Nat.beq a.size 2&&(Nat.beq b.size 2&&(Nat.beq p p'&&(Nat.beq m m'&&(Nat.beq q' r&&(!(Nat.beq q p)&&(Nat.blt p fn.ntmps&&(Nat.blt m fn.ntmps&&Nat.blt r fn.ntmps)))))))then some (f1,t)else none
   |_,_,_,_,_=>none
  |_=>none
def gX(P:Program)(c:Call):Option (Nat×TypeId):=match c.callee with
 | .value (.func f)=>xU P f
 |_=>none
def tZ(P:Program)(c:Call)(avs:List AV)(base:Nat):Out:=match gX P c,avs with
 |some (f1,_),[_,.sl r p sub]=>{ok:= [.s (Nat.beq c.args.size 1)],v:= .fn f1 [] [.pv base 0],upd:= [(base,.var [.sl r p sub])]}
 |_,_=> .bad
def yc(P:Program)(t:TypeId):Bool:=match fQ P t with
 |some e=>fL P e&&Nat.beq (P.cellsOf e) 1
 |none=>false
def aP(P:Program)(o:Oper)(avs:List AV)(get:Get)(base:Nat):Out:=
 match o.op with
 | .move _=>{ok:= [],v:=avs.headD .undef}
 | .assign _=>match nq P o.type (avs.headD .undef) base with
  |(v,rs)=>{ok:= [],v:=v,upd:=aj base rs}
 | .pick _ _ _=>match avs with
  | [c,a,b]=>Bd c a b
  |_=> .bad
 | .alloc t=>match gN P t (base+1)with
  |some (cs,rs)=>{ok:= [],v:= .pv base 0,upd:=(base,.var cs)::aj (base+1) rs}
  |none=> .bad
 | .box t _=>match nq P t (avs.headD .undef) (base+1)with
  |(v,rs)=>{ok:= [.s v.kC],v:= .pv base 0,upd:=(base,.var v.cells)::aj (base+1) rs}
 | .build t ps=>mH P t ((ps.toList.map (·.1)).zip avs) base
 | .buildSlice t len ps=>dn P t len ((ps.toList.map (·.1)).zip avs) get base
 | .load t _=>fg P t (avs.headD .undef) get
 | .store t _ _=>match avs with
  | [a,v]=>gW P t a v get base
  |_=> .bad
 | .nilCheck _=>A4 avs
 | .binOp op t _ _ _=>match avs with
  | [a,b]=>rF P t op a b get
  |_=> .bad
 | .unOp op _ _=>Fe op avs
 | .convert s d _=>ov P s d (avs.headD .undef) get
 | .makeFunc fn first _=>qw fn first.size avs
 | .makeSlice t _ _=>oM P t avs base
 | .slice t _ lo hi mx=>match mx with
  |none=>fM P t (avs.headD .undef) (od avs.tail lo).1 (od (od avs.tail lo).2 hi).1 get base
  |some m=>bif isZero m&&hi.any isZero&&lo.all isZero then hZ P t (avs.headD .undef) get base else lx P t lo avs get base
 | .fieldAddr s _ i=>jB P s i avs
 | .field s _ i=>uK P s i avs
 | .indexAddr t _ _=>match avs with
  | [x,i]=>fw P t x i get
  |_=> .bad
 | .index t _ _=>match avs with
  | [x,i]=>nQ P t x i
  |_=> .bad
 | .extract _ i=>qk i avs
 | .call c=>match c.callee with
  | .builtin .len=>match c.argTypes[0]? with
   |some t=>nt P t (avs.headD .undef) get
   |none=> .bad
  | .builtin .cap=>match c.argTypes[0]? with
   |some t=>sJ P t (avs.headD .undef)
   |none=> .bad
  | .builtin .append=>match avs,c.argTypes[0]?,c.argTypes[1]? with
   | [s,x],some t,some u=>match P.underlying u with
    |some .string=>cz P t s x get base
    |some (.slice _)=>fS P t s x get base
    |some (.int _)=>nB P t s x base
    |_=> .bad
   |_,_,_=> .bad
  | .builtin .copy=>match avs,c.argTypes[0]?,c.argTypes[1]? with
   | [d,s],some t,some _=>gz P t d s get
   |_,_,_=> .bad
  | .builtin .min=>l9 false avs
  | .builtin .max=>l9 true avs
  | .value _=>tZ P c avs base
  |_=> .bad
 |_=> .bad
def setAt(rs:List ak)(i:Nat)(x:ak):List ak:=
 bif Nat.blt i rs.length then rs.set i x else rs++List.replicate (i-rs.length) .dead++ [x]
def cU(rs:List ak):List (Nat×ak)→List ak
 | []=>rs
 |(i,x)::r=>cU (setAt rs i x) r
def St.get(st:St):Get:=fun r=>st.rs.getD r .dead
def St.top(st:St):List AV:=st.fr.headD []
def St.put(st:St)(dst:Option Tmp)(v:AV):St:=
 match dst with
 |none=>st
 |some d=>match st.fr with
  | []=>st
  |f::r=>{st with fr:=f.set d v::r}
def pj:Value→AV
 | .int k n=> .int k n
 | .bool b=> .kb b
 | .string s=> .str s
 | .slice none 0 0=> .nilS
 | .agg cs=>bif cs.toList.all Value.oneCell' then .agg (cs.toList.map fun
  | .int k n=> .int k n
  | .bool b=> .kb b
  | .string s=> .str s
  | .slice none 0 0=> .nilS
  |_=> .undef)else .undef
 |_=> .undef
def AV.toI:AV→AV
 | .ki k n=> .int k n
 |v=>v
def an(st:St):Operand→AV
 | .tmp i=>(st.top.getD i .undef).toI
 | .const v=>pj v
 | .global _=> .undef
 | .func f=> .fn f [] []
def evK(st:St):Operand→AV
 | .tmp i=>st.top.getD i .undef
 | .const (.int k n)=> .ki k n
 |x=>an st x
def GY(op:BinOp)(k:IntKind)(a b:Int):Option AV:=match op with
 | .add=>some (.ki k (k.wrap (a+b)))
 | .lss=>some (.kb (decide (a<b)))
 | .geq=>some (.kb (decide (b≤a)))
 |_=>none
def zt(v:AV):Out:={ok:= [],v:=v}
def rD:ak→Bool
 | .var _=>true
 |_=>false
def zg(P:Program)(o:Oper)(avs:List AV)(get:Get):Option Out:=
 match o.op with
 | .move _=>match avs with
  | [.ki k n]=>some (zt (.ki k n))
  |_=>none
 | .assign _=>match avs with
  | [.ki k n]=>some (zt (.ki k n))
  |_=>none
 | .binOp op _ _ _ _=>match avs with
  | [.ki k a,.ki k' b]=>bif decide (k=k')then(GY op k a b).map zt else none
  |_=>none
 | .indexAddr t _ _=>match avs with
  | [.lit r n,.ki _ i]=>bif rD (get r)then some {ok:= [.s (yc P t),.s (decide (0≤i)),.s (Nat.blt i.toNat n)],v:= .pv r i.toNat}else none
  |_=>none
 | .call c=>match c.callee with
  | .builtin .len=>match avs with
   | [.lit r n]=>match c.argTypes[0]? with
    |some t=>bif rD (get r)then some {ok:= [.s (fQ P t).isSome],v:= .ki .i64 n}else none
    |none=>none
   |_=>none
  |_=>none
 |_=>none
mutual
def AV.ren(π:Nat→Option Nat):AV→AV
 | .sl r p s=>match π r with
  |some r=> .sl r p s
  |none=> .undef
 | .pv r c=>match π r with
  |some r=> .pv r c
  |none=> .undef
 | .lit r n=>match π r with
  |some r=> .lit r n
  |none=> .undef
 | .pe r p i f=>match π r with
  |some r=> .pe r p i f
  |none=> .undef
 | .fn f a b=> .fn f (AV.mu π a) (AV.mu π b)
 | .agg cs=> .agg (AV.mu π cs)
 | .tup vs=> .tup (AV.mu π vs)
 | .undef=> .undef
 | .nilS=> .nilS
 | .int k n=> .int k n
 | .bool b=> .bool b
 | .kb b=> .bool b
 | .ki k n=> .int k n
 | .nb n=> .nb n
 | .str s=> .str s
def AV.mu(π:Nat→Option Nat):List AV→List AV
 | []=> []
 |v::vs=>v.ren π::AV.mu π vs
end
mutual
def AV.roots:AV→List Nat
 | .sl r _ _=> [r]
 | .pv r _=> [r]
 | .lit r _=> [r]
 | .pe r _ _ _=> [r]
 | .fn _ a b=>AV.ah a++AV.ah b
 | .agg cs=>AV.ah cs
 | .tup vs=>AV.ah vs
 | .undef| .int _ _| .bool _| .kb _| .ki _ _| .nb _| .str _| .nilS=> []
def AV.ah:List AV→List Nat
 | []=> []
 |v::vs=>v.roots++AV.ah vs
end
def qF(get:Get):AV→List Nat
 | .lit r _=>match get r with
  | .var cs=>AV.ah cs
  |_=> []
 |_=> []
def gB(get:Get)(vs:List AV):List Nat:=vs.flatMap (qF get)
mutual
def AV.cut(r n:Nat):AV→AV
 | .sl r' p s=>bif Nat.beq r' r&&Nat.ble n p.length then .undef else .sl r' p s
 | .pe r' p i f=>bif Nat.beq r' r&&Nat.ble n p.length then .undef else .pe r' p i f
 | .fn f a b=> .fn f (AV.gl r n a) (AV.gl r n b)
 | .agg cs=> .agg (AV.gl r n cs)
 | .tup vs=> .tup (AV.gl r n vs)
 | .pv r' c=> .pv r' c
 | .lit r' n=> .lit r' n
 | .undef=> .undef
 | .nilS=> .nilS
 | .int k n=> .int k n
 | .bool b=> .bool b
 | .kb b=> .kb b
 | .ki k n=> .ki k n
 | .nb n=> .nb n
 | .str s=> .str s
def AV.gl(r n:Nat):List AV→List AV
 | []=> []
 |v::vs=>v.cut r n::AV.gl r n vs
end
def ak.ren(π:Nat→Option Nat):ak→ak
 | .var cs=> .var (AV.mu π cs)
 | .pend r p t xs=>match π r with
  |some r=> .pend r p t xs
  |none=> .dead
 |x=>x
def ak.roots:ak→List Nat
 | .var cs=>AV.ah cs
 | .pend r _ _ _=> [r]
 |_=> []
def ak.cut(r n:Nat):ak→ak
 | .var cs=> .var (AV.gl r n cs)
 |x=>x
def iv(seen:List Nat):List Nat→List Nat
 | []=>seen
 |x::xs=>bif seen.contains x then iv seen xs else iv (seen++ [x]) xs
def reach(rs:List ak):Nat→List Nat→List Nat
 |0,seen=>seen
 |n+1,seen=>reach rs n (iv seen (seen.flatMap fun r=>(rs.getD r .dead).roots))
def alive(rs:List ak)(r:Nat):Bool:=match rs.getD r .dead with
 | .dead=>false
 |_=>true
def far:Nat:=1000000
def idx:List Nat→Nat→Nat→Option Nat
 | [],_,_=>none
 |x::xs,i,r=>bif Nat.beq x r then some i else idx xs (i+1) r
def jo(live:List Nat):Nat→List AV→List AV
 |_,[]=> []
 |i,v::vs=>(bif live.contains i then v else .undef)::jo live (i+1) vs
def St.dh(live:List Nat)(st:St):St:=
 match st.fr with
 | []=>st
 |f::fr=>{st with fr:=jo live 0 f::fr}
def St.uo(ord:List Nat)(st:St):St:=
 {fr:=st.fr.map (AV.mu (idx ord 0)),rs:=ord.map fun r=>(st.rs.getD r .dead).ren (idx ord 0)}
def St.canon(live:List Nat)(st:St):St:=
 let st':=st.dh live
 let ord:=(reach st'.rs 4 (iv [] (st'.fr.flatMap AV.ah))).filter (alive st'.rs)
 bif decide ord.Nodup then st'.uo ord else st'
def St.cut(st:St):Option (Nat×Nat)→St
 |none=>st
 |some (r,n)=>{fr:=st.fr.map (AV.gl r n),rs:=st.rs.map (ak.cut r n)}
def quietAt(r:Nat)(ex:Option Nat):Nat→List ak→Bool
 |_,[]=>true
 |j,x::xs=>(match x with
  | .pend r' _ _ _=> !(Nat.beq r' r)||decide (ex=some j)
  |_=>true)&&quietAt r ex (j+1) xs
def a8(rs:List ak)(q:List (Nat×Option Nat)):Bool:=q.all fun x=>quietAt x.1 x.2 0 rs
def St.app(st:St)(o:Out):St:=({st with rs:=cU st.rs o.upd}:St).cut o.cut
section force
variable {R : Type}
def qI(n:Nat)(k:Nat→Option R):Option R:=match n with
 |0=>k 0
 |m+1=>k (m+1)
def v8:Path→(Path→Option R)→Option R
 | [],k=>k []
 |(i,f)::p,k=>qI f fun f=>v8 p fun p=>k ((i,f)::p)
mutual
def AV.force:AV→(AV→Option R)→Option R
 | .undef,k=>k .undef
 | .nilS,k=>k .nilS
 | .int kk n,k=>k (.int kk n)
 | .bool b,k=>k (.bool b)
 | .kb true,k=>k (.kb true)
 | .kb false,k=>k (.kb false)
 | .ki kk n,k=>k (.ki kk n)
 | .nb n,k=>k (.nb n)
 | .str s,k=>k (.str s)
 | .sl r p none,k=>qI r fun r=>v8 p fun p=>k (.sl r p none)
 | .sl r p (some (o,l)),k=>qI r fun r=>v8 p fun p=>k (.sl r p (some (o,l)))
 | .pv r c,k=>qI r fun r=>qI c fun c=>k (.pv r c)
 | .lit r n,k=>qI r fun r=>qI n fun n=>k (.lit r n)
 | .pe r p i f,k=>qI r fun r=>v8 p fun p=>qI f fun f=>k (.pe r p i f)
 | .fn f a b,k=>AV.l7 a fun a=>AV.l7 b fun b=>k (.fn f a b)
 | .agg cs,k=>AV.l7 cs fun cs=>k (.agg cs)
 | .tup vs,k=>AV.l7 vs fun vs=>k (.tup vs)
def AV.l7:List AV→(List AV→Option R)→Option R
 | [],k=>k []
 |v::vs,k=>v.force fun v=>AV.l7 vs fun vs=>k (v::vs)
end
def ak.force:ak→(ak→Option R)→Option R
 | .dead,k=>k .dead
 | .var cs,k=>AV.l7 cs fun cs=>k (.var cs)
 | .row rw t xs,k=>k (.row rw t xs)
 | .pend r p t xs,k=>qI r fun r=>v8 p fun p=>k (.pend r p t xs)
 | .half t xs,k=>k (.half t xs)
 | .sh t xs,k=>k (.sh t xs)
def qo:List ak→(List ak→Option R)→Option R
 | [],k=>k []
 |r::rs,k=>r.force fun r=>qo rs fun rs=>k (r::rs)
def tS:List (List AV)→(List (List AV)→Option R)→Option R
 | [],k=>k []
 |f::fs,k=>AV.l7 f fun f=>tS fs fun fs=>k (f::fs)
def St.force(st:St)(k:St→Option R):Option R:=tS st.fr fun fr=>qo st.rs fun rs=>k ⟨fr,rs⟩
end force
def Code.cA:Code→Code
 | .seq a _=>a
 | .rangeFunc _ _ a _=>a
 |c=>c
def Code.cB:Code→Code
 | .seq _ b=>b
 | .rangeFunc _ _ _ b=>b
 |c=>c
def Code.cC:Code→Code
 | .block _ c=>c
 | .loop c=>c
 | .scope c=>c
 |c=>c
def Code.cT:Code→Code
 | .cond _ x _=>x
 |c=>c
def Code.ops:Code→Array Oper
 | .region _ ops _=>ops
 |_=> #[]
def frm(n:Nat)(l:List (Nat×AV)):List AV:=l.foldl (fun f x=>f.set x.1 x.2) (List.replicate n .undef)
def fm(P:Program)(f:Nat):Code:=match P.funcs[f]? with
 |some fn=>match fn.body with
  |some c=>c
  |none=> .skip
 |none=> .skip
def Hf(P:Program)(f:Nat):Func:=match P.funcs[f]? with
 |some fn=>fn
 |none=>default
end Go.Am
end
section
/- The abstract machine, third part: the executor, in continuation style, over the model's Code. -/
noncomputable section
namespace Go.Am
variable [D]
section run
def chk{R:Type}(l:List Tst)(x:Option R):Option R:=
 match l with
 | []=>x
 | .s b::r=>bif b then chk r x else none
 | .d b::r=>D.test b (chk r x) none
inductive Ex where
  | normal | exit (id : Nat) | ret
structure Env (P : Program) where
  pc : (f : Nat) → den (eH P f) → Option (den (resTy P f))
  ps : (f : Nat) → den (eH P f) → Option (den (resTy P f))
  inl : {R : Type} → Nat → List AV → St → (List AV → St → Option R) → Option R
  srt : {R : Type} → Nat → Nat → Option R → Option R
structure Cfg where
  mode : Nat → Nat
  loops : Nat → Nat → Option (List Nat)
  joins : Nat → Nat → Option (List Nat)
variable {R : Type} (P : Program) (cfg : Cfg) (env : Env P)
structure Touch where
  reads : List Nat
  writes : List Nat
  quiet : List Nat
  alone : Bool
def ak.waits:ak→List Nat
 | .pend r _ _ _=> [r]
 |_=> []
def jk(st:St)(upd:List (Nat×ak)):List Nat:=upd.flatMap fun x=>(st.get x.1).waits++x.2.waits
def qt(o:Oper)(avs:List AV):List Nat:=match o.op with
 | .move _=> []
 |_=>AV.ah avs
def yQ(o:Oper)(avs:List AV)(out:Out)(st:St)(K:Touch→St→Option R):Option R:=
 match out with
 |⟨ok,v,upd,cut,quiet⟩=>chk (.s (a8 st.rs quiet)::ok)
   (St.force ((({st with rs:=cU st.rs upd}:St).cut cut).put o.dst v) (K ⟨qt o avs,upd.map (·.1),quiet.map (·.1)++jk st upd,cut.isSome⟩))
def tG:List AV→AV
 | [v]=>v
 |vs=> .tup vs
def ru(P:Program):List TypeId→List AV→Nat→List AV×List ak
 |t::ts,v::vs,base=>match nq P t v base with
  |(v',rs)=>match ru P ts vs (base+rs.length)with
   |(vs',rs')=>(v'::vs',rs++rs')
 |_,vs,_=>(vs,[])
def DE(P:Program)(t:TypeId)(v:AV):Bool:=match v with
 | .undef=>false
 | .tup _=>false
 | .agg cs=>kj P t&&Nat.beq cs.length (tyD P t).size
 |_=> !kj P t&&Nat.beq (tyD P t).size 1
def fitAll(P:Program):List TypeId→List AV→Bool
 | [],[]=>true
 |t::ts,v::vs=>DE P t v&&fitAll P ts vs
 |_,_=>false
mutual
def AV.vars:AV→List Nat
 | .pv r _=> [r]
 | .fn _ a b=>AV.tw a++AV.tw b
 | .agg cs=>AV.tw cs
 | .undef| .int _ _| .bool _| .kb _| .ki _ _| .nb _| .str _| .nilS| .sl _ _ _| .pe _ _ _ _| .lit _ _| .tup _=> []
def AV.tw:List AV→List Nat
 | []=> []
 |v::vs=>v.vars++AV.tw vs
end
def qx(m3:Bool)(get:Get):AV→List Nat
 | .sl r [] none=>bif m3 then(match get r with
  | .row true _ _=> [r]
  |_=> [])else []
 |_=> []
def aL(get:Get)(r:Nat):List AV:=match get r with
 | .var cs=>cs
 |_=> []
def lP(get:Get):Nat→List Nat→List Nat
 |0,seen=>seen
 |n+1,seen=>lP get n (iv seen (seen.flatMap fun r=>AV.tw (aL get r)))
def xp(L:List Nat)(r:Nat):Path→Option (Nat×Nat)→Option Nat
 | [],none=>idx L 0 r
 |_,_=>none
mutual
def bM(get:Get)(L:List Nat):AV→Nat→List Tst×AV×List ak
 | .int k n,_=>([],.int k n,[])
 | .bool b,_=>([],.bool b,[])
 | .kb b,_=>([],.bool b,[])
 | .ki k n,_=>([],.int k n,[])
 | .str s,_=>([],.str s,[])
 | .nilS,_=>([],.nilS,[])
 | .undef,_=>([],.undef,[])
 | .sl r p sub,b=>match xp L r p sub with
  |some i=>([],.sl i [] none,[])
  |none=>match sliceAt get r p with
   |(ok,⟨e,ys⟩)=>(ok,.sl b [] none,[.row false e (dJ sub ys)])
 | .pv r c,_=>match idx L 0 r with
  |some i=>([],.pv i c,[])
  |none=>([.s false],.undef,[])
 | .fn f x y,b=>match fD get L x b with
  |(ok,x',rx)=>match fD get L y (b+rx.length)with
   |(ok',y',ry)=>(ok++ok',.fn f x' y',rx++ry)
 | .agg cs,b=>match fD get L cs b with
  |(ok,cs',rs)=>(ok,.agg cs',rs)
 | .nb _,_=>([.s false],.undef,[])
 | .pe _ _ _ _,_=>([.s false],.undef,[])
 | .lit r n,_=>match idx L 0 r with
  |some i=>([],.lit i n,[])
  |none=>([.s false],.undef,[])
 | .tup _,_=>([.s false],.undef,[])
def fD(get:Get)(L:List Nat):List AV→Nat→List Tst×List AV×List ak
 | [],_=>([],[],[])
 |v::vs,b=>match bM get L v b with
  |(ok,v',r)=>match fD get L vs (b+r.length)with
   |(ok',vs',rs)=>(ok++ok',v'::vs',r++rs)
end
def fI(get getK:Get)(L:List Nat):List Nat→Nat→List Tst×List ak×List ak
 | [],_=>([],[],[])
 |r::V,b=>match fD getK L (aL get r) b with
  |(ok,cs,rs)=>match fI get getK L V (b+rs.length)with
   |(ok',vr,rs')=>(.s (match get r with
    | .var _=>true
    |_=>false)::(ok++ok'),.var cs::vr,rs++rs')
structure bg where
  lv : List Nat
  ld : List Nat
  ln : List Nat
def bg.all(l:bg):List Nat:=l.lv++(l.ld++l.ln)
def wx(get:Get)(vs:List AV):List Nat:=lP get 4 (iv [] (AV.tw vs))
def vP(m3:Bool)(get:Get)(vs:List AV):List Nat:=(vs.flatMap AV.cells).flatMap (qx m3 get)
def pz(m3:Bool)(get:Get)(lv:List Nat):List Nat:=(lv.flatMap (aL get)).flatMap (qx m3 get)
def j9{R:Type}:List Nat→(List Nat→Option R)→Option R
 | [],k=>k []
 |n::ns,k=>qI n fun n=>j9 ns fun ns=>k (n::ns)
def kE(nV nD n m:Nat):List AV:=
 (List.range nV).map (fun i=> .pv i 0)++((List.range nD).map (fun i=> .sl (nV+i) [] none)++(List.replicate (n-nV-nD) .undef++(List.range m).map (fun i=> .sl (n+i) [] none)))
def dZ(n:Nat)(rs:List ak):AV→Ty
 | .int k _=> .int k
 | .bool _=> .bool
 | .str _=> .str
 | .sl i [] none=>bif Nat.blt i n then(match rs.getD i .dead with
  | .row _ t _=> .sl t
  |_=> .unit)else .unit
 |_=> .unit
def du:ak→List AV
 | .var cs=>cs
 |_=> []
def nF(lo:Nat):AV→AV
 | .sl i [] none=>bif Nat.blt i lo then .sl i [] (some (0,0))else .sl i [] none
 |c=>c
def ca(nV nD:Nat)(rs:List ak):List AV:=
 (List.range nD).map (fun i=> .sl (nV+i) [] none)++((rs.take nV).flatMap du).map (nF (nV+nD))
def iL(nV nD n:Nat)(rs:List ak):List Ty:=(ca nV nD rs).map (dZ n rs)
def rN(nV nD n:Nat)(rs:List ak):Ty:=Ty.all (iL nV nD n rs)
def de(n:Nat)(rs:List ak):List AV→List Nat
 | []=> []
 |c::cs=>match c with
  | .sl i [] none=>bif Nat.blt i n then i::de n rs cs else de n rs cs
  |_=>de n rs cs
mutual
def cp(get:Get)(hs:List AV)(n:Nat):AV→AV→Bool
 | .nilS,.nilS=>true
 | .sl i [] none,.sl r [] none=>Nat.ble n i&&(match hs.getD i .undef with
  | .sl r' [] none=>Nat.beq r' r
  |_=>false)&&(match get r with
  | .row _ _ _=>true
  |_=>false)
 | .pv i c,.pv r c'=>Nat.beq c c'&&(match hs.getD i .undef with
  | .pv r' 0=>Nat.beq r' r
  |_=>false)&&(match get r with
  | .var _=>true
  |_=>false)
 | .fn f a b,.fn f' a' b'=>Nat.beq f f'&&(pL get hs n a a'&&pL get hs n b b')
 |_,_=>false
def pL(get:Get)(hs:List AV)(n:Nat):List AV→List AV→Bool
 | [],[]=>true
 |v::vs,u::us=>cp get hs n v u&&pL get hs n vs us
 |_,_=>false
end
def rd1(get:Get)(t:Ty)(v:AV):List Tst×den t×List Nat:=
 match t with
 | .unit=>([],(),[])
 |t=>match bp get t [v]with
  |(ok,x,_)=>match gives get t [v]with
   |(ok',l,_)=>(ok++ok',x,l)
def ta(get:Get):(tys:List Ty)→List AV→List Tst×den (Ty.all tys)×List Nat
 | [],_=>([],(),[])
 | [t],fin=>rd1 get t (fin.headD .undef)
 |t::u::r,fin=>match rd1 get t (fin.headD .undef)with
  |(ok,x,l)=>match ta get (u::r) fin.tail with
   |(ok',y,l')=>(ok++ok',(x,y),l++l')
def yW(get:Get)(hs:List AV)(i:Nat):AV→Bool
 | .sl r [] none=>(match hs.getD i .undef with
   | .sl r' [] none=>Nat.beq r' r
   |_=>false)&&(match get r with
   | .row _ _ _=>true
   |_=>false)
 |_=>false
def rp(get:Get)(hs:List AV)(n:Nat):List Ty→List AV→List AV→Bool
 | [],_,_=>true
 |t::tys,c,fin=>(match t with
  | .unit=>(match c.headD .undef with
   | .undef=>true
   | .sl i [] (some _)=>yW get hs i (fin.headD .undef)
   |c=>cp get hs n c (fin.headD .undef))
  |_=>true)&&rp get hs n tys c.tail fin.tail
def varsOf(get:Get):List AV→List ak→List Tst×List AV
 | [],[]=>([],[])
 |h::hs,r::rs=>match h with
  | .pv x 0=>match get x with
   | .var cs'=>match varsOf get hs rs with
    |(ok,cs)=>(.s (Nat.beq cs'.length (du r).length)::ok,cs'++cs)
   |_=>([.s false],[])
  |_=>([.s false],[])
 |_,_=>([.s false],[])
def um(P:Program)(f nV nD n:Nat)(rs:List ak)(vs':List AV)(st':St):Option (den (resTy P f)×den (rN nV nD n rs)):=
 match varsOf st'.get (st'.top.take nV) (rs.take nV)with
 |(ok0,fin)=>
  match bp st'.get (resTy P f) (vs'.flatMap AV.cells)with
  |(ok1,y,rest)=>match gives st'.get (resTy P f) (vs'.flatMap AV.cells)with
   |(ok2,l,_)=>
    match ta st'.get (iL nV nD n rs) ((st'.top.drop nV).take nD++fin)with
    |(ok3,x,l')=>
     chk (ok0++(ok1++(ok2++(ok3++ [.s (fitAll P (bE P f) vs'),.s rest.isEmpty,.s (decide (l++l').Nodup),.s (Nat.beq ((st'.top.drop nV).take nD).length nD),
      .s (rp st'.get st'.top n (iL nV nD n rs) (ca nV nD rs) ((st'.top.drop nV).take nD++fin))])))) (some (y,x))
def AV.strip:AV→AV
 | .int k _=> .int k 0
 | .bool _=> .bool false
 | .str _=> .str ByteArray.empty
 |v=>v
def ak.strip:ak→ak
 | .var cs=> .var (cs.map AV.strip)
 | .row rw t _=> .row rw t []
 | .half t _=> .half t []
 | .sh t _=> .sh t []
 |x=>x
def j7{P:Program}(env:Env P)(f nV nD n:Nat)(rs0:List ak)(st:St):Option (den (resTy P f)×den (rN nV nD n rs0)):=
 env.inl f st.top ⟨st.fr.tail,st.rs⟩ fun vs' st'=>um P f nV nD n rs0 vs' st'
def gR:(tys:List Ty)→den (Ty.all tys)→List Cell
 | [],_=> []
 | [t],x=> [⟨t,x⟩]
 |t::u::r,x=>⟨t,x.1⟩::gR (u::r) x.2
def BX(o:AV):Cell→AV
 |⟨.int k,n⟩=> .int k n
 |⟨.bool,b⟩=> .bool b
 |⟨.str,s⟩=> .str s
 |_=>o
def gL:List AV→List Cell→List AV
 |o::os,c::cs=>BX o c::gL os cs
 |os,[]=>os
 | [],_=> []
def fy(n:Nat)(L:List Nat)(rs:List ak):List AV→List Cell→List (Nat×ak)
 |c::cs,b::bs=>(match c,b with
  | .sl i [] none,⟨.sl t,xs⟩=>bif Nat.blt i n then [(L.getD i 0,.row true t xs)]else []
  |_,_=> [])++fy n L rs cs bs
 |_,_=> []
def jW(get:Get):List Nat→List AV→List (Nat×ak)
 | [],_=> []
 |r::V,cs=>(r,.var (cs.take (aL get r).length))::jW get V (cs.drop (aL get r).length)
def ez(n:Nat):List Nat→St→St
 | [],st=>st
 |r::l,st=>ez n l (st.cut (some (r,n)))
def jA(ls:bg)(st:St)(vs:List AV):List Tst×St:=
 match fD (fun r=>bif ls.all.contains r then .dead else st.get r) ls.all vs ls.all.length with
 |(okA,vsS,roA)=>match fI st.get (fun r=>bif ls.all.contains r then .dead else st.get r) ls.all ls.lv (ls.all.length+roA.length)with
  |(okV,vrs,roV)=>(okA++okV,⟨[vsS,kE ls.lv.length ls.ld.length ls.all.length (roA.length+roV.length)],vrs++((ls.ld++ls.ln).map st.get++(roA++roV))⟩)
def vO(ls:bg)(st:St)(rsS:List ak)(cells:List Cell):List (Nat×ak):=
 fy ls.all.length ls.all rsS (ca ls.lv.length ls.ld.length rsS) cells++jW st.get ls.lv (gL (ls.lv.flatMap (aL st.get)) (cells.drop ls.ld.length))
def l6(ls:bg)(st:St)(rsS:List ak)(x:den (rN ls.lv.length ls.ld.length ls.all.length rsS)):St:=
 ⟨(ez 0 ls.ln (ez 1 ls.ld st)).fr,cU (ez 0 ls.ln (ez 1 ls.ld st)).rs (vO ls st rsS (gR (iL ls.lv.length ls.ld.length ls.all.length rsS) x))⟩
def Fg(r:Nat):AV→Bool
 | .sl r' [] none=>Nat.beq r' r
 |_=>false
def E2(m7:Bool)(st:St)(l:List Nat):List Nat:=bif m7 then l.filter (fun r=>(st.fr.getLastD []).any (Fg r))else []
def Fy(m7:Bool)(st:St)(l:List Nat):List Nat:=bif m7 then l.filter (fun r=> !(st.fr.getLastD []).any (Fg r))else l
def ioK{P:Program}{R:Type}(env:Env P)(m3 m7:Bool)(f:Nat)(vs:List AV)(st:St)(K:List AV→St→Option R):Option R:=
 j9 (wx st.get vs) fun lv=>j9 (vP m3 st.get vs++E2 m7 st (pz m3 st.get lv)) fun ld=>j9 (Fy m7 st (pz m3 st.get lv)) fun ln=>
 match jA ⟨lv,ld,ln⟩ st vs with
 |(ok,stS)=>chk (.s (decide (bg.all ⟨lv,ld,ln⟩).Nodup):: .s (a8 st.rs (dL (bg.all ⟨lv,ld,ln⟩)))::
   .s (decide (de (bg.all ⟨lv,ld,ln⟩).length stS.rs (ca lv.length ld.length stS.rs)=List.range' lv.length (ld.length+ln.length)))::ok) (St.force stS fun stS=>qo (stS.rs.map ak.strip) fun rs0=>
  D.bnd (j7 env f lv.length ld.length (bg.all ⟨lv,ld,ln⟩).length rs0 stS) fun yx=>
   St.force (l6 ⟨lv,ld,ln⟩ st rs0 yx.2) fun st2=>
   match eN P true (bE P f) yx.1 st2.rs.length with
   |(vs',rs)=>K vs' {st2 with rs:=cU st2.rs (aj st2.rs.length rs)})
def wK{P:Program}{R:Type}(env:Env P)(f:Nat)(vs:List AV)(st:St)(base:Nat)(K:List AV→List (Nat×ak)→List Nat→List Nat→Option R):Option R:=
 j9 (wx st.get vs) fun lv=>
 match jA ⟨lv,[],[]⟩ st vs with
 |(ok,stS)=>chk (.s (decide (bg.all ⟨lv,[],[]⟩).Nodup):: .s (a8 st.rs (dL (bg.all ⟨lv,[],[]⟩)))::
   .s (decide (de (bg.all ⟨lv,[],[]⟩).length stS.rs (ca lv.length 0 stS.rs)=List.range' lv.length 0))::ok) (St.force stS fun stS=>qo (stS.rs.map ak.strip) fun rs0=>
  D.bnd (j7 env f lv.length 0 (bg.all ⟨lv,[],[]⟩).length rs0 stS) fun yx=>
   match eN P true (bE P f) yx.1 base with
   |(vs',rs)=>K vs' (vO ⟨lv,[],[]⟩ st rs0 (gR (iL lv.length 0 (bg.all ⟨lv,[],[]⟩).length rs0) yx.2)++aj base rs)
     (AV.ah vs++(lv++AV.ah (lv.flatMap (aL st.get)))) lv)
def B4(vs:List AV):List Nat:=iv [] (vs.flatMap fun v=>match v with
 | .lit r _=> [r]
 |_=> [])
def ioC{P:Program}{R:Type}(env:Env P)(f:Nat)(vs:List AV)(st:St)(base:Nat)(K:List AV→List (Nat×ak)→List Nat→List Nat→Option R):Option R:=
 j9 (B4 vs) fun lv=>j9 (vP true st.get vs++pz true st.get lv) fun ln=>
 match jA ⟨lv,[],ln⟩ st vs with
 |(ok,stS)=>chk (.s (decide (bg.all ⟨lv,[],ln⟩).Nodup):: .s (a8 st.rs (dL (bg.all ⟨lv,[],ln⟩)))::ok) (St.force stS fun stS=>qo (stS.rs.map ak.strip) fun rs0=>
  D.bnd (j7 env f 0 0 (bg.all ⟨lv,[],ln⟩).length rs0 stS) fun yx=>
   match eN P true (bE P f) yx.1 base with
   |(vs',rs)=>K vs' (cH (bg.all ⟨lv,[],ln⟩)++aj base rs)
     (AV.ah vs++(lv++AV.ah (lv.flatMap (aL st.get)))) (bg.all ⟨lv,[],ln⟩))
def ioD{P:Program}{R:Type}(m:Nat)(env:Env P)(f:Nat)(vs:List AV)(st:St)(base:Nat)(K:List AV→List (Nat×ak)→List Nat→List Nat→Option R):Option R:=
 bif Nat.beq m 5 then ioC env f vs st base K else wK env f vs st base K
def Hk(get:Get):AV→Bool
 | .sl r (_::_) _=>(match get r with
  | .row true _ _=>true
  |_=>false)
 |_=>false
def bc(get:Get)(m:Nat)(vs:List AV):Bool:=Nat.beq m 7||(Nat.ble 3 m&&Nat.ble m 4&& !(Nat.beq m 3&&(vs.flatMap AV.cells).any (Hk get)))
def AH{a b:Ty}(h:a=b)(x:Option (den a)):Option (den b):=h▸x
def q9{P:Program}(env:Env P)(g:Nat)(t:Ty)(xs:List (den t)):Option (List (den t)):=
 match decEq (eH P g) (.pair t t),decEq (resTy P g) (.int .i64)with
 | .isTrue h1,.isTrue h2=>D.srt (fun a b=>AH h2 (env.pc g (nE h1.symm (a,b)))) xs
 |_,_=>none
def o9(P:Program)(g:Nat)(t:Ty):Bool:=match dV P g,bE P g with
 | [a,b],[c]=>(match P.funcs[g]? with
  |some fn=> !(fn.name== "runtime.NumGoroutine")
  |none=>false)&&(kj P a&&(kj P b&& !kj P c)&&decide (tyD P a=t∧tyD P b=t))
 |_,_=>false
def xI{P:Program}{R:Type}(env:Env P)(f:Nat)(vs:List AV)(st:St)(K:List AV→St→Option R):Option R:=
 match vs with
 | [.sl r [] none,.fn g [] []]=>(match st.get r with
  | .row true t xs=>env.srt f t.size (chk [.s (a8 st.rs (dL [r])),.s (o9 P g t)] (D.bnd (q9 env g t xs) fun ys=>
    St.force ⟨(st.cut (some (r,1))).fr,cU (st.cut (some (r,1))).rs [(r,.row true t ys)]⟩ fun st=>K [] st))
  |_=>none)
 |_=>none
def BR{R:Type}(f:Nat)(vs:List AV)(st:St)(K:List AV→St→Option R):Option R:=
 bif Nat.beq (cfg.mode f) 8 then xI env f vs st K else
 bif bc st.get (cfg.mode f) vs then ioK env (Nat.beq (cfg.mode f) 3||Nat.beq (cfg.mode f) 7) (Nat.beq (cfg.mode f) 7) f vs st K else env.inl f vs st K
def qU(f:Nat)(vs:List AV)(base:Nat):List AV×List ak:=
 bif Nat.beq (cfg.mode f) 2||Nat.beq (cfg.mode f) 5 then(vs,[])else ru P (dV P f) vs base
def tX(get:Get)(vs:List AV):List Nat:=(iv [] (AV.ah vs++gB get (vs.flatMap AV.cells))).filter fun r=>match get r with
 | .row false _ _=>false
 | .dead=>false
 |_=>true
def B7:ak→Bool
 | .row true _ _=>true
 | .sh _ _=>true
 | .var _=>true
 |_=>false
def ioS{P:Program}{R:Type}(env:Env P)(f:Nat)(vs:List AV)(st:St)(K:List AV→St→Option R):Option R:=
 j9 (tX st.get vs) fun L=>
 match fT st.get (eH P f) (vs.flatMap AV.cells)with
 |(ok,x,rest)=>chk (.s (fitAll P (dV P f) vs):: .s rest.isEmpty:: .s (a8 st.rs (dL L)):: .s (L.all fun r=>B7 (st.get r))::ok) (D.bnd (env.ps f x) fun y=>
   match eN P false (bE P f) y st.rs.length with
   |(vs',rs)=>K vs' {st with rs:=cU st.rs (cH L++aj st.rs.length rs)})
def qW(base:Nat)(dr:Bool)(o:Oper)(c:Call)(st:St)(K:Touch→St→Option R):Option R:=
 match c.callee with
 | .builtin _=>yQ o (o.op.operands.toList.map (an st)) (aP P o (o.op.operands.toList.map (an st)) st.get base) st K
 | .invoke _ _=>none
 | .value x=>match an st x with
  | .fn f first cap=>
   bif Nat.beq (cfg.mode f) 0 then
    match first,cap with
    | [],[]=>
     match fT st.get (eH P f) ((c.args.toList.map (an st)).flatMap AV.cells)with
     |(ok,x,rest)=>chk (.s (fitAll P (dV P f) (c.args.toList.map (an st))):: .s rest.isEmpty::ok) (D.bnd (env.pc f x) fun r=>
      match eN P true (bE P f) r base with
      |(vs,rs)=>St.force ({st with rs:=cU st.rs (aj base rs)}.put o.dst (tG vs))
        (K ⟨AV.ah (c.args.toList.map (an st))++gB st.get ((c.args.toList.map (an st)).flatMap AV.cells),(aj base rs).map (·.1),jk st (aj base rs),false⟩))
    |_,_=>none
   else bif Nat.beq (cfg.mode f) 6 then(bif dr then none else match first,cap with
    | [],[]=>ioS env f (c.args.toList.map (an st)) st fun vs st'=>St.force (st'.put o.dst (tG vs)) (K ⟨[],[],[],true⟩)
    |_,_=>none)
   else bif dr then(bif Nat.ble 4 (cfg.mode f)then
     ioD (cfg.mode f) env f (first++c.args.toList.map (an st)++cap) st base fun vs upd rd qu=>
      j9 rd fun rd=>j9 (upd.map (·.1)) fun wr=>j9 (qu++jk st upd) fun qu=>
      St.force ({st with rs:=cU st.rs upd}.put o.dst (tG vs)) (K ⟨rd,wr,qu,false⟩)
    else none)else
    match qU P cfg f (first++c.args.toList.map (an st)++cap) st.rs.length with
    |(vs,rs)=>BR P cfg env f vs {st with rs:=st.rs++rs} fun vs st'=>St.force (st'.put o.dst (tG vs)) (K ⟨[],[],[],true⟩)
  |_=>none
def px(base:Nat)(dr:Bool)(o:Oper)(st:St)(K:Touch→St→Option R):Option R:=
 match o.op with
 | .call c=>bif (gX P c).isSome then yQ o (o.op.operands.toList.map (an st)) (aP P o (o.op.operands.toList.map (an st)) st.get base) st K else qW P cfg env base dr o c st K
 |_=>yQ o (o.op.operands.toList.map (an st)) (aP P o (o.op.operands.toList.map (an st)) st.get base) st K
def opK(base:Nat)(dr:Bool)(o:Oper)(st:St)(K:Touch→St→Option R):Option R:=
 bif dr then px P cfg env base dr o st K else match zg P o (o.op.operands.toList.map (evK st)) st.get with
 |some out=>yQ o (o.op.operands.toList.map (an st)) out st K
 |none=>px P cfg env base dr o st K
def EC(a b:List Nat):Bool:=a.all fun x=> !b.contains x
def indep(a b:Touch):Bool:=
 !a.alone&& !b.alone&&EC a.writes b.reads&&EC a.writes b.writes&&EC a.reads b.writes&&EC a.quiet b.quiet
def lD(ops:Array Oper)(bf:List Nat):List (Nat×Touch)→Bool
 | []=>true
 |(j,t)::r=>(r.all fun x=>(bf.getD j 0).testBit x.1||
   (indep t x.2&&(match ops[x.1]?,ops[j]? with
    |some a,some b=>Oper.apart ops a b
    |_,_=>false)))&&lD ops bf r
def tY(b0:Nat)(bf:List Nat)(tr:List (Nat×Touch)):Bool:=
 tr.all fun x=>x.2.writes.all fun r=>Nat.blt r b0||((Nat.ble (b0+16*x.1) r&&Nat.blt r (b0+16*x.1+16))||
  (Nat.blt r (b0+16*x.1)&&(bf.getD x.1 0).testBit ((r-b0)/16)))
def np(b0:Option Nat)(i:Nat)(st:St):Nat:=match b0 with
 |none=>st.rs.length
 |some b=>b+16*i
def nk(ops:Array Oper)(i:Nat):Bool:=ops.toList.any fun o=>match o.guard with
 |some (j,_)=>Nat.beq j i
 |none=>false
def iT(ops:Array Oper)(i:Nat)(o:Oper)(st:St)(K:St→Option R):Option R:=
 match o.dst with
 |none=>K st
 |some d=>match st.top.getD d .undef with
  | .bool b=>bif nk ops i then D.test b (K (st.put (some d) (.kb true))) (K (st.put (some d) (.kb false)))else K st
  |_=>K st
def fG:Touch:=⟨[],[],[],false⟩
def jg(b0:Option Nat)(ops:Array Oper)(i:Nat)(st:St)(K:Touch→St→Option R):Option R:=
 match ops[i]? with
 |none=>none
 |some o=>
  match o.guard with
  |none=>opK P cfg env (np b0 i st) b0.isSome o st fun t st=>iT ops i o st (K t)
  |some (j,want)=>match (ops[j]?).bind (·.dst)with
   |none=>none
   |some d=>match st.top.getD d .undef with
    | .kb b=>bif b==want then opK P cfg env (np b0 i st) b0.isSome o st fun t st=>iT ops i o st (K t)else St.force (st.put o.dst (.tup [])) (K fG)
    | .tup _=>St.force (st.put o.dst (.tup [])) (K fG)
    |_=>none
def eL(b0:Option Nat)(ops:Array Oper):List Nat→List (Nat×Touch)→St→(List (Nat×Touch)→St→Option R)→Option R
 | [],tr,st,K=>K tr st
 |i::rest,tr,st,K=>jg P cfg env b0 ops i st fun t st=>eL b0 ops rest ((i,bif b0.isSome then t else fG)::tr) st K
def lN(ops:Array Oper):Bool:=(List.range ops.size).all fun i=>match ops[i]? with
 |some o=>o.after.toList.all fun e=> !Region.binds .any e||Nat.blt e.on i
 |none=>true
def key:Code→Nat
 | .region id _ _=>2*id
 | .cond (.tmp t) _ _=>2*t+1
 | .seq a _=>key a
 | .block _ c=>key c
 | .loop c=>key c
 | .scope c=>key c
 |_=>far
abbrev cS(R:Type):=Ex→St→Option R
def qe(next:St→cS R→Option R)(K:cS R):cS R:=fun e st=>match e with
 | .normal=>next st K
 | .exit i=>K (.exit i) st
 | .ret=>K .ret st
def cP(id:Nat)(K:cS R):cS R:=fun e st=>match e with
 | .normal=>K .normal st
 | .exit i=>bif Nat.beq i id then K .normal st else K (.exit i) st
 | .ret=>K .ret st
def gI(h:Option (List Nat))(F:St→Option R)(st:St):Option R:=match h with
 |some live=>St.force (st.canon live) (D.jn F)
 |none=>F st
def jC(F:St→cS R→Option R)(h:Option (List Nat)):Nat→St→cS R→Option R
 |0,_,_=>none
 |n+1,st,K=>F st (qe (fun st' K=>gI h (fun st''=>jC F h n st'' K) st') K)
def uB(F:St→Option R):cS R:=fun e st=>match e with
 | .normal=>F st
 | .exit _=>none
 | .ret=>F st
def cQ:Code→Bool
 | .seq a b=>cQ a&&cQ b
 | .cond _ a b=>cQ a&&cQ b
 | .block _ c=>cQ c
 | .loop c=>cQ c
 | .rangeFunc _ _ _ _=>false
 |_=>true
def vC(o:Oper)(t:Nat):Bool:=match o.dst with
 |some d=>Nat.beq d t
 |none=>false
def Eo(o:Oper):Option Nat:=match o.op,o.dst,o.guard with
 | .move (.tmp 0),some t,none=>some t
 |_,_,_=>none
def E3(o:Oper):Option (Nat×Nat×Array Operand):=match o.op,o.dst,o.guard with
 | .call c,some v,none=>match c.callee with
  | .value (.tmp t)=>some (v,t,c.args)
  |_=>none
 |_,_,_=>none
def G9(o:Oper):Option (Nat×Nat):=match o.op,o.dst,o.guard with
 | .unOp .not _ (.tmp v),some d,none=>some (d,v)
 |_,_,_=>none
def BS(ops:Array Oper)(t i:Nat):Bool:=match ops[i]? with
 |some o=> !(vC o 0)&& !(vC o t)
 |none=>false
def rO:Code→Code→Option (Array Oper×Nat×Array Operand×Nat×Nat)
 | .region _ ops false,.cond (.tmp d) .ret .skip=>
  match (ops[0]?).bind Eo,(ops[ops.size-2]?).bind E3,(ops[ops.size-1]?).bind G9 with
  |some t,some (v,t',args),some (d',v')=>
   bif Nat.ble 3 ops.size&&(Nat.beq t t'&&(Nat.beq v v'&&(Nat.beq d d'&&(!(Nat.beq t 0)&&(!(Nat.beq v 0)&&(!(Nat.beq d 0)&&
    (List.range' 1 (ops.size-3)).all (BS ops t)))))))then some (ops,t,args,v,d)else none
  |_,_,_=>none
 |_,_=>none
def Co(hand:List AV→St→(St→Option R)→Option R)(N:Nat)(u:Array Oper×Nat×Array Operand×Nat×Nat)(st:St)(K:cS R):Option R:=
 match u with
 |(ops,t,args,v,d)=>bif Nat.blt t N&&(Nat.blt v N&&Nat.blt d N)then St.force (st.put (some t) .undef) fun st=>
  eL P cfg env none ops (List.range' 1 (ops.size-3)) [] st fun _ st=>
   hand (args.toList.map (an st)) st fun st=>St.force ((st.put (some v) (.kb true)).put (some d) (.kb false)) fun st=>K .normal st
  else none
def fF(hand:List AV→St→(St→Option R)→Option R)(N kl fid:Nat):Code→St→cS R→Option R
 | .skip,st,K=>K .normal st
 | .region _ ops draw,st,K=>bif !draw&&ops.toList.all (fun o=> !(vC o 0))then eL P cfg env none ops (List.range ops.size) [] st fun _ st=>K .normal st else none
 | .seq a b,st,K=>match rO a b with
  |some u=>Co P cfg env hand N u st K
  |none=>fF hand N kl fid a st (qe (fun st K=>gI (cfg.joins fid (key b)) (fun st=>fF hand N kl fid b st K) st) K)
 | .cond c x y,st,K=>match an st c with
  | .bool b=>D.test b (fF hand N kl fid x st K) (fF hand N kl fid y st K)
  | .kb b=>bif b then fF hand N kl fid x st K else fF hand N kl fid y st K
  |_=>none
 | .block id c,st,K=>fF hand N kl fid c st (cP id K)
 | .loop c,st,K=>gI (cfg.loops fid (key c)) (fun st=>jC (fun st K=>fF hand N kl fid c st K) (cfg.loops fid (key c)) kl st K) st
 | .exit id,st,K=>K (.exit id) st
 | .ret,st,K=>K .ret st
 |_,_,_=>none
def iM(fn:Func)(args:List AV):List AV:=args++List.replicate (fn.ntmps-args.length) (.tup [])
def uu(ps:Array Tmp)(vs:List AV)(f:List AV):List AV:=(ps.toList.zip vs).foldl (fun f x=>f.set x.1 x.2) f
def EK(Kgo:St→Option R)(KX:cS R):cS R:=fun e st=>match e with
 | .normal=>Kgo ⟨st.fr.tail,st.rs⟩
 | .exit i=>KX (.exit i) ⟨st.fr.tail.tail,st.rs⟩
 | .ret=>KX .ret ⟨st.fr.tail.tail,st.rs⟩
def HG(F:St→Option R):cS R:=fun e st=>match e with
 | .normal=>F st
 | .exit _=>none
 | .ret=>none
def rf(FA FB:St→cS R→Option R)(ps:Array Tmp)(KX:cS R)(vs:List AV)(st:St)(Kgo:St→Option R):Option R:=
 match st.fr with
 |it::top::rest=>bif Nat.beq vs.length ps.size then
   St.force ⟨uu ps vs top::it::top::rest,st.rs⟩ fun st=>FA st (HG fun st=>FB st (EK Kgo KX))
  else none
 |_=>none
def St.nU(st:St):Option (List Nat)→St
 |some live=>st.dh live
 |none=>st
def isFull(bf:List Nat)(i:Nat):Bool:=(List.range i).all fun j=>(bf.getD i 0).testBit j
def gD(bf:List Nat):Nat→Nat
 |0=>0
 |n+1=>bif isFull bf n then gD bf n else n+1
def exec(kl fid:Nat):Code→St→cS R→Option R
 | .skip,st,K=>K .normal st
 | .region _ ops draw,st,K=>
  bif draw then qI st.rs.length fun b0=>j9 (Region.before ops).toList fun bf=>qI (gD bf ops.size) fun m=>
   eL P cfg env (some b0) ops (List.range m) [] st fun tr st=>bif lD ops bf tr&&(tY b0 bf tr&&lN ops)then
    eL P cfg env none ops (List.range' m (ops.size-m)) [] st fun _ st=>K .normal st else none
  else eL P cfg env none ops (List.range ops.size) [] st fun _ st=>K .normal st
 | .seq a b,st,K=>exec kl fid a st (qe (fun st K=>gI (cfg.joins fid (key b)) (fun st=>exec kl fid b st K) st) K)
 | .cond c x y,st,K=>match an st c with
  | .bool b=>D.test b (exec kl fid x st K) (exec kl fid y st K)
  | .kb b=>bif b then exec kl fid x st K else exec kl fid y st K
  | .nb n=>bif Nat.beq (cfg.mode fid) 0 then D.test (D.eqN n 0) (D.both (exec kl fid x st K) (exec kl fid y st K)) (exec kl fid y st K)else none
  |_=>none
 | .block id c,st,K=>exec kl fid c st (cP id K)
 | .loop c,st,K=>gI (cfg.loops fid (key c)) (fun st=>jC (fun st K=>exec kl fid c st K) (cfg.loops fid (key c)) kl st K) st
 | .exit id,st,K=>K (.exit id) st
 | .ret,st,K=>K .ret st
 | .rangeFunc h ps x y,st,K=>bif cQ x&&cQ y then match an st h with
   | .fn f [] cap=>match P.funcs[f]? with
    |none=>none
    |some fn=>match fn.body with
     |none=>none
     |some c=>bif fn.results.isEmpty then St.force ⟨iM fn (.undef::cap)::(st.nU (cfg.loops fid (far+key y))).fr,st.rs⟩ fun st=>
      fF P cfg env (rf (fun st K=>exec kl fid x st K) (fun st K=>exec kl fid y st K) ps K) fn.ntmps kl f c st (uB fun st=>K .normal ⟨st.fr.tail,st.rs⟩)
      else none
   |_=>none
  else none
 |_,_,_=>none
end run
def nW(P:Program)(st:St):ResultVar→List Tst×AV
 | .tmp t=>([],an st (.tmp t))
 | .cell a t=>((fg P t (st.top.getD a .undef) st.get).ok,(fg P t (st.top.getD a .undef) st.get).v)
def sf(P:Program)(fn:Func)(st:St):List Tst×List AV:=
 ((fn.results.toList.map (nW P st)).flatMap (·.1),(fn.results.toList.map (nW P st)).map (·.2))
def finish(P:Program)(f:Nat)(fn:Func)(st:St):Option (den (resTy P f)):=
 match sf P fn st with
 |(ok,vs)=>match bp st.get (resTy P f) (vs.flatMap AV.cells)with
  |(ok1,x,rest)=>match gives st.get (resTy P f) (vs.flatMap AV.cells)with
   |(ok2,l,_)=>chk (ok++ok1++ok2++ [.s (fitAll P (bE P f) vs),.s rest.isEmpty,.s (decide l.Nodup)]) (some x)
def tQ(P:Program)(f:Nat)(fn:Func)(st:St):Option (den (resTy P f)):=
 match sf P fn st with
 |(ok,vs)=>match fT st.get (resTy P f) (vs.flatMap AV.cells)with
  |(ok1,x,rest)=>chk (ok++ok1++ [.s (fitAll P (bE P f) vs),.s rest.isEmpty]) (some x)
def yd{R:Type}(o:Option Nat)(n:Nat)(x:Option R):Option R:=match o with
 |some m=>bif Nat.beq m n then x else none
 |none=>none
structure Ext (P : Program) where
  fn : (f : Nat) → Option (den (eH P f) → Option (den (resTy P f)))
  srt : Nat → Option Nat
def yD(P:Program)(cfg:Cfg)(E:Ext P)(env:Env P)(k f:Nat)(x:den (eH P f)):Option (den (resTy P f)):=
 match E.fn f with
 |some g=>g x
 |none=>match P.funcs[f]? with
  |none=>none
  |some fn=>match fn.body with
   |none=>none
   |some c=>
    match eN P false (dV P f) x 0 with
    |(vs,rs)=>St.force {fr:= [iM fn vs],rs:=rs} fun st=>exec P cfg env k f c st (uB (finish P f fn))
def Fw(P:Program)(cfg:Cfg)(env:Env P)(k f:Nat)(x:den (eH P f)):Option (den (resTy P f)):=
 bif Nat.beq (cfg.mode f) 6 then
  match P.funcs[f]? with
  |none=>none
  |some fn=>match fn.body with
   |none=>none
   |some c=>match eN P false (dV P f) x 0 with
    |(vs,rs)=>St.force {fr:= [iM fn vs],rs:=rs} fun st=>exec P cfg env k f c st (uB (tQ P f fn))
 else none
def kF{R:Type}(P:Program)(fn:Func)(K:List AV→St→Option R)(st:St):Option R:=
 match sf P fn st with
 |(ok,vs)=>chk ok (K vs {st with fr:=st.fr.tail})
def rG(P:Program)(cfg:Cfg)(env:Env P)(k:Nat){R:Type}(f:Nat)(args:List AV)(st:St)(K:List AV→St→Option R):Option R:=
 bif Nat.beq (cfg.mode f) 0 then none else
 match P.funcs[f]? with
 |none=>none
 |some fn=>match fn.body with
  |none=>none
  |some c=>St.force {st with fr:=iM fn args::st.fr} fun st=>exec P cfg env k f c st (uB (kF P fn K))
def th(P:Program)(cfg:Cfg)(E:Ext P):Nat→Env P
 |0=>⟨fun _ _=>none,fun _ _=>none,fun _ _ _ _=>none,fun _ _ _=>none⟩
 |k+1=>⟨fun f x=>yD P cfg E (th P cfg E k) k f x,fun f x=>Fw P cfg (th P cfg E k) k f x,fun f args st K=>rG P cfg (th P cfg E k) k f args st K,fun f n x=>yd (E.srt f) n x⟩
def yR(P:Program)(cfg:Cfg)(E:Ext P)(k f:Nat)(x:den (eH P f)):Option (den (resTy P f)):=(th P cfg E k).pc f x
end Go.Am
end
section
/- The abstract machine: functions of Go's library that are not walked: what they make of data. -/
noncomputable section
namespace Go.Am
inductive Lk where
  | join | itoa | rep | cmp
def sg(xs:List ByteArray)(sep:ByteArray):Option ByteArray:=
 if xs.length≤140737488355328∧(Lib.join (xs.map (·.data.toList)) sep.data.toList).length≤140737488355328 then
  some ⟨(Lib.join (xs.map (·.data.toList)) sep.data.toList).toArray⟩else none
def sH(n:Int):Option ByteArray:=if 0≤n∧n<100 then some ⟨(Lib.decDigits n.toNat).toArray⟩else none
def xa(s:ByteArray)(c:Int):Option ByteArray:=
 if 0≤c∧c≤9223372036854775807∧s.size*c.toNat≤140737488355328 then some ⟨(Lib.repeatL s.data.toList c.toNat).toArray⟩else none
def Eh(a b:ByteArray):Option Int:=some (Lib.compareBytes a.data.toList b.data.toList)
def sC:Lk→List Ty×List Ty
 | .join=>([.sl .str,.str],[.str])
 | .itoa=>([.int .i64],[.str])
 | .rep=>([.str,.int .i64],[.str])
 | .cmp=>([.str,.str],[.int .i64])
def yV(P:Program)(k:Lk)(ts us:List TypeId):Bool:=
 decide (ts.map (tyD P)=(sC k).1)&&(decide (us.map (tyD P)=(sC k).2)&&(ts.all (fun t=> !kj P t)&&us.all (fun t=> !kj P t)))
def pP:(k:Lk)→(t u:Ty)→Option (den t→Option (den u))
 | .join,.pair (.sl .str) .str,.str=>some fun x=>sg x.1 x.2
 | .itoa,.int .i64,.str=>some fun x=>sH x
 | .rep,.pair .str (.int .i64),.str=>some fun x=>xa x.1 x.2
 | .cmp,.pair .str .str,.int .i64=>some fun x=>Eh x.1 x.2
 |_,_,_=>none
def Fx(P:Program)(lib:Nat→Option Lk)(srt:Nat→Option Nat):Ext P:=⟨fun f=>match lib f with
 |some k=>bif yV P k (dV P f) (bE P f)then pP k (eH P f) (resTy P f)else none
 |none=>none,srt⟩
end Go.Am
end
