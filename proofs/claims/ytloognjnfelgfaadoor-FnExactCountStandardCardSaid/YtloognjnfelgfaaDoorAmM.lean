/- The machine: an executor of code over data, by symbols; nothing is proved here but small facts of its parts. -/
import Derived.Calls
import Derived.KernelRfl
import Derived.Laws.Sem
import Derived.Orders
import Derived.Lib.Join
import Derived.Lib.Repeat
import Derived.Lib.ItoaNum
import Derived.Lib.Bytealg
set_option linter.unusedSimpArgs false
set_option linter.unusedVariables false
set_option linter.unnecessarySimpa false
set_option linter.unusedSectionVars false
section
/- The abstract machine, first part: typed trees, abstract values, states. -/
noncomputable section
namespace Go.Am
class D where
  rd : {α : Type} → (xs : List α) → (i : Nat) → (d : α) → α
  len : {α : Type} → (xs : List α) → Nat
  lenI : {α : Type} → (xs : List α) → Int
  app : {α : Type} → (xs : List α) → (ys : List α) → List α
  set : {α : Type} → (xs : List α) → (i : Nat) → (x : α) → List α
  take : {α : Type} → (n : Nat) → (xs : List α) → List α
  drop : {α : Type} → (n : Nat) → (xs : List α) → List α
  rep : {α : Type} → (n : Nat) → (x : α) → List α
  test : {α : Type} → (b : Bool) → (x : Option α) → (y : Option α) → Option α
  bnd : {α : Type} → {β : Type} → (x : Option α) → (f : α → Option β) → Option β
  both : {α : Type} → (x : Option α) → (y : Option α) → Option α
  jn : {α : Type} → {β : Type} → (F : α → Option β) → (x : α) → Option β
  sel : {α : Type} → (b : Bool) → (x : α) → (y : α) → α
  no : (b : Bool) → Bool
  wrap : (k : IntKind) → (n : Int) → Int
  add : (a : Int) → (b : Int) → Int
  sub : (a : Int) → (b : Int) → Int
  mul : (a : Int) → (b : Int) → Int
  quo : (a : Int) → (b : Int) → Int
  rem : (a : Int) → (b : Int) → Int
  ofN : (n : Nat) → Int
  nat : (n : Int) → Nat
  addN : (a : Nat) → (b : Nat) → Nat
  subN : (a : Nat) → (b : Nat) → Nat
  eq : (a : Int) → (b : Int) → Bool
  lt : (a : Int) → (b : Int) → Bool
  le : (a : Int) → (b : Int) → Bool
  eqB : (a : Bool) → (b : Bool) → Bool
  ltN : (a : Nat) → (b : Nat) → Bool
  leN : (a : Nat) → (b : Nat) → Bool
  eqN : (a : Nat) → (b : Nat) → Bool
  eqP : (p : List (Nat × Nat)) → (q : List (Nat × Nat)) → Bool
  or2 : (a : Bool) → (b : Bool) → Bool
  eqS : (a : ByteArray) → (b : ByteArray) → Bool
  ltS : (a : ByteArray) → (b : ByteArray) → Bool
  catS : (a : ByteArray) → (b : ByteArray) → ByteArray
  lenS : (s : ByteArray) → Nat
  cutS : (s : ByteArray) → (l : Nat) → (h : Nat) → ByteArray
  byte : (s : ByteArray) → (i : Nat) → Int
  ofInts : (xs : List Int) → ByteArray
  ints : (s : ByteArray) → List Int
  andI : (k : IntKind) → (a : Int) → (b : Int) → Int
  orI : (k : IntKind) → (a : Int) → (b : Int) → Int
  xorI : (k : IntKind) → (a : Int) → (b : Int) → Int
  andNI : (k : IntKind) → (a : Int) → (b : Int) → Int
  shlI : (k : IntKind) → (a : Int) → (b : Int) → Int
  shrI : (k : IntKind) → (a : Int) → (b : Int) → Int
  srt : {α : Type} → (f : α → α → Option Int) → (xs : List α) → Option (List α)
def lF{α:Type}(f:α→α→Option Int)(a b:α):Prop:=(f a b).getD 0<0
def mZ{α:Type}(f:α→α→Option Int)(xs ys:List α):Prop:=
 ys.Perm xs∧ ∀(i j:Nat) (a b:α),i<j→ys[i]?=some a→ys[j]?=some b→ ¬lF f b a
def A6{α:Type}(f:α→α→Option Int)(xs:List α):Prop:=
 xs.length<4611686018427387904∧(∀a∈xs,∀b∈xs,(f a b).isSome=true)∧(∀a∈xs,¬lF f a a)∧(∀a∈xs,∀b∈xs,∀c∈xs,lF f a b→lF f b c→lF f a c)∧
 (∀a∈xs,∀b∈xs,∀c∈xs,¬lF f a b→ ¬lF f b c→ ¬lF f a c)∧ ∃ys,mZ f xs ys∧ ∀zs,mZ f xs zs→zs=ys
open Classical in
noncomputable def CY{α:Type}(f:α→α→Option Int)(xs:List α):Option (List α):=
 if h:A6 f xs then some (Classical.choose h.2.2.2.2.2)else none
theorem rK{α:Type}{f:α→α→Option Int}{xs ys:List α}(h:CY f xs=some ys):A6 f xs∧mZ f xs ys∧ ∀zs,mZ f xs zs→zs=ys:=by
 unfold CY at h
 split at h
 ·next h'=>
  cases h
  exact⟨h',Classical.choose_spec h'.2.2.2.2.2⟩
 ·cases h
open Classical in
noncomputable def ways{α:Type}(x y:Option α):Option α:=if x=y then x else none
theorem CK{α:Type}{x y:Option α}{r:α}(h:ways x y=some r):x=some r∧y=some r:=by
 unfold ways at h
 split at h
 ·next e=>exact⟨h,e▸h⟩
 ·cases h
theorem Dh{α:Type}(x:Option α):ways x x=x:=by simp[ways]
@[reducible] noncomputable def D.real : D where
  rd := fun {_} xs i d => xs.getD i d
  len := fun {_} xs => xs.length
  lenI := fun {_} xs => (xs.length : Int)
  app := fun {_} xs ys => xs ++ ys
  set := fun {_} xs i x => xs.set i x
  take := fun {_} n xs => xs.take n
  drop := fun {_} n xs => xs.drop n
  rep := fun {_} n x => List.replicate n x
  test := fun {_} b x y => if b = true then x else y
  bnd := fun {_} {_} x f => x.bind f
  both := fun {_} x y => ways x y
  jn := fun {_} {_} F x => F x
  sel := fun {_} b x y => if b = true then x else y
  no := fun b => !b
  wrap := fun k n => k.wrap n
  add := fun a b => a + b
  sub := fun a b => a - b
  mul := fun a b => a * b
  quo := fun a b => a.tdiv b
  rem := fun a b => a.tmod b
  ofN := fun n => (n : Int)
  nat := fun n => n.toNat
  addN := fun a b => a + b
  subN := fun a b => a - b
  eq := fun a b => decide (a = b)
  lt := fun a b => decide (a < b)
  le := fun a b => decide (a ≤ b)
  eqB := fun a b => a == b
  ltN := fun a b => decide (a < b)
  leN := fun a b => decide (a ≤ b)
  eqN := fun a b => decide (a = b)
  eqP := fun p q => decide (p = q)
  or2 := fun a b => a || b
  eqS := fun a b => a.toList == b.toList
  ltS := fun a b => Op.bytesLess a.toList b.toList
  catS := fun a b => a ++ b
  lenS := fun s => s.size
  cutS := fun s l h => s.extract l h
  byte := fun s i => ((s.data.getD i 0).toNat : Int)
  ofInts := fun xs => ⟨(xs.map fun n => UInt8.ofNat n.toNat).toArray⟩
  ints := fun s => s.data.toList.map fun b => (b.toNat : Int)
  andI := fun k a b => k.wrap (BitVec.ofInt k.bits a &&& BitVec.ofInt k.bits b).toNat
  orI := fun k a b => k.wrap (BitVec.ofInt k.bits a ||| BitVec.ofInt k.bits b).toNat
  xorI := fun k a b => k.wrap (BitVec.ofInt k.bits a ^^^ BitVec.ofInt k.bits b).toNat
  andNI := fun k a b => k.wrap (BitVec.ofInt k.bits a &&& ~~~(BitVec.ofInt k.bits b)).toNat
  shlI := fun k a b => k.wrap (a * 2 ^ min b.toNat k.bits)
  shrI := fun k a b => a.fdiv (2 ^ min b.toNat k.bits)
  srt := fun {_} f xs => CY f xs
class DJ [D] : Prop where
  jn_eq : ∀ {α β : Type} (F : α → Option β) (x : α), D.jn F x = F x
variable [D]
inductive Tst where
  | s (b : Bool) | d (b : Bool)
inductive Ty where
  | int (k : IntKind) | bool | str | sl (e : Ty) | pair (a b : Ty) | unit
  deriving DecidableEq
@[reducible] def den : Ty → Type
  | .int _ => Int
  | .bool => Bool
  | .str => ByteArray
  | .sl e => List (den e)
  | .pair a b => den a × den b
  | .unit => Unit
def Ty.size:Ty→Nat
 | .pair a b=>a.size+b.size
 | .unit=>0
 |_=>1
def bh:(t:Ty)→den t
 | .int _=>(0:Int)
 | .bool=>false
 | .str=>ByteArray.empty
 | .sl _=> []
 | .pair a b=>(bh a,bh b)
 | .unit=>()
def Ty.flat:Ty→Bool
 | .sl _=>false
 | .pair a b=>a.flat&&b.flat
 |_=>true
def Ty.all:List Ty→Ty
 | []=> .unit
 | [t]=>t
 |t::u::r=> .pair t (Ty.all (u::r))
abbrev Path:=List (Nat×Nat)
inductive AV where
  | undef
  | int (k : IntKind) (n : Int)
  | bool (b : Bool)
  | kb (b : Bool)
  | ki (k : IntKind) (n : Int)
  | nb (n : Nat)
  | str (s : ByteArray)
  | nilS
  | sl (r : Nat) (p : Path) (sub : Option (Nat × Nat))
  | pv (r c : Nat)
  | pe (r : Nat) (p : Path) (i f : Nat)
  | lit (r n : Nat)
  | fn (f : Nat) (first cap : List AV)
  | agg (cs : List AV)
  | tup (vs : List AV)
inductive ak where
  | dead
  | var (cs : List AV)
  | row (rw : Bool) (t : Ty) (xs : List (den t))
  | pend (r : Nat) (p : Path) (t : Ty) (xs : List (den t))
  | half (t : Ty) (xs : List (den t))
  | sh (t : Ty) (xs : List (den t))
structure St where
  fr : List (List AV)
  rs : List ak
def AV.cells:AV→List AV
 | .agg cs=>cs
 |v=> [v]
def Ez:List (Option (Bool×Ty))→Option (List Ty)
 | []=>some []
 |none::_=>none
 |some x::r=>match Ez r with
  |some l=>some (x.2::l)
  |none=>none
def EV(P:Program):Nat→TypeId→Option (Bool×Ty)
 |0,_=>none
 |n+1,t=>
  match P.underlying t with
  |some .bool=>some (false,.bool)
  |some (.int k)=>some (false,.int k)
  |some .string=>some (false,.str)
  |some (.slice e)=>match EV P n e with
   |some x=>some (false,.sl x.2)
   |none=>none
  |some (.struct fs)=>match Ez (fs.toList.map fun f=>EV P n f.type)with
   |some l=>some (true,Ty.all l)
   |none=>none
  |some (.array m e)=>match EV P n e with
   |some x=>some (true,Ty.all (List.replicate m x.2))
   |none=>none
  |_=>none
def ri(P:Program)(t:TypeId):Option (Bool×Ty):=EV P 6 t
def tyD(P:Program)(t:TypeId):Ty:=match ri P t with
 |some x=>x.2
 |none=> .unit
def kj(P:Program)(t:TypeId):Bool:=match ri P t with
 |some x=>x.1
 |none=>true
def dt(P:Program)(f:Nat):List TypeId:=match P.funcs[f]? with
 |some fn=>fn.params.toList
 |none=> []
def bB(P:Program)(f:Nat):List TypeId:=match P.funcs[f]? with
 |some fn=>fn.resultTypes.toList
 |none=> []
def dG(P:Program)(f:Nat):Ty:=Ty.all ((dt P f).map (tyD P))
def resTy(P:Program)(f:Nat):Ty:=Ty.all ((bB P f).map (tyD P))
abbrev Cell:=(t:Ty)×den t
abbrev Row:=(t:Ty)×List (den t)
def cellAt:(t:Ty)→den t→Nat→Cell
 | .pair a b,d,f=>bif Nat.blt f a.size then cellAt a d.1 f else cellAt b d.2 (f-a.size)
 | .unit,d,_=>⟨.unit,d⟩
 | .int k,d,f=>bif Nat.beq f 0 then⟨.int k,d⟩else⟨.unit,()⟩
 | .bool,d,f=>bif Nat.beq f 0 then⟨.bool,d⟩else⟨.unit,()⟩
 | .str,d,f=>bif Nat.beq f 0 then⟨.str,d⟩else⟨.unit,()⟩
 | .sl e,d,f=>bif Nat.beq f 0 then⟨.sl e,d⟩else⟨.unit,()⟩
def bt:(t:Ty)→den t→Nat→((c:Ty)→den c→den c)→den t
 | .pair a b,d,f,g=>bif Nat.blt f a.size then(bt a d.1 f g,d.2)else(d.1,bt b d.2 (f-a.size) g)
 | .unit,d,_,_=>d
 | .int k,d,f,g=>bif Nat.beq f 0 then g (.int k) d else d
 | .bool,d,f,g=>bif Nat.beq f 0 then g .bool d else d
 | .str,d,f,g=>bif Nat.beq f 0 then g .str d else d
 | .sl e,d,f,g=>bif Nat.beq f 0 then g (.sl e) d else d
def rowAt:(t:Ty)→List (den t)→Path→List Tst×Row
 |t,xs,[]=>([],⟨t,xs⟩)
 |t,xs,(i,f)::p=>
  match cellAt t (D.rd xs i (bh t)) f with
  |⟨.sl e,ys⟩=>match rowAt e ys p with
   |(ok,r)=>(.d (D.ltN i (D.len xs))::ok,r)
  |_=>([.s false],⟨.unit,[]⟩)
def ij:(t:Ty)→List (den t)→Path→((e:Ty)→List (den e)→List (den e))→List (den t)
 |t,xs,[],g=>g t xs
 |t,xs,(i,f)::p,g=>
  D.set xs i (bt t (D.rd xs i (bh t)) f fun c=>match c with
   | .sl e=>fun ys=>ij e ys p g
   |_=>fun d=>d)
def jY(r:Nat)(p:Path)(i:Nat):(t:Ty)→den t→Nat→List AV
 | .int k,n,_=> [.int k n]
 | .bool,b,_=> [.bool b]
 | .str,s,_=> [.str s]
 | .sl _,_,f=> [.sl r (p++ [(i,f)]) none]
 | .pair a b,d,f=>jY r p i a d.1 f++jY r p i b d.2 (f+a.size)
 | .unit,_,_=> []
def de{α:Type}:Option (Nat×Nat)→List α→List α
 |none,xs=>xs
 |some (o,l),xs=>D.take l (D.drop o xs)
def bL{α:Type}:Option (Nat×Nat)→List α→Nat
 |none,xs=>D.len xs
 |some (_,l),_=>l
def ck:Option (Nat×Nat)→Nat→Nat
 |none,n=>n
 |some (o,_),n=>D.addN o n
def nq{a b:Ty}(h:a=b)(x:den a):den b:=h▸x
def kW{a b:Ty}(h:a=b)(x:List (den a)):List (den b):=h▸x
abbrev Get:=Nat→ak
def sliceAt(get:Get)(r:Nat)(p:Path):List Tst×Row:=
 match get r with
 | .row _ t xs=>rowAt t xs p
 | .sh t xs=>rowAt t xs p
 | .pend _ _ t xs=>match p with
  | []=>([],⟨t,xs⟩)
  |_=>([.s false],⟨.unit,[]⟩)
 |_=>([.s false],⟨.unit,[]⟩)
def bm(get:Get):(t:Ty)→List AV→List Tst×den t×List AV
 | .int k,vs=>match vs with
  | .int k' n::vs=>([.s (decide (k'=k))],n,vs)
  |_=>([.s false],(0:Int),[])
 | .bool,vs=>match vs with
  | .bool b::vs=>([],b,vs)
  | .kb b::vs=>([],b,vs)
  |_=>([.s false],false,[])
 | .str,vs=>match vs with
  | .str s::vs=>([],s,vs)
  |_=>([.s false],ByteArray.empty,[])
 | .sl e,vs=>match vs with
  | .nilS::vs=>([],([]:List (den e)),vs)
  | .sl r p sub::vs=>match sliceAt get r p with
   |(ok,⟨e',ys⟩)=>match decEq e' e with
    | .isTrue h=>(ok,de sub (kW h ys),vs)
    | .isFalse _=>([.s false],([]:List (den e)),[])
  |_=>([.s false],([]:List (den e)),[])
 | .pair a b,vs=>match bm get a vs with
  |(ok,x,vs)=>match bm get b vs with
   |(ok',y,vs)=>(ok++ok',(x,y),vs)
 | .unit,vs=>([],(),vs)
def iv{α:Type}(rd:List AV→List Tst×α×List AV):Nat→List AV→List Tst×List α×List AV
 |0,vs=>([],[],vs)
 |n+1,vs=>match rd vs with
  |(ok,x,vs)=>match iv rd n vs with
   |(ok',xs,vs)=>(ok++ok',x::xs,vs)
def fH(get:Get):(t:Ty)→List AV→List Tst×den t×List AV
 | .int k,vs=>bm get (.int k) vs
 | .bool,vs=>bm get .bool vs
 | .str,vs=>bm get .str vs
 | .unit,vs=>bm get .unit vs
 | .sl e,vs=>match vs with
  | .lit r n::vs'=>match get r with
   | .var cs=>match iv (bm get e) n cs with
    |(ok,xs,rest)=>(.s rest.isEmpty:: .s (Nat.blt 0 e.size)::ok,xs,vs')
   |_=>([.s false],([]:List (den e)),[])
  |vs=>bm get (.sl e) vs
 | .pair a b,vs=>match fH get a vs with
  |(ok,x,vs)=>match fH get b vs with
   |(ok',y,vs)=>(ok++ok',(x,y),vs)
def G3(a b:Ty)(vs:List AV):Option (Nat×List AV):=match a with
 | .sl _=>match b with
  | .sl _=>match vs with
   | .sl r [(_,f)] _:: .sl r' [(_,f')] _::rest=>bif Nat.beq r' r&& !(Nat.beq f' f)then some (r,rest)else none
   |_=>none
  |_=>none
 |_=>none
def rq(get:Get)(r:Nat)(rest:List AV):List Tst×List Nat×List AV:=match get r with
 | .row true _ _=>([],[r],rest)
 |_=>([.s false],[],[])
def gives(get:Get):(t:Ty)→List AV→List Tst×List Nat×List AV
 | .sl e,vs=>match vs with
  | .nilS::vs=>([],[],vs)
  | .sl r _ _::vs=>match get r with
   | .row true _ _=>([],[r],vs)
   |_=>([.s false],[],[])
  |_=>([.s false],[],[])
 | .pair a b,vs=>match G3 a b vs with
  |some (r,rest)=>rq get r rest
  |none=>match gives get a vs with
   |(ok,l,vs)=>match gives get b vs with
    |(ok',l',vs)=>(ok++ok',l++l',vs)
 | .unit,vs=>([],[],vs)
 |_,vs=>([],[],vs.tail)
def np(rw:Bool):(t:Ty)→den t→(base:Nat)→List AV×List ak
 | .int k,n,_=>([.int k n],[])
 | .bool,b,_=>([.bool b],[])
 | .str,s,_=>([.str s],[])
 | .sl e,xs,base=>([.sl base [] none],[.row rw e xs])
 | .pair a b,d,base=>match np rw a d.1 base with
  |(vs,rs)=>match np rw b d.2 (base+rs.length)with
   |(vs',rs')=>(vs++vs',rs++rs')
 | .unit,_,_=>([],[])
def mkV(agg:Bool)(cs:List AV):AV:=bif agg then .agg cs else cs.headD .undef
def ef(P:Program)(rw:Bool):(ts:List TypeId)→den (Ty.all (ts.map (tyD P)))→(base:Nat)→List AV×List ak
 | [],_,_=>([],[])
 | [t],d,base=>match np rw (tyD P t) d base with
  |(vs,rs)=>([mkV (kj P t) vs],rs)
 |t::u::r,d,base=>match np rw (tyD P t) d.1 base with
  |(vs,rs)=>match ef P rw (u::r) d.2 (base+rs.length)with
   |(ws,rs')=>(mkV (kj P t) vs::ws,rs++rs')
def kU:(t:Ty)→List AV→(base:Nat)→List AV×List ak
 | .sl e,vs,base=>match vs with
  | .nilS::r=>(.sl base [] none::r,[.row true e []])
  |vs=>(vs,[])
 | .pair a b,vs,base=>match kU a (vs.take a.size) base with
  |(ws,rs)=>match kU b (vs.drop a.size) (base+rs.length)with
   |(ws',rs')=>(ws++ws',rs++rs')
 | .unit,vs,_=>(vs,[])
 |_,vs,_=>(vs,[])
end Go.Am
end
section
/- The abstract machine, second part: the operations as total functions with the tests that they ask; the executor. -/
noncomputable section
namespace Go.Am
variable [D]
structure Out where
  ok : List Tst
  v : AV
  upd : List (Nat × ak) := []
  cut : Option (Nat × Nat) := none
  quiet : List (Nat × Option Nat) := []
def Out.bad:Out:={ok:= [.s false],v:= .undef}
def lim:Nat:=1099511627776
def aj(base:Nat):List ak→List (Nat×ak)
 | []=> []
 |r::rs=>(base,r)::aj (base+1) rs
def setCells(cs:List AV)(c:Nat)(vs:List AV):List AV:=cs.take c++vs++cs.drop (c+vs.length)
def qN(P:Program)(s:TypeId)(i:Nat):Option (Nat×TypeId):=
 match P.underlying s with
 |some (.struct fs)=>match fs[i]? with
  |some f=>some (f.offset,f.type)
  |none=>none
 |_=>none
def kt(P:Program)(t:TypeId):Bool:=match P.underlying t with
 |some (.struct _)=>true
 |some (.array _ _)=>true
 |_=>false
def fO(P:Program)(t:TypeId):Bool:=(P.underlying t).isSome&&(P.info? t).isSome
def eO:Ty→Value→Bool
 | .int k,.int k' n=>decide (k=k')&&decide (n=0)
 | .bool,.bool b=> !b
 | .str,.string s=>Nat.beq s.size 0
 | .sl _,.slice none 0 0=>true
 |_,_=>false
def nc:Ty→List Value→Option (List Value)
 | .pair a b,l=>match nc a l with
  |some l=>nc b l
  |none=>none
 | .unit,l=>some l
 | .int k,l=>match l with
  |v::l=>bif eO (.int k) v then some l else none
  | []=>none
 | .bool,l=>match l with
  |v::l=>bif eO .bool v then some l else none
  | []=>none
 | .str,l=>match l with
  |v::l=>bif eO .str v then some l else none
  | []=>none
 | .sl e,l=>match l with
  |v::l=>bif eO (.sl e) v then some l else none
  | []=>none
def lT(P:Program)(t:TypeId):Bool:=match P.info? t,ri P t,P.underlying t with
 |some i,some (agg,ty),some _=>Nat.beq i.size ty.size&&Nat.ble i.bytes 128&&(agg==kt P t)&&(match i.zero with
  |some z=>(match nc ty z.cells.toList with
   |some []=>true
   |_=>false)
  |none=>false)
 |_,_,_=>false
def fG(P:Program)(t:TypeId):Option TypeId:=match P.underlying t with
 |some (.slice e)=>some e
 |_=>none
def gF(P:Program)(t:TypeId)(base:Nat):Option (List AV×List ak):=
 match ri P t with
 |some x=>bif lT P t then some (np true x.2 (bh x.2) base)else none
 |none=>match P.info? t with
  |some i=>match i.zero with
   |some z=>bif z.cells.toList.all Value.oneCell' then some (List.replicate z.cells.size .undef,[])else none
   |none=>none
  |none=>none
def nm(P:Program)(t:TypeId)(v:AV)(base:Nat):AV×List ak:=
 match v with
 | .nilS=>match kU (tyD P t) [.nilS] base with
  |(vs,rs)=>(vs.headD .undef,rs)
 | .agg cs=>match kU (tyD P t) cs base with
  |(vs,rs)=>(.agg vs,rs)
 |v=>(v,[])
def AV.kv:AV→Bool
 | .undef=>false
 | .tup _=>false
 |_=>true
def Bq(c a b:AV):Out:=
 match c with
 | .kb true=>{ok:= [],v:=a}
 | .kb false=>{ok:= [],v:=b}
 |_=> .bad
def vx(op:BinOp)(k:IntKind)(a b:Int):Out:=
 match op with
 | .add=>{ok:= [],v:= .int k (D.wrap k (D.add a b))}
 | .sub=>{ok:= [],v:= .int k (D.wrap k (D.sub a b))}
 | .mul=>{ok:= [],v:= .int k (D.wrap k (D.mul a b))}
 | .quo=>{ok:= [.d (D.no (D.eq b 0))],v:= .int k (D.wrap k (D.quo a b))}
 | .rem=>{ok:= [.d (D.no (D.eq b 0))],v:= .int k (D.rem a b)}
 | .eql=>{ok:= [],v:= .bool (D.eq a b)}
 | .neq=>{ok:= [],v:= .bool (D.no (D.eq a b))}
 | .lss=>{ok:= [],v:= .bool (D.lt a b)}
 | .leq=>{ok:= [],v:= .bool (D.le a b)}
 | .gtr=>{ok:= [],v:= .bool (D.lt b a)}
 | .geq=>{ok:= [],v:= .bool (D.le b a)}
 | .and=>{ok:= [],v:= .int k (D.andI k a b)}
 | .or=>{ok:= [],v:= .int k (D.orI k a b)}
 | .xor=>{ok:= [],v:= .int k (D.xorI k a b)}
 | .andNot=>{ok:= [],v:= .int k (D.andNI k a b)}
 |_=> .bad
def ox(op:BinOp)(k:IntKind)(a b:Int):Out:=
 match op with
 | .shl=>{ok:= [.d (D.le 0 b)],v:= .int k (D.shlI k a b)}
 | .shr=>{ok:= [.d (D.le 0 b)],v:= .int k (D.shrI k a b)}
 |_=> .bad
def Cq:BinOp→Bool
 | .shl=>true
 | .shr=>true
 |_=>false
def sb(op:BinOp)(a b:ByteArray):Out:=
 match op with
 | .add=>{ok:= [.d (D.leN (D.addN (D.lenS a) (D.lenS b)) lim)],v:= .str (D.catS a b)}
 | .eql=>{ok:= [],v:= .bool (D.eqS a b)}
 | .neq=>{ok:= [],v:= .bool (D.no (D.eqS a b))}
 | .lss=>{ok:= [],v:= .bool (D.ltS a b)}
 | .leq=>{ok:= [],v:= .bool (D.or2 (D.ltS a b) (D.eqS a b))}
 | .gtr=>{ok:= [],v:= .bool (D.no (D.or2 (D.ltS a b) (D.eqS a b)))}
 | .geq=>{ok:= [],v:= .bool (D.no (D.ltS a b))}
 |_=> .bad
def AV.toB:AV→AV
 | .kb b=> .bool b
 |v=>v
def tN(P:Program)(t:TypeId):Bool:=match P.underlying t with
 |some .bool=>true
 |_=>false
def qq(P:Program)(t:TypeId)(op:BinOp)(x y:AV):Out:=
 match x.toB,y.toB with
 | .int k a,.int k' b=>bif Cq op then ox op k a b else bif decide (k=k')then vx op k a b else .bad
 | .str a,.str b=>sb op a b
 | .bool a,.bool b=>match op with
  | .eql=>{ok:= [.s (tN P t)],v:= .bool (D.eqB a b)}
  | .neq=>{ok:= [.s (tN P t)],v:= .bool (D.no (D.eqB a b))}
  |_=> .bad
 |_,_=> .bad
def r8(P:Program)(t:TypeId)(op:BinOp)(x y:AV)(get:Get):Out:=
 match op,x,y with
 | .eql,.sl r p sub,.nilS=>match get r with
  | .row _ t' xs=>match rowAt t' xs p with
   |(ok,⟨_,ys⟩)=>{ok:= .s (fG P t).isSome::ok,v:= .nb (bL sub ys)}
  |_=> .bad
 |_,_,_=>qq P t op x y
def Ev(P:Program)(e:TypeId):Bool:=match P.underlying e with
 |some (.int .u8)=>true
 |_=>false
def nz(P:Program)(src dst:TypeId)(x:AV)(get:Get):Out:=
 match P.underlying src,P.underlying dst,x with
 |some _,some (.int k),.int _ n=>{ok:= [],v:= .int k (D.wrap k n)}
 |some _,some .string,.str s=>{ok:= [],v:= .str s}
 |some (.slice e),some .string,x=>
  bif Ev P e then
   match bm get (.sl (.int .u8)) [x]with
   |(ok,xs,_)=>{ok:=ok,v:= .str (D.ofInts xs)}
  else .bad
 |_,_,_=> .bad
def cz(P:Program)(t:TypeId)(te:Ty):Bool:=match fG P t with
 |some e=>lT P e&&decide (tyD P e=te)&&Nat.blt 0 te.size
 |none=>false
def tW(P:Program)(t:TypeId):Bool:=match P.underlying t with
 |some .string=>true
 |_=>false
def eR(P:Program)(t:TypeId)(cs:List AV)(f:Nat):Out:=
 bif kt P t then{ok:= [.s (fO P t),.s (Nat.ble (f+P.cellsOf t) cs.length)],v:= .agg ((cs.drop f).take (P.cellsOf t))}
 else{ok:= [.s (fO P t),.s (Nat.blt f cs.length)],v:=cs.getD f .undef}
def eQ(P:Program)(t:TypeId)(a:AV)(get:Get):Out:=
 match a with
 | .pv r c=>match get r with
  | .var cs=>eR P t cs c
  |_=> .bad
 | .pe r p i f=>match get r with
  | .row _ t' xs=>match rowAt t' xs p with
   |(ok,⟨e,ys⟩)=>
    match eR P t (jY r p i e (D.rd ys i (bh e)) 0) f with
    |⟨ok',v,_,_,_⟩=>{ok:=ok++ .d (D.ltN i (D.len ys))::ok',v:=v}
  |_=> .bad
 |_=> .bad
def fb(v:AV):(c:Ty)→den c→den c
 | .int _,d=>match v with
  | .int _ n=>n
  |_=>d
 | .bool,d=>match v with
  | .bool b=>b
  | .kb b=>b
  |_=>d
 | .str,d=>match v with
  | .str s=>s
  |_=>d
 |_,d=>d
def cr(v:AV):Ty→Bool
 | .int k=>match v with
  | .int k' _=>decide (k=k')
  |_=>false
 | .bool=>match v with
  | .bool _=>true
  | .kb _=>true
  |_=>false
 | .str=>match v with
  | .str _=>true
  |_=>false
 |_=>false
def putRow(e:Ty)(ys:List (den e)):(c:Ty)→den c→den c
 | .sl e',d=>match decEq e e' with
  | .isTrue h=>kW h ys
  | .isFalse _=>d
 |_,d=>d
def kA(t:Ty)(xs:List (den t))(p:Path)(i f:Nat)(g:(c:Ty)→den c→den c):ak:=
 .row true t (ij t xs p fun e' zs=>D.set zs i (bt e' (D.rd zs i (bh e')) f g))
def nE(v:AV)(r:Nat)(p:Path)(i f:Nat)(t:Ty)(xs:List (den t))(e:Ty)(chk:List Tst)(get:Get):Out:=
 match v with
 | .nilS=>{ok:=chk,v:= .tup [],upd:= [(r,kA t xs p i f (putRow e []))],cut:=some (r,p.length+1),quiet:= [(r,none)]}
 | .sl r2 q sub=>
  bif Nat.beq r2 r then
   match rowAt t xs q with
   |(ok,⟨e',ys⟩)=>match decEq e' e with
    | .isTrue h=>{ok:=chk++ok++ [.d (D.eqP q (p++ [(i,f)]))],v:= .tup [],upd:= [(r,kA t xs p i f (putRow e (de sub (kW h ys))))],cut:=some (r,p.length+1),quiet:= [(r,none)]}
    | .isFalse _=> .bad
  else match q,get r2 with
   | [],.row true e' ys=>match decEq e' e with
    | .isTrue h=>{ok:=chk,v:= .tup [],upd:= [(r2,.dead),(r,kA t xs p i f (putRow e (de sub (kW h ys))))],cut:=some (r,p.length+1),quiet:= [(r,none),(r2,none)]}
    | .isFalse _=> .bad
   | [],.pend r' p' e' ys=>match decEq e' e,sub with
    | .isTrue h,none=>{ok:=chk++ [.s (Nat.beq r' r),.d (D.eqP p' (p++ [(i,f)]))],v:= .tup [],upd:= [(r2,.dead),(r,kA t xs p i f (putRow e (kW h ys)))],cut:=some (r,p.length+1),quiet:= [(r,some r2)]}
    |_,_=> .bad
   |_,_=> .bad
 |_=> .bad
def iR(v:AV)(r:Nat)(p:Path)(i f:Nat)(t:Ty)(xs:List (den t))(get:Get):Out:=
 match rowAt t xs p with
 |(ok,⟨e,ys⟩)=>match (cellAt e (D.rd ys i (bh e)) f).1 with
  | .sl e'=>nE v r p i f t xs e' (ok++ [.d (D.ltN i (D.len ys))]) get
  |c=>{ok:=ok++ [.d (D.ltN i (D.len ys)),.s (cr v c)],v:= .tup [],upd:= [(r,kA t xs p i f (fb v))],quiet:= [(r,none)]}
def jk(e:Ty):Nat→List AV→Bool
 |_,[]=>true
 |f,v::vs=>cr v (cellAt e (bh e) f).1&&jk e (f+1) vs
def mA(e:Ty):den e→Nat→List AV→den e
 |d,_,[]=>d
 |d,f,v::vs=>mA e (bt e d f (fb v)) (f+1) vs
def xk(P:Program)(ty:TypeId)(v:AV)(r:Nat)(i f:Nat)(t:Ty)(xs:List (den t)):Out:=
 {ok:= [.s (fO P ty),.s v.kv,.s (Nat.beq v.cells.length (P.cellsOf ty)),.s (!v.cells.isEmpty),.s (jk t f v.cells),.d (D.ltN i (D.len xs))],v:= .tup []
  upd:= [(r,.row true t (D.set xs i (mA t (D.rd xs i (bh t)) f v.cells)))],quiet:= [(r,none)]}
def gE(P:Program)(t:TypeId)(a v:AV)(get:Get)(base:Nat):Out:=
 match a with
 | .pv r c=>match get r with
  | .var cs=>match nm P t v base with
   |(v',rs)=>
    {ok:= [.s (fO P t),.s v'.kv,.s (Nat.ble (c+P.cellsOf t) cs.length),.s (Nat.beq v'.cells.length (P.cellsOf t))],v:= .tup []
     upd:=aj base rs++ [(r,.var (setCells cs c v'.cells))]}
  |_=> .bad
 | .pe r p i f=>bif Nat.beq (P.cellsOf t) 1 then
   match get r with
   | .row true t' xs=>iR v r p i f t' xs get
   |_=> .bad
  else match p,get r with
   | [],.row true t' xs=>xk P t v r i f t' xs
   |_,_=> .bad
 |_=> .bad
def readAll(get:Get)(t:Ty):List AV→List Tst×List (den t)
 | []=>([],[])
 |v::vs=>match bm get t v.cells with
  |(ok,x,rest)=>match readAll get t vs with
   |(ok',xs)=>(ok++ [.s rest.isEmpty,.s v.kv]++ok',x::xs)
def ir(get:Get)(t:Ty):List AV→List Tst×List Nat
 | []=>([],[])
 |v::vs=>match gives get t v.cells with
  |(ok,l,_)=>match ir get t vs with
   |(ok',l')=>(ok++ok',l++l')
def cp(l:List Nat):List (Nat×ak):=l.map fun r=>(r,.dead)
def di(l:List Nat):List (Nat×Option Nat):=l.map fun r=>(r,none)
def uH(e:Ty)(x:AV)(get:Get):List Tst×List (den e)×List Nat:=
 match x with
 | .str b=>match decEq (Ty.int .u8) e with
  | .isTrue h=>([],kW h (D.ints b),[])
  | .isFalse _=>([.s false],[],[])
 |x=>match bm get (.sl e) [x]with
  |(ok,xs,_)=>bif e.flat then(ok,xs,[])
   else match gives get (.sl e) [x]with
    |(ok',l,_)=>(ok++ok',xs,l)
def ov(e:Ty)(s:AV)(ok:List Tst)(zs:List (den e))(l:List Nat)(get:Get)(base:Nat):Out:=
 match s with
 | .nilS=>{ok:=ok++ [.d (D.leN (D.len zs) lim)],v:= .sl base [] none,upd:=cp l++ [(base,.row true e zs)],quiet:=di l}
 | .sl r p sub=>match p,get r with
  | [],.row true e' ys=>match decEq e' e with
   | .isTrue h=>
    {ok:=ok++ [.s (!l.contains r),.d (D.leN (D.len (D.app (de sub (kW h ys)) zs)) lim)],v:= .sl base [] none
     upd:=cp l++ [(r,.dead),(base,.row true e (D.app (de sub (kW h ys)) zs))],quiet:=(r,none)::di l}
   | .isFalse _=> .bad
  |q::p,.row true t xs=>match rowAt t xs (q::p),sub with
   |(ok',⟨e',ys⟩),none=>match decEq e' e with
    | .isTrue h=>
     {ok:=ok++ok'++ [.s e.flat,.d (D.leN (D.len (D.app (kW h ys) zs)) lim)],v:= .sl base [] none
      upd:= [(base,.pend r (q::p) e (D.app (kW h ys) zs))],quiet:= [(r,none)]}
    | .isFalse _=> .bad
   |_,_=> .bad
  |_,_=> .bad
 |_=> .bad
def cg(P:Program)(st:TypeId)(s x:AV)(get:Get)(base:Nat):Out:=
 match fG P st with
 |none=> .bad
 |some et=>match ri P et with
  |none=> .bad
  |some (_,t)=>match uH t x get with
   |(ok,zs,l)=>ov t s (.s (cz P st t)::ok) zs l get base
def ownRow(e:Ty)(get:Get)(r:Nat):Option (List (den e)):=match get r with
 | .row true t ys=>match decEq t e with
  | .isTrue h=>some (kW h ys)
  | .isFalse _=>none
 |_=>none
def gM(P:Program)(st:TypeId)(e:Ty)(r1:Nat)(sub1:Option (Nat×Nat))(ys1:List (den e))(r o l:Nat)(ys:List (den e))(base:Nat):Out:=
 {ok:= [.s (cz P st e),.s (!Nat.beq r1 r),.d (D.leN (D.len (D.app (de sub1 ys1) (de (some (o,l)) ys))) lim)],v:= .sl base [] none
  upd:= [(r1,.dead),(r,.half e (D.take o ys)),(base,.row true e (D.app (de sub1 ys1) (de (some (o,l)) ys)))],quiet:= [(r1,none),(r,none)]}
def fP(P:Program)(st:TypeId)(s x:AV)(get:Get)(base:Nat):Out:=match s with
 | .sl r1 [] sub1=>match x with
  | .sl r [] (some (o,l))=>match fG P st with
   |some et=>match ri P et with
    |some (_,e)=>bif e.flat then cg P st s x get base else match ownRow e get r1 with
     |some ys1=>match ownRow e get r with
      |some ys=>gM P st e r1 sub1 ys1 r o l ys base
      |none=>cg P st s x get base
     |none=>cg P st s x get base
    |none=>cg P st s x get base
   |none=>cg P st s x get base
  |_=>cg P st s x get base
 |_=>cg P st s x get base
def shared(get:Get):AV→Bool
 | .sl r _ _=>match get r with
  | .row false _ _=>true
  | .sh _ _=>true
  |_=>false
 |_=>false
def uS(e:Ty)(s x:AV)(get:Get):Option (Nat×List (den e)):=match s with
 | .sl r [] none=>match get r with
  | .sh t ys=>match decEq t e with
   | .isTrue h=>some (r,kW h ys)
   | .isFalse _=>none
  | .row true t ys=>bif shared get x then(match decEq t e with
   | .isTrue h=>some (r,kW h ys)
   | .isFalse _=>none)else none
  |_=>none
 |_=>none
def vS(e:Ty)(x:AV)(get:Get):List Tst×List (den e)×List Nat:=match x with
 | .sl r p sub=>match bm get (.sl e) [.sl r p sub]with
  |(ok,xs,_)=>match get r with
   | .row false _ _=>(ok,xs,[])
   | .row true _ _=>(ok,xs,[r])
   | .sh _ _=>(ok,xs,[r])
   |_=>([.s false],[],[])
 |_=>([.s false],[],[])
def uk(P:Program)(st:TypeId)(e:Ty)(r:Nat)(ys:List (den e))(x:AV)(get:Get)(base:Nat):Out:=match vS e x get with
 |(ok,zs,l)=>{ok:= .s (cz P st e):: .s (!l.contains r)::(ok++ [.d (D.leN (D.len (D.app ys zs)) lim)]),v:= .sl base [] none,upd:=cp (r::l)++ [(base,.sh e (D.app ys zs))],quiet:=di (r::l)}
def vA(P:Program)(st:TypeId)(s x:AV)(get:Get):Option ((e:Ty)×Nat×List (den e)):=match fG P st with
 |some et=>match ri P et with
  |some (_,e)=>bif e.flat then none else match uS e s x get with
   |some (r,ys)=>some ⟨e,r,ys⟩
   |none=>none
  |none=>none
 |none=>none
def fL(P:Program)(st:TypeId)(s x:AV)(get:Get)(base:Nat):Out:=match vA P st s x get with
 |some ⟨e,r,ys⟩=>uk P st e r ys x get base
 |none=>fP P st s x get base
def zA:Ty→Bool
 | .int _=>true
 | .pair (.int _) (.int _)=>true
 |_=>false
def gm (P : Program) (t : TypeId) (d s : AV) (get : Get) : Out := match d with
  | .sl r [] sub => match get r with
    | .row true e xs => bif zA e then (match bm get (.sl e) [s] with
      | (ok, ys, _) => { ok := .s (cz P t e) :: ok, v := .int .i64 (D.ofN (D.len (D.take (bL sub xs) ys)))
                         upd := [(r, .row true e (D.app (D.take (ck sub 0) xs) (D.app (D.take (bL sub xs) ys) (D.drop (ck sub (D.len (D.take (bL sub xs) ys))) xs))))], quiet := [(r, none)] }) else .bad
    | _ => .bad
  | _ => .bad
def n4(l:List AV):Option Operand→Option AV×List AV
 |none=>(none,l)
 |some _=>(some (l.headD .undef),l.tail)
def bounds(n:Nat)(lo hi:Option AV):List Tst×Nat×Nat:=
 match lo,hi with
 |none,none=>([],0,n)
 |none,some (.int _ h)=>([.d (D.le 0 h),.d (D.leN (D.nat h) n)],0,D.nat h)
 |some (.int _ l),none=>([.d (D.le 0 l),.d (D.leN (D.nat l) n)],D.nat l,n)
 |some (.int _ l),some (.int _ h)=>([.d (D.le 0 h),.d (D.leN (D.nat h) n),.d (D.le 0 l),.d (D.leN (D.nat l) (D.nat h))],D.nat l,D.nat h)
 |_,_=>([.s false],0,0)
def kf(P:Program)(t:TypeId)(x:AV)(lo hi:Option AV)(get:Get):Out:=
 match x with
 | .nilS=>match bounds 0 lo hi with
  |(ok,_,_)=>{ok:= [.s (fG P t).isSome,.s (lT P ((fG P t).getD 0))]++ok,v:= .nilS}
 | .str s=>match bounds (D.lenS s) lo hi with
  |(ok,l,h)=>{ok:= .s (tW P t)::ok,v:= .str (D.cutS s l h)}
 | .sl r p sub=>match get r with
  | .row _ t' xs=>match rowAt t' xs p with
   |(ok,⟨e,ys⟩)=>match bounds (bL sub ys) lo hi with
    |(ok',l,h)=>{ok:= .s (cz P t e)::(ok++ok'),v:= .sl r p (some (ck sub l,D.subN h l))}
  |_=> .bad
 |_=> .bad
def mV(P:Program)(t:TypeId)(e:Ty)(xs:List (den e))(r:Nat)(h:Int)(base:Nat):Out:=
 {ok:= [.s (cz P t e),.d (D.le 0 h),.d (D.leN (D.nat h) (D.len xs))],v:= .sl base [] none,upd:=cp [r]++ [(base,.row true e (D.take (D.nat h) xs))],quiet:=di [r]}
def rL(lo hi:Option AV)(x:AV)(get:Get):Option (Nat×Int×Row):=match lo with
 |none=>match hi with
  |some (.int _ h)=>match x with
   | .sl r [] none=>match get r with
    | .half e xs=>some (r,h,⟨e,xs⟩)
    |_=>none
   |_=>none
  |_=>none
 |_=>none
def fI(P:Program)(t:TypeId)(x:AV)(lo hi:Option AV)(get:Get)(base:Nat):Out:=match rL lo hi x get with
 |some (r,h,⟨e,xs⟩)=>mV P t e xs r h base
 |none=>kf P t x lo hi get
def isZero:Operand→Bool
 | .const (.int _ n)=>decide (n=0)
 |_=>false
def hU(P:Program)(t:TypeId)(x:AV)(get:Get)(base:Nat):Out:=
 match x with
 | .nilS=>{ok:= [.s (fG P t).isSome,.s (lT P ((fG P t).getD 0))],v:= .nilS}
 | .sl r p _=>match get r with
  | .row _ t' xs=>match rowAt t' xs p with
   |(ok,⟨e,_⟩)=>{ok:= .s (cz P t e)::ok,v:= .sl base [] none,upd:= [(base,.row true e [])]}
  |_=> .bad
 |_=> .bad
def jK(P:Program)(t:TypeId)(x:AV)(h c:Int)(get:Get)(base:Nat):Out:=
 match x with
 | .sl r p sub=>match p,get r with
  | [],.row true e ys=>{ok:= [.s (cz P t e),.d (D.le 0 h),.d (D.le h c),.d (D.leN (D.nat c) (bL sub ys))],v:= .sl base [] none,upd:=cp [r]++ [(base,.row true e (D.take (D.nat h) (de sub ys)))],quiet:=di [r]}
  |_,_=> .bad
 |_=> .bad
def lh(P:Program)(t:TypeId)(lo:Option Operand)(avs:List AV)(get:Get)(base:Nat):Out:=match lo,avs with
 |none,[x,.int _ h,.int _ c]=>jK P t x h c get base
 |_,_=> .bad
def mX(P:Program)(t:TypeId)(x:AV)(get:Get):Out:=
 match x with
 | .str s=>{ok:= [.s (tW P t)],v:= .int .i64 (D.ofN (D.lenS s))}
 | .nilS=>{ok:= [.s (fG P t).isSome],v:= .int .i64 0}
 | .sl r p sub=>match get r with
  | .row _ t' xs=>match rowAt t' xs p with
   |(ok,⟨_,ys⟩)=>{ok:= .s (fG P t).isSome::ok,v:= .int .i64 (D.ofN (bL sub ys))}
  |_=> .bad
 |_=> .bad
def sk(P:Program)(t:TypeId)(x:AV):Out:=
 match x with
 | .nilS=>{ok:= [.s (fG P t).isSome],v:= .int .i64 0}
 |_=> .bad
def mS(P:Program)(t:TypeId)(s x:AV)(base:Nat):Out:=match fG P t,s,x with
 |some e,.nilS,.int _ n=>match ri P e with
  |some (_,t')=>{ok:= [.s (cz P t t'),.d (D.le 1 n),.d (D.leN (D.nat n) lim)],v:= .sl base [] none,upd:= [(base,.row true t' (D.rep (D.nat n) (bh t')))]}
  |none=> .bad
 |_,_,_=> .bad
def lS(gt:Bool):List AV→Out
 | [.int k a,.int k' b]=>bif decide (k=k')then{ok:= [],v:= .int k (bif gt then D.sel (D.lt a b) b a else D.sel (D.lt b a) b a)}else .bad
 |_=> .bad
def oT(b:Bool)(v u:AV):AV:=match v,u with
 | .int k a,.int k' b'=>bif decide (k=k')then .int k (D.sel b a b')else .undef
 |_,_=> .undef
def zJ:AV→AV
 | .int k a=> .int k a
 |_=> .undef
def jf:List AV→Nat→Int→AV
 | [],_,_=> .undef
 |v::vs,i,n=>match vs with
  | []=>zJ v
  |_::_=>oT (D.eq n (D.ofN i)) v (jf vs (i+1) n)
def oj(P:Program)(xt:TypeId)(x ix:AV):Out:=
 match x,ix with
 | .str s,.int _ n=>{ok:= [.s (tW P xt),.d (D.le 0 n),.d (D.ltN (D.nat n) (D.lenS s))],v:= .int .u8 (D.byte s (D.nat n))}
 | .agg cs,.int _ n=>match P.underlying xt with
  |some (.array m e)=>{ok:= [.s (fO P e&&Nat.beq (P.cellsOf e) 1&& !kt P e),.s (Nat.beq cs.length m),.d (D.le 0 n),.d (D.lt n (D.ofN m))],v:=jf cs 0 n}
  |_=> .bad
 |_,_=> .bad
def fh(P:Program)(xt:TypeId)(x ix:AV)(get:Get):Out:=
 match ix with
 | .int _ n=>match x with
  | .sl r p sub=>match get r with
   | .row _ t xs=>match rowAt t xs p with
    |(ok,⟨e,ys⟩)=>{ok:= .s (cz P xt e)::(ok++ [.d (D.le 0 n),.d (D.ltN (D.nat n) (bL sub ys))]),v:= .pe r p (ck sub (D.nat n)) 0}
   |_=> .bad
  | .pv r c=>match P.underlying xt with
   |some (.array m e)=>{ok:= [.s (fO P e),.d (D.le 0 n),.d (D.lt n (D.ofN m))],v:= .pv r (c+n.toNat*P.cellsOf e)}
   |_=> .bad
  | .pe r p i f=>match P.underlying xt with
   |some (.array m e)=>{ok:= [.s (fO P e),.d (D.le 0 n),.d (D.lt n (D.ofN m))],v:= .pe r p i (f+n.toNat*P.cellsOf e)}
   |_=> .bad
  |_=> .bad
 |_=> .bad
def jH(P:Program)(place:Nat→Option (Nat×TypeId)):List (Nat×AV)→List AV→Nat→List Tst×List AV×List ak
 | [],cs,_=>([],cs,[])
 |(i,v)::r,cs,base=>match place i with
  |none=>([.s false],cs,[])
  |some (off,t)=>match nm P t v base with
   |(v',rs)=>match jH P place r (setCells cs off v'.cells) (base+rs.length)with
    |(ok,cs',rs')=>([.s v'.kv,.s (Nat.beq v'.cells.length (P.cellsOf t)),.s (Nat.ble (off+P.cellsOf t) cs.length)]++ok,cs',rs++rs')
def placeOf(P:Program)(t:TypeId)(i:Nat):Option (Nat×TypeId):=
 match P.underlying t with
 |some (.struct _)=>qN P t i
 |some (.array m e)=>bif Nat.blt i m then some (i*P.cellsOf e,e)else none
 |_=>none
def uP(P:Program)(t:TypeId):Bool:=match P.underlying t with
 |some (.struct fs)=>fs.toList.all fun f=>(P.info? f.type).isSome
 |some (.array _ e)=>(P.info? e).isSome
 |_=>false
def mB(P:Program)(t:TypeId)(parts:List (Nat×AV))(base:Nat):Out:=
 match gF P t base with
 |none=> .bad
 |some (cs,rs)=>match jH P (placeOf P t) parts cs (base+rs.length)with
  |(ok,cs',rs')=>{ok:=ok++ [.s (uP P t)],v:= .agg cs',upd:=aj base (rs++rs')}
def Hf:Tst→Bool
 | .s b=>b
 | .d _=>true
def Cj:Ty→Bool
 | .sl (.sl _)=>true
 |_=>false
def Er:AV→Bool
 | .sl _ _ _=>true
 | .nilS=>true
 |_=>false
def cO(P:Program)(t:TypeId)(len:Nat)(parts:List (Nat×AV))(get:Get)(base:Nat):Out:=
 match fG P t with
 |none=> .bad
 |some e=>match ri P e with
  |none=> .bad
  |some (_,te)=>match readAll get te (parts.map (·.2))with
   |(ok,xs)=>match ir get te (parts.map (·.2))with
    |(ok',l)=>bif (!(ok'.all Hf)||(Cj te&&Nat.blt 0 len))&&(Nat.beq te.size 1&&(parts.map (·.2)).all Er)then
      {ok:= [.s (cz P t te),.s (decide (parts.map (·.1)=List.range len)),.s (Nat.ble (len*te.size) 16777216)],v:= .lit base len,upd:= [(base,.var (parts.map (·.2)))]}
     else bif Cj te&&parts.isEmpty then{ok:= [.s (cz P t te),.s (Nat.beq len 0)],v:= .sl base [] none,upd:= [(base,.sh te [])]}else
     {ok:= [.s (cz P t te),.s (decide (parts.map (·.1)=List.range len)),.s (Nat.ble (len*te.size) 16777216)]++ok++ok'++ [.s (decide l.Nodup)]
      v:= .sl base [] none,upd:=cp l++ [(base,.row true te xs)],quiet:=di l}
def Az:List AV→Out
 | [.pv r c]=>{ok:= [],v:= .pv r c}
 | [.pe r p i f]=>{ok:= [],v:= .pe r p i f}
 |_=> .bad
def EY(op:UnOp)(avs:List AV):Out:=match op,avs with
 | .not,[.bool b]=>{ok:= [],v:= .bool (D.no b)}
 | .not,[.kb b]=>{ok:= [],v:= .kb (!b)}
 | .neg,[.int k n]=>{ok:= [],v:= .int k (D.wrap k (D.sub 0 n))}
 |_,_=> .bad
def qn(fn:Fn)(n:Nat)(avs:List AV):Out:=match fn with
 | .func f=>{ok:= [],v:= .fn f (avs.take n) (avs.drop n)}
 |_=> .bad
def oO(P:Program)(t:TypeId)(avs:List AV)(base:Nat):Out:=match fG P t,avs with
 |some e,[.int _ l,.int _ c]=>match ri P e with
  |some (_,t')=>{ok:= [.s (cz P t t'),.d (D.le 0 l),.d (D.le l c),.d (D.leN (D.nat c) lim)],v:= .sl base [] none,upd:= [(base,.row true t' (D.rep (D.nat l) (bh t')))]}
  |none=> .bad
 |_,_=> .bad
def jr(P:Program)(s:TypeId)(i:Nat)(avs:List AV):Out:=match qN P s i,avs with
 |some (f,ft),[.pv r c]=>{ok:= [.s (Nat.blt 0 (P.cellsOf ft))],v:= .pv r (c+f)}
 |some (f,ft),[.pe r p j g]=>{ok:= [.s (Nat.blt 0 (P.cellsOf ft))],v:= .pe r p j (g+f)}
 |_,_=> .bad
def vD(P:Program)(s:TypeId)(i:Nat)(avs:List AV):Out:=match qN P s i,avs with
 |some (f,ft),[.agg cs]=>eR P ft cs f
 |_,_=> .bad
def pW(i:Nat):List AV→Out
 | [.tup vs]=>{ok:= [.s (Nat.blt i vs.length)],v:=vs.getD i .undef}
 |_=> .bad
def Gy(o:Oper):Option (Nat×TypeId):=match o.op,o.dst,o.guard with
 | .box t (.tmp 0),some p,none=>some (p,t)
 |_,_,_=>none
def Hc(o:Oper):Option Nat:=match o.op,o.dst,o.guard with
 | .assign (.const _),some q,none=>some q
 |_,_,_=>none
def Hi(o:Oper):Option (Nat×Nat×Nat):=match o.op,o.dst,o.guard with
 | .makeFunc (.func f) a b,some m,none=>match a.toList,b.toList with
  | [],[.tmp p]=>some (m,f,p)
  |_,_=>none
 |_,_,_=>none
def GG(fn:Func):Option Nat:=match fn.results.toList with
 | [.tmp r]=>some r
 |_=>none
def Hj(o:Oper):Option (Nat×Nat):=match o.op,o.dst,o.guard with
 | .assign (.tmp m),some q,none=>some (q,m)
 |_,_,_=>none
def yn(P:Program)(f:Nat):Option (Nat×TypeId):=match P.funcs[f]? with
 |none=>none
 |some fn=>match fn.body with
  |some (.seq (.region _ a false) (.seq (.region _ b false) .ret))=>
   match (a[0]?).bind Gy,(a[1]?).bind Hc,(b[0]?).bind Hi,(b[1]?).bind Hj,GG fn with
   |some (p,t),some q,some (m,f1,p'),some (q',m'),some r=>
    bif Nat.beq a.size 2&&(Nat.beq b.size 2&&(Nat.beq p p'&&(Nat.beq m m'&&(Nat.beq q' r&&(!(Nat.beq q p)&&(Nat.blt p fn.ntmps&&(Nat.blt m fn.ntmps&&Nat.blt r fn.ntmps)))))))then some (f1,t)else none
   |_,_,_,_,_=>none
  |_=>none
def gT(P:Program)(c:Call):Option (Nat×TypeId):=match c.callee with
 | .value (.func f)=>yn P f
 |_=>none
def tK(P:Program)(c:Call)(avs:List AV)(base:Nat):Out:=match gT P c,avs with
 |some (f1,_),[_,.sl r p sub]=>{ok:= [.s (Nat.beq c.args.size 1)],v:= .fn f1 [] [.pv base 0],upd:= [(base,.var [.sl r p sub])]}
 |_,_=> .bad
def xU(P:Program)(t:TypeId):Bool:=match fG P t with
 |some e=>fO P e&&Nat.beq (P.cellsOf e) 1
 |none=>false
def aO(P:Program)(o:Oper)(avs:List AV)(get:Get)(base:Nat):Out:=
 match o.op with
 | .move _=>{ok:= [],v:=avs.headD .undef}
 | .assign _=>match nm P o.type (avs.headD .undef) base with
  |(v,rs)=>{ok:= [],v:=v,upd:=aj base rs}
 | .pick _ _ _=>match avs with
  | [c,a,b]=>Bq c a b
  |_=> .bad
 | .alloc t=>match gF P t (base+1)with
  |some (cs,rs)=>{ok:= [],v:= .pv base 0,upd:=(base,.var cs)::aj (base+1) rs}
  |none=> .bad
 | .box t _=>match nm P t (avs.headD .undef) (base+1)with
  |(v,rs)=>{ok:= [.s v.kv],v:= .pv base 0,upd:=(base,.var v.cells)::aj (base+1) rs}
 | .build t ps=>mB P t ((ps.toList.map (·.1)).zip avs) base
 | .buildSlice t len ps=>cO P t len ((ps.toList.map (·.1)).zip avs) get base
 | .load t _=>eQ P t (avs.headD .undef) get
 | .store t _ _=>match avs with
  | [a,v]=>gE P t a v get base
  |_=> .bad
 | .nilCheck _=>Az avs
 | .binOp op t _ _ _=>match avs with
  | [a,b]=>r8 P t op a b get
  |_=> .bad
 | .unOp op _ _=>EY op avs
 | .convert s d _=>nz P s d (avs.headD .undef) get
 | .makeFunc fn first _=>qn fn first.size avs
 | .makeSlice t _ _=>oO P t avs base
 | .slice t _ lo hi mx=>match mx with
  |none=>fI P t (avs.headD .undef) (n4 avs.tail lo).1 (n4 (n4 avs.tail lo).2 hi).1 get base
  |some m=>bif isZero m&&hi.any isZero&&lo.all isZero then hU P t (avs.headD .undef) get base else lh P t lo avs get base
 | .fieldAddr s _ i=>jr P s i avs
 | .field s _ i=>vD P s i avs
 | .indexAddr t _ _=>match avs with
  | [x,i]=>fh P t x i get
  |_=> .bad
 | .index t _ _=>match avs with
  | [x,i]=>oj P t x i
  |_=> .bad
 | .extract _ i=>pW i avs
 | .call c=>match c.callee with
  | .builtin .len=>match c.argTypes[0]? with
   |some t=>mX P t (avs.headD .undef) get
   |none=> .bad
  | .builtin .cap=>match c.argTypes[0]? with
   |some t=>sk P t (avs.headD .undef)
   |none=> .bad
  | .builtin .append=>match avs,c.argTypes[0]?,c.argTypes[1]? with
   | [s,x],some t,some u=>match P.underlying u with
    |some .string=>cg P t s x get base
    |some (.slice _)=>fL P t s x get base
    |some (.int _)=>mS P t s x base
    |_=> .bad
   |_,_,_=> .bad
  | .builtin .copy=>match avs,c.argTypes[0]?,c.argTypes[1]? with
   | [d,s],some t,some _=>gm P t d s get
   |_,_,_=> .bad
  | .builtin .min=>lS false avs
  | .builtin .max=>lS true avs
  | .value _=>tK P c avs base
  |_=> .bad
 |_=> .bad
def setAt(rs:List ak)(i:Nat)(x:ak):List ak:=
 bif Nat.blt i rs.length then rs.set i x else rs++List.replicate (i-rs.length) .dead++ [x]
def cD(rs:List ak):List (Nat×ak)→List ak
 | []=>rs
 |(i,x)::r=>cD (setAt rs i x) r
def St.get(st:St):Get:=fun r=>st.rs.getD r .dead
def St.top(st:St):List AV:=st.fr.headD []
def St.put(st:St)(dst:Option Tmp)(v:AV):St:=
 match dst with
 |none=>st
 |some d=>match st.fr with
  | []=>st
  |f::r=>{st with fr:=f.set d v::r}
def oE:Value→AV
 | .int k n=> .int k n
 | .bool b=> .kb b
 | .string s=> .str s
 | .slice none 0 0=> .nilS
 | .agg cs=>bif cs.toList.all Value.oneCell' then .agg (cs.toList.map fun
  | .int k n=> .int k n
  | .bool b=> .kb b
  | .string s=> .str s
  | .slice none 0 0=> .nilS
  |_=> .undef)else .undef
 |_=> .undef
def AV.toI:AV→AV
 | .ki k n=> .int k n
 |v=>v
def al(st:St):Operand→AV
 | .tmp i=>(st.top.getD i .undef).toI
 | .const v=>oE v
 | .global _=> .undef
 | .func f=> .fn f [] []
def evK(st:St):Operand→AV
 | .tmp i=>st.top.getD i .undef
 | .const (.int k n)=> .ki k n
 |x=>al st x
def Gv(op:BinOp)(k:IntKind)(a b:Int):Option AV:=match op with
 | .add=>some (.ki k (k.wrap (a+b)))
 | .lss=>some (.kb (decide (a<b)))
 | .geq=>some (.kb (decide (b≤a)))
 |_=>none
def zT(v:AV):Out:={ok:= [],v:=v}
def rT:ak→Bool
 | .var _=>true
 |_=>false
def zH(P:Program)(o:Oper)(avs:List AV)(get:Get):Option Out:=
 match o.op with
 | .move _=>match avs with
  | [.ki k n]=>some (zT (.ki k n))
  |_=>none
 | .assign _=>match avs with
  | [.ki k n]=>some (zT (.ki k n))
  |_=>none
 | .binOp op _ _ _ _=>match avs with
  | [.ki k a,.ki k' b]=>bif decide (k=k')then(Gv op k a b).map zT else none
  |_=>none
 | .indexAddr t _ _=>match avs with
  | [.lit r n,.ki _ i]=>bif rT (get r)then some {ok:= [.s (xU P t),.s (decide (0≤i)),.s (Nat.blt i.toNat n)],v:= .pv r i.toNat}else none
  |_=>none
 | .call c=>match c.callee with
  | .builtin .len=>match avs with
   | [.lit r n]=>match c.argTypes[0]? with
    |some t=>bif rT (get r)then some {ok:= [.s (fG P t).isSome],v:= .ki .i64 n}else none
    |none=>none
   |_=>none
  |_=>none
 |_=>none
mutual
def AV.ren(π:Nat→Option Nat):AV→AV
 | .sl r p s=>match π r with
  |some r=> .sl r p s
  |none=> .undef
 | .pv r c=>match π r with
  |some r=> .pv r c
  |none=> .undef
 | .lit r n=>match π r with
  |some r=> .lit r n
  |none=> .undef
 | .pe r p i f=>match π r with
  |some r=> .pe r p i f
  |none=> .undef
 | .fn f a b=> .fn f (AV.mz π a) (AV.mz π b)
 | .agg cs=> .agg (AV.mz π cs)
 | .tup vs=> .tup (AV.mz π vs)
 | .undef=> .undef
 | .nilS=> .nilS
 | .int k n=> .int k n
 | .bool b=> .bool b
 | .kb b=> .bool b
 | .ki k n=> .int k n
 | .nb n=> .nb n
 | .str s=> .str s
def AV.mz(π:Nat→Option Nat):List AV→List AV
 | []=> []
 |v::vs=>v.ren π::AV.mz π vs
end
mutual
def AV.roots:AV→List Nat
 | .sl r _ _=> [r]
 | .pv r _=> [r]
 | .lit r _=> [r]
 | .pe r _ _ _=> [r]
 | .fn _ a b=>AV.ah a++AV.ah b
 | .agg cs=>AV.ah cs
 | .tup vs=>AV.ah vs
 | .undef| .int _ _| .bool _| .kb _| .ki _ _| .nb _| .str _| .nilS=> []
def AV.ah:List AV→List Nat
 | []=> []
 |v::vs=>v.roots++AV.ah vs
end
def qL(get:Get):AV→List Nat
 | .lit r _=>match get r with
  | .var cs=>AV.ah cs
  |_=> []
 |_=> []
def gq(get:Get)(vs:List AV):List Nat:=vs.flatMap (qL get)
mutual
def AV.cut(r n:Nat):AV→AV
 | .sl r' p s=>bif Nat.beq r' r&&Nat.ble n p.length then .undef else .sl r' p s
 | .pe r' p i f=>bif Nat.beq r' r&&Nat.ble n p.length then .undef else .pe r' p i f
 | .fn f a b=> .fn f (AV.gk r n a) (AV.gk r n b)
 | .agg cs=> .agg (AV.gk r n cs)
 | .tup vs=> .tup (AV.gk r n vs)
 | .pv r' c=> .pv r' c
 | .lit r' n=> .lit r' n
 | .undef=> .undef
 | .nilS=> .nilS
 | .int k n=> .int k n
 | .bool b=> .bool b
 | .kb b=> .kb b
 | .ki k n=> .ki k n
 | .nb n=> .nb n
 | .str s=> .str s
def AV.gk(r n:Nat):List AV→List AV
 | []=> []
 |v::vs=>v.cut r n::AV.gk r n vs
end
def ak.ren(π:Nat→Option Nat):ak→ak
 | .var cs=> .var (AV.mz π cs)
 | .pend r p t xs=>match π r with
  |some r=> .pend r p t xs
  |none=> .dead
 |x=>x
def ak.roots:ak→List Nat
 | .var cs=>AV.ah cs
 | .pend r _ _ _=> [r]
 |_=> []
def ak.cut(r n:Nat):ak→ak
 | .var cs=> .var (AV.gk r n cs)
 |x=>x
def ic(seen:List Nat):List Nat→List Nat
 | []=>seen
 |x::xs=>bif seen.contains x then ic seen xs else ic (seen++ [x]) xs
def reach(rs:List ak):Nat→List Nat→List Nat
 |0,seen=>seen
 |n+1,seen=>reach rs n (ic seen (seen.flatMap fun r=>(rs.getD r .dead).roots))
def alive(rs:List ak)(r:Nat):Bool:=match rs.getD r .dead with
 | .dead=>false
 |_=>true
def far:Nat:=1000000
def idx:List Nat→Nat→Nat→Option Nat
 | [],_,_=>none
 |x::xs,i,r=>bif Nat.beq x r then some i else idx xs (i+1) r
def ji(live:List Nat):Nat→List AV→List AV
 |_,[]=> []
 |i,v::vs=>(bif live.contains i then v else .undef)::ji live (i+1) vs
def St.cN(live:List Nat)(st:St):St:=
 match st.fr with
 | []=>st
 |f::fr=>{st with fr:=ji live 0 f::fr}
def St.vW(ord:List Nat)(st:St):St:=
 {fr:=st.fr.map (AV.mz (idx ord 0)),rs:=ord.map fun r=>(st.rs.getD r .dead).ren (idx ord 0)}
def St.canon(live:List Nat)(st:St):St:=
 let st':=st.cN live
 let ord:=(reach st'.rs 4 (ic [] (st'.fr.flatMap AV.ah))).filter (alive st'.rs)
 bif decide ord.Nodup then st'.vW ord else st'
def St.cut(st:St):Option (Nat×Nat)→St
 |none=>st
 |some (r,n)=>{fr:=st.fr.map (AV.gk r n),rs:=st.rs.map (ak.cut r n)}
def quietAt(r:Nat)(ex:Option Nat):Nat→List ak→Bool
 |_,[]=>true
 |j,x::xs=>(match x with
  | .pend r' _ _ _=> !(Nat.beq r' r)||decide (ex=some j)
  |_=>true)&&quietAt r ex (j+1) xs
def a8(rs:List ak)(q:List (Nat×Option Nat)):Bool:=q.all fun x=>quietAt x.1 x.2 0 rs
def St.app(st:St)(o:Out):St:=({st with rs:=cD st.rs o.upd}:St).cut o.cut
section force
variable {R : Type}
def qV(n:Nat)(k:Nat→Option R):Option R:=match n with
 |0=>k 0
 |m+1=>k (m+1)
def uI:Path→(Path→Option R)→Option R
 | [],k=>k []
 |(i,f)::p,k=>qV f fun f=>uI p fun p=>k ((i,f)::p)
mutual
def AV.force:AV→(AV→Option R)→Option R
 | .undef,k=>k .undef
 | .nilS,k=>k .nilS
 | .int kk n,k=>k (.int kk n)
 | .bool b,k=>k (.bool b)
 | .kb true,k=>k (.kb true)
 | .kb false,k=>k (.kb false)
 | .ki kk n,k=>k (.ki kk n)
 | .nb n,k=>k (.nb n)
 | .str s,k=>k (.str s)
 | .sl r p none,k=>qV r fun r=>uI p fun p=>k (.sl r p none)
 | .sl r p (some (o,l)),k=>qV r fun r=>uI p fun p=>k (.sl r p (some (o,l)))
 | .pv r c,k=>qV r fun r=>qV c fun c=>k (.pv r c)
 | .lit r n,k=>qV r fun r=>qV n fun n=>k (.lit r n)
 | .pe r p i f,k=>qV r fun r=>uI p fun p=>qV f fun f=>k (.pe r p i f)
 | .fn f a b,k=>AV.lW a fun a=>AV.lW b fun b=>k (.fn f a b)
 | .agg cs,k=>AV.lW cs fun cs=>k (.agg cs)
 | .tup vs,k=>AV.lW vs fun vs=>k (.tup vs)
def AV.lW:List AV→(List AV→Option R)→Option R
 | [],k=>k []
 |v::vs,k=>v.force fun v=>AV.lW vs fun vs=>k (v::vs)
end
def ak.force:ak→(ak→Option R)→Option R
 | .dead,k=>k .dead
 | .var cs,k=>AV.lW cs fun cs=>k (.var cs)
 | .row rw t xs,k=>k (.row rw t xs)
 | .pend r p t xs,k=>qV r fun r=>uI p fun p=>k (.pend r p t xs)
 | .half t xs,k=>k (.half t xs)
 | .sh t xs,k=>k (.sh t xs)
def pI:List ak→(List ak→Option R)→Option R
 | [],k=>k []
 |r::rs,k=>r.force fun r=>pI rs fun rs=>k (r::rs)
def tQ:List (List AV)→(List (List AV)→Option R)→Option R
 | [],k=>k []
 |f::fs,k=>AV.lW f fun f=>tQ fs fun fs=>k (f::fs)
def St.force(st:St)(k:St→Option R):Option R:=tQ st.fr fun fr=>pI st.rs fun rs=>k ⟨fr,rs⟩
end force
def Code.cA:Code→Code
 | .seq a _=>a
 | .rangeFunc _ _ a _=>a
 |c=>c
def Code.cB:Code→Code
 | .seq _ b=>b
 | .rangeFunc _ _ _ b=>b
 |c=>c
def Code.cC:Code→Code
 | .block _ c=>c
 | .loop c=>c
 | .scope c=>c
 |c=>c
def Code.cT:Code→Code
 | .cond _ x _=>x
 |c=>c
def Code.ops:Code→Array Oper
 | .region _ ops _=>ops
 |_=> #[]
def frm(n:Nat)(l:List (Nat×AV)):List AV:=l.foldl (fun f x=>f.set x.1 x.2) (List.replicate n .undef)
def gJ(P:Program)(f:Nat):Code:=match P.funcs[f]? with
 |some fn=>match fn.body with
  |some c=>c
  |none=> .skip
 |none=> .skip
def GL(P:Program)(f:Nat):Func:=match P.funcs[f]? with
 |some fn=>fn
 |none=>default
end Go.Am
end
section
/- The abstract machine, third part: the executor, in continuation style, over the model's Code. -/
noncomputable section
namespace Go.Am
variable [D]
section run
def chk{R:Type}(l:List Tst)(x:Option R):Option R:=
 match l with
 | []=>x
 | .s b::r=>bif b then chk r x else none
 | .d b::r=>D.test b (chk r x) none
inductive Ex where
  | normal | exit (id : Nat) | ret
structure Env (P : Program) where
  pc : (f : Nat) → den (dG P f) → Option (den (resTy P f))
  ps : (f : Nat) → den (dG P f) → Option (den (resTy P f))
  inl : {R : Type} → Nat → List AV → St → (List AV → St → Option R) → Option R
  srt : {R : Type} → Nat → Nat → Option R → Option R
structure Cfg where
  mode : Nat → Nat
  loops : Nat → Nat → Option (List Nat)
  joins : Nat → Nat → Option (List Nat)
variable {R : Type} (P : Program) (cfg : Cfg) (env : Env P)
structure Touch where
  reads : List Nat
  writes : List Nat
  quiet : List Nat
  alone : Bool
def ak.waits:ak→List Nat
 | .pend r _ _ _=> [r]
 |_=> []
def jb(st:St)(upd:List (Nat×ak)):List Nat:=upd.flatMap fun x=>(st.get x.1).waits++x.2.waits
def qC(o:Oper)(avs:List AV):List Nat:=match o.op with
 | .move _=> []
 |_=>AV.ah avs
def xE(o:Oper)(avs:List AV)(out:Out)(st:St)(K:Touch→St→Option R):Option R:=
 match out with
 |⟨ok,v,upd,cut,quiet⟩=>chk (.s (a8 st.rs quiet)::ok)
   (St.force ((({st with rs:=cD st.rs upd}:St).cut cut).put o.dst v) (K ⟨qC o avs,upd.map (·.1),quiet.map (·.1)++jb st upd,cut.isSome⟩))
def tw:List AV→AV
 | [v]=>v
 |vs=> .tup vs
def qW(P:Program):List TypeId→List AV→Nat→List AV×List ak
 |t::ts,v::vs,base=>match nm P t v base with
  |(v',rs)=>match qW P ts vs (base+rs.length)with
   |(vs',rs')=>(v'::vs',rs++rs')
 |_,vs,_=>(vs,[])
def C0(P:Program)(t:TypeId)(v:AV):Bool:=match v with
 | .undef=>false
 | .tup _=>false
 | .agg cs=>kj P t&&Nat.beq cs.length (tyD P t).size
 |_=> !kj P t&&Nat.beq (tyD P t).size 1
def fitAll(P:Program):List TypeId→List AV→Bool
 | [],[]=>true
 |t::ts,v::vs=>C0 P t v&&fitAll P ts vs
 |_,_=>false
mutual
def AV.vars:AV→List Nat
 | .pv r _=> [r]
 | .fn _ a b=>AV.tf a++AV.tf b
 | .agg cs=>AV.tf cs
 | .undef| .int _ _| .bool _| .kb _| .ki _ _| .nb _| .str _| .nilS| .sl _ _ _| .pe _ _ _ _| .lit _ _| .tup _=> []
def AV.tf:List AV→List Nat
 | []=> []
 |v::vs=>v.vars++AV.tf vs
end
def qJ(m3:Bool)(get:Get):AV→List Nat
 | .sl r [] none=>bif m3 then(match get r with
  | .row true _ _=> [r]
  |_=> [])else []
 |_=> []
def aJ(get:Get)(r:Nat):List AV:=match get r with
 | .var cs=>cs
 |_=> []
def lL(get:Get):Nat→List Nat→List Nat
 |0,seen=>seen
 |n+1,seen=>lL get n (ic seen (seen.flatMap fun r=>AV.tf (aJ get r)))
def wS(L:List Nat)(r:Nat):Path→Option (Nat×Nat)→Option Nat
 | [],none=>idx L 0 r
 |_,_=>none
mutual
def bK(get:Get)(L:List Nat):AV→Nat→List Tst×AV×List ak
 | .int k n,_=>([],.int k n,[])
 | .bool b,_=>([],.bool b,[])
 | .kb b,_=>([],.bool b,[])
 | .ki k n,_=>([],.int k n,[])
 | .str s,_=>([],.str s,[])
 | .nilS,_=>([],.nilS,[])
 | .undef,_=>([],.undef,[])
 | .sl r p sub,b=>match wS L r p sub with
  |some i=>([],.sl i [] none,[])
  |none=>match sliceAt get r p with
   |(ok,⟨e,ys⟩)=>(ok,.sl b [] none,[.row false e (de sub ys)])
 | .pv r c,_=>match idx L 0 r with
  |some i=>([],.pv i c,[])
  |none=>([.s false],.undef,[])
 | .fn f x y,b=>match fk get L x b with
  |(ok,x',rx)=>match fk get L y (b+rx.length)with
   |(ok',y',ry)=>(ok++ok',.fn f x' y',rx++ry)
 | .agg cs,b=>match fk get L cs b with
  |(ok,cs',rs)=>(ok,.agg cs',rs)
 | .nb _,_=>([.s false],.undef,[])
 | .pe _ _ _ _,_=>([.s false],.undef,[])
 | .lit r n,_=>match idx L 0 r with
  |some i=>([],.lit i n,[])
  |none=>([.s false],.undef,[])
 | .tup _,_=>([.s false],.undef,[])
def fk(get:Get)(L:List Nat):List AV→Nat→List Tst×List AV×List ak
 | [],_=>([],[],[])
 |v::vs,b=>match bK get L v b with
  |(ok,v',r)=>match fk get L vs (b+r.length)with
   |(ok',vs',rs)=>(ok++ok',v'::vs',r++rs)
end
def fC(get getK:Get)(L:List Nat):List Nat→Nat→List Tst×List ak×List ak
 | [],_=>([],[],[])
 |r::V,b=>match fk getK L (aJ get r) b with
  |(ok,cs,rs)=>match fC get getK L V (b+rs.length)with
   |(ok',vr,rs')=>(.s (match get r with
    | .var _=>true
    |_=>false)::(ok++ok'),.var cs::vr,rs++rs')
structure ba where
  lv : List Nat
  ld : List Nat
  ln : List Nat
def ba.all(l:ba):List Nat:=l.lv++(l.ld++l.ln)
def vt(get:Get)(vs:List AV):List Nat:=lL get 4 (ic [] (AV.tf vs))
def vN(m3:Bool)(get:Get)(vs:List AV):List Nat:=(vs.flatMap AV.cells).flatMap (qJ m3 get)
def pd(m3:Bool)(get:Get)(lv:List Nat):List Nat:=(lv.flatMap (aJ get)).flatMap (qJ m3 get)
def kg{R:Type}:List Nat→(List Nat→Option R)→Option R
 | [],k=>k []
 |n::ns,k=>qV n fun n=>kg ns fun ns=>k (n::ns)
def kB(nV nD n m:Nat):List AV:=
 (List.range nV).map (fun i=> .pv i 0)++((List.range nD).map (fun i=> .sl (nV+i) [] none)++(List.replicate (n-nV-nD) .undef++(List.range m).map (fun i=> .sl (n+i) [] none)))
def dB(n:Nat)(rs:List ak):AV→Ty
 | .int k _=> .int k
 | .bool _=> .bool
 | .str _=> .str
 | .sl i [] none=>bif Nat.blt i n then(match rs.getD i .dead with
  | .row _ t _=> .sl t
  |_=> .unit)else .unit
 |_=> .unit
def cR:ak→List AV
 | .var cs=>cs
 |_=> []
def nr(lo:Nat):AV→AV
 | .sl i [] none=>bif Nat.blt i lo then .sl i [] (some (0,0))else .sl i [] none
 |c=>c
def bX(nV nD:Nat)(rs:List ak):List AV:=
 (List.range nD).map (fun i=> .sl (nV+i) [] none)++((rs.take nV).flatMap cR).map (nr (nV+nD))
def iF(nV nD n:Nat)(rs:List ak):List Ty:=(bX nV nD rs).map (dB n rs)
def rz(nV nD n:Nat)(rs:List ak):Ty:=Ty.all (iF nV nD n rs)
def cL(n:Nat)(rs:List ak):List AV→List Nat
 | []=> []
 |c::cs=>match c with
  | .sl i [] none=>bif Nat.blt i n then i::cL n rs cs else cL n rs cs
  |_=>cL n rs cs
mutual
def b9(get:Get)(hs:List AV)(n:Nat):AV→AV→Bool
 | .nilS,.nilS=>true
 | .sl i [] none,.sl r [] none=>Nat.ble n i&&(match hs.getD i .undef with
  | .sl r' [] none=>Nat.beq r' r
  |_=>false)&&(match get r with
  | .row _ _ _=>true
  |_=>false)
 | .pv i c,.pv r c'=>Nat.beq c c'&&(match hs.getD i .undef with
  | .pv r' 0=>Nat.beq r' r
  |_=>false)&&(match get r with
  | .var _=>true
  |_=>false)
 | .fn f a b,.fn f' a' b'=>Nat.beq f f'&&(pq get hs n a a'&&pq get hs n b b')
 |_,_=>false
def pq(get:Get)(hs:List AV)(n:Nat):List AV→List AV→Bool
 | [],[]=>true
 |v::vs,u::us=>b9 get hs n v u&&pq get hs n vs us
 |_,_=>false
end
def rd1(get:Get)(t:Ty)(v:AV):List Tst×den t×List Nat:=
 match t with
 | .unit=>([],(),[])
 |t=>match bm get t [v]with
  |(ok,x,_)=>match gives get t [v]with
   |(ok',l,_)=>(ok++ok',x,l)
def sU(get:Get):(tys:List Ty)→List AV→List Tst×den (Ty.all tys)×List Nat
 | [],_=>([],(),[])
 | [t],fin=>rd1 get t (fin.headD .undef)
 |t::u::r,fin=>match rd1 get t (fin.headD .undef)with
  |(ok,x,l)=>match sU get (u::r) fin.tail with
   |(ok',y,l')=>(ok++ok',(x,y),l++l')
def xL(get:Get)(hs:List AV)(i:Nat):AV→Bool
 | .sl r [] none=>(match hs.getD i .undef with
   | .sl r' [] none=>Nat.beq r' r
   |_=>false)&&(match get r with
   | .row _ _ _=>true
   |_=>false)
 |_=>false
def rf(get:Get)(hs:List AV)(n:Nat):List Ty→List AV→List AV→Bool
 | [],_,_=>true
 |t::tys,c,fin=>(match t with
  | .unit=>(match c.headD .undef with
   | .undef=>true
   | .sl i [] (some _)=>xL get hs i (fin.headD .undef)
   |c=>b9 get hs n c (fin.headD .undef))
  |_=>true)&&rf get hs n tys c.tail fin.tail
def varsOf(get:Get):List AV→List ak→List Tst×List AV
 | [],[]=>([],[])
 |h::hs,r::rs=>match h with
  | .pv x 0=>match get x with
   | .var cs'=>match varsOf get hs rs with
    |(ok,cs)=>(.s (Nat.beq cs'.length (cR r).length)::ok,cs'++cs)
   |_=>([.s false],[])
  |_=>([.s false],[])
 |_,_=>([.s false],[])
def wL(P:Program)(f nV nD n:Nat)(rs:List ak)(vs':List AV)(st':St):Option (den (resTy P f)×den (rz nV nD n rs)):=
 match varsOf st'.get (st'.top.take nV) (rs.take nV)with
 |(ok0,fin)=>
  match bm st'.get (resTy P f) (vs'.flatMap AV.cells)with
  |(ok1,y,rest)=>match gives st'.get (resTy P f) (vs'.flatMap AV.cells)with
   |(ok2,l,_)=>
    match sU st'.get (iF nV nD n rs) ((st'.top.drop nV).take nD++fin)with
    |(ok3,x,l')=>
     chk (ok0++(ok1++(ok2++(ok3++ [.s (fitAll P (bB P f) vs'),.s rest.isEmpty,.s (decide (l++l').Nodup),.s (Nat.beq ((st'.top.drop nV).take nD).length nD),
      .s (rf st'.get st'.top n (iF nV nD n rs) (bX nV nD rs) ((st'.top.drop nV).take nD++fin))])))) (some (y,x))
def AV.strip:AV→AV
 | .int k _=> .int k 0
 | .bool _=> .bool false
 | .str _=> .str ByteArray.empty
 |v=>v
def ak.strip:ak→ak
 | .var cs=> .var (cs.map AV.strip)
 | .row rw t _=> .row rw t []
 | .half t _=> .half t []
 | .sh t _=> .sh t []
 |x=>x
def j8{P:Program}(env:Env P)(f nV nD n:Nat)(rs0:List ak)(st:St):Option (den (resTy P f)×den (rz nV nD n rs0)):=
 env.inl f st.top ⟨st.fr.tail,st.rs⟩ fun vs' st'=>wL P f nV nD n rs0 vs' st'
def gP:(tys:List Ty)→den (Ty.all tys)→List Cell
 | [],_=> []
 | [t],x=> [⟨t,x⟩]
 |t::u::r,x=>⟨t,x.1⟩::gP (u::r) x.2
def AQ(o:AV):Cell→AV
 |⟨.int k,n⟩=> .int k n
 |⟨.bool,b⟩=> .bool b
 |⟨.str,s⟩=> .str s
 |_=>o
def gL:List AV→List Cell→List AV
 |o::os,c::cs=>AQ o c::gL os cs
 |os,[]=>os
 | [],_=> []
def fc(n:Nat)(L:List Nat)(rs:List ak):List AV→List Cell→List (Nat×ak)
 |c::cs,b::bs=>(match c,b with
  | .sl i [] none,⟨.sl t,xs⟩=>bif Nat.blt i n then [(L.getD i 0,.row true t xs)]else []
  |_,_=> [])++fc n L rs cs bs
 |_,_=> []
def jR(get:Get):List Nat→List AV→List (Nat×ak)
 | [],_=> []
 |r::V,cs=>(r,.var (cs.take (aJ get r).length))::jR get V (cs.drop (aJ get r).length)
def dQ(n:Nat):List Nat→St→St
 | [],st=>st
 |r::l,st=>dQ n l (st.cut (some (r,n)))
def jq(ls:ba)(st:St)(vs:List AV):List Tst×St:=
 match fk (fun r=>bif ls.all.contains r then .dead else st.get r) ls.all vs ls.all.length with
 |(okA,vsS,roA)=>match fC st.get (fun r=>bif ls.all.contains r then .dead else st.get r) ls.all ls.lv (ls.all.length+roA.length)with
  |(okV,vrs,roV)=>(okA++okV,⟨[vsS,kB ls.lv.length ls.ld.length ls.all.length (roA.length+roV.length)],vrs++((ls.ld++ls.ln).map st.get++(roA++roV))⟩)
def ve(ls:ba)(st:St)(rsS:List ak)(cells:List Cell):List (Nat×ak):=
 fc ls.all.length ls.all rsS (bX ls.lv.length ls.ld.length rsS) cells++jR st.get ls.lv (gL (ls.lv.flatMap (aJ st.get)) (cells.drop ls.ld.length))
def lX(ls:ba)(st:St)(rsS:List ak)(x:den (rz ls.lv.length ls.ld.length ls.all.length rsS)):St:=
 ⟨(dQ 0 ls.ln (dQ 1 ls.ld st)).fr,cD (dQ 0 ls.ln (dQ 1 ls.ld st)).rs (ve ls st rsS (gP (iF ls.lv.length ls.ld.length ls.all.length rsS) x))⟩
def Fo(r:Nat):AV→Bool
 | .sl r' [] none=>Nat.beq r' r
 |_=>false
def Ep(m7:Bool)(st:St)(l:List Nat):List Nat:=bif m7 then l.filter (fun r=>(st.fr.getLastD []).any (Fo r))else []
def E9(m7:Bool)(st:St)(l:List Nat):List Nat:=bif m7 then l.filter (fun r=> !(st.fr.getLastD []).any (Fo r))else l
def ioK{P:Program}{R:Type}(env:Env P)(m3 m7:Bool)(f:Nat)(vs:List AV)(st:St)(K:List AV→St→Option R):Option R:=
 kg (vt st.get vs) fun lv=>kg (vN m3 st.get vs++Ep m7 st (pd m3 st.get lv)) fun ld=>kg (E9 m7 st (pd m3 st.get lv)) fun ln=>
 match jq ⟨lv,ld,ln⟩ st vs with
 |(ok,stS)=>chk (.s (decide (ba.all ⟨lv,ld,ln⟩).Nodup):: .s (a8 st.rs (di (ba.all ⟨lv,ld,ln⟩)))::
   .s (decide (cL (ba.all ⟨lv,ld,ln⟩).length stS.rs (bX lv.length ld.length stS.rs)=List.range' lv.length (ld.length+ln.length)))::ok) (St.force stS fun stS=>pI (stS.rs.map ak.strip) fun rs0=>
  D.bnd (j8 env f lv.length ld.length (ba.all ⟨lv,ld,ln⟩).length rs0 stS) fun yx=>
   St.force (lX ⟨lv,ld,ln⟩ st rs0 yx.2) fun st2=>
   match ef P true (bB P f) yx.1 st2.rs.length with
   |(vs',rs)=>K vs' {st2 with rs:=cD st2.rs (aj st2.rs.length rs)})
def wh{P:Program}{R:Type}(env:Env P)(f:Nat)(vs:List AV)(st:St)(base:Nat)(K:List AV→List (Nat×ak)→List Nat→List Nat→Option R):Option R:=
 kg (vt st.get vs) fun lv=>
 match jq ⟨lv,[],[]⟩ st vs with
 |(ok,stS)=>chk (.s (decide (ba.all ⟨lv,[],[]⟩).Nodup):: .s (a8 st.rs (di (ba.all ⟨lv,[],[]⟩)))::
   .s (decide (cL (ba.all ⟨lv,[],[]⟩).length stS.rs (bX lv.length 0 stS.rs)=List.range' lv.length 0))::ok) (St.force stS fun stS=>pI (stS.rs.map ak.strip) fun rs0=>
  D.bnd (j8 env f lv.length 0 (ba.all ⟨lv,[],[]⟩).length rs0 stS) fun yx=>
   match ef P true (bB P f) yx.1 base with
   |(vs',rs)=>K vs' (ve ⟨lv,[],[]⟩ st rs0 (gP (iF lv.length 0 (ba.all ⟨lv,[],[]⟩).length rs0) yx.2)++aj base rs)
     (AV.ah vs++(lv++AV.ah (lv.flatMap (aJ st.get)))) lv)
def Bg(vs:List AV):List Nat:=ic [] (vs.flatMap fun v=>match v with
 | .lit r _=> [r]
 |_=> [])
def ioC{P:Program}{R:Type}(env:Env P)(f:Nat)(vs:List AV)(st:St)(base:Nat)(K:List AV→List (Nat×ak)→List Nat→List Nat→Option R):Option R:=
 kg (Bg vs) fun lv=>kg (vN true st.get vs++pd true st.get lv) fun ln=>
 match jq ⟨lv,[],ln⟩ st vs with
 |(ok,stS)=>chk (.s (decide (ba.all ⟨lv,[],ln⟩).Nodup):: .s (a8 st.rs (di (ba.all ⟨lv,[],ln⟩)))::ok) (St.force stS fun stS=>pI (stS.rs.map ak.strip) fun rs0=>
  D.bnd (j8 env f 0 0 (ba.all ⟨lv,[],ln⟩).length rs0 stS) fun yx=>
   match ef P true (bB P f) yx.1 base with
   |(vs',rs)=>K vs' (cp (ba.all ⟨lv,[],ln⟩)++aj base rs)
     (AV.ah vs++(lv++AV.ah (lv.flatMap (aJ st.get)))) (ba.all ⟨lv,[],ln⟩))
def ioD{P:Program}{R:Type}(m:Nat)(env:Env P)(f:Nat)(vs:List AV)(st:St)(base:Nat)(K:List AV→List (Nat×ak)→List Nat→List Nat→Option R):Option R:=
 bif Nat.beq m 5 then ioC env f vs st base K else wh env f vs st base K
def GO(get:Get):AV→Bool
 | .sl r (_::_) _=>(match get r with
  | .row true _ _=>true
  |_=>false)
 |_=>false
def aQ(get:Get)(m:Nat)(vs:List AV):Bool:=Nat.beq m 7||(Nat.ble 3 m&&Nat.ble m 4&& !(Nat.beq m 3&&(vs.flatMap AV.cells).any (GO get)))
def Ae{a b:Ty}(h:a=b)(x:Option (den a)):Option (den b):=h▸x
def qy{P:Program}(env:Env P)(g:Nat)(t:Ty)(xs:List (den t)):Option (List (den t)):=
 match decEq (dG P g) (.pair t t),decEq (resTy P g) (.int .i64)with
 | .isTrue h1,.isTrue h2=>D.srt (fun a b=>Ae h2 (env.pc g (nq h1.symm (a,b)))) xs
 |_,_=>none
def oP(P:Program)(g:Nat)(t:Ty):Bool:=match dt P g,bB P g with
 | [a,b],[c]=>(match P.funcs[g]? with
  |some fn=> !(fn.name== "runtime.NumGoroutine")
  |none=>false)&&(kj P a&&(kj P b&& !kj P c)&&decide (tyD P a=t∧tyD P b=t))
 |_,_=>false
def xa{P:Program}{R:Type}(env:Env P)(f:Nat)(vs:List AV)(st:St)(K:List AV→St→Option R):Option R:=
 match vs with
 | [.sl r [] none,.fn g [] []]=>(match st.get r with
  | .row true t xs=>env.srt f t.size (chk [.s (a8 st.rs (di [r])),.s (oP P g t)] (D.bnd (qy env g t xs) fun ys=>
    St.force ⟨(st.cut (some (r,1))).fr,cD (st.cut (some (r,1))).rs [(r,.row true t ys)]⟩ fun st=>K [] st))
  |_=>none)
 |_=>none
def Ax{R:Type}(f:Nat)(vs:List AV)(st:St)(K:List AV→St→Option R):Option R:=
 bif Nat.beq (cfg.mode f) 8 then xa env f vs st K else
 bif aQ st.get (cfg.mode f) vs then ioK env (Nat.beq (cfg.mode f) 3||Nat.beq (cfg.mode f) 7) (Nat.beq (cfg.mode f) 7) f vs st K else env.inl f vs st K
def qU(f:Nat)(vs:List AV)(base:Nat):List AV×List ak:=
 bif Nat.beq (cfg.mode f) 2||Nat.beq (cfg.mode f) 5 then(vs,[])else qW P (dt P f) vs base
def tI(get:Get)(vs:List AV):List Nat:=(ic [] (AV.ah vs++gq get (vs.flatMap AV.cells))).filter fun r=>match get r with
 | .row false _ _=>false
 | .dead=>false
 |_=>true
def AK:ak→Bool
 | .row true _ _=>true
 | .sh _ _=>true
 | .var _=>true
 |_=>false
def ioS{P:Program}{R:Type}(env:Env P)(f:Nat)(vs:List AV)(st:St)(K:List AV→St→Option R):Option R:=
 kg (tI st.get vs) fun L=>
 match fH st.get (dG P f) (vs.flatMap AV.cells)with
 |(ok,x,rest)=>chk (.s (fitAll P (dt P f) vs):: .s rest.isEmpty:: .s (a8 st.rs (di L)):: .s (L.all fun r=>AK (st.get r))::ok) (D.bnd (env.ps f x) fun y=>
   match ef P false (bB P f) y st.rs.length with
   |(vs',rs)=>K vs' {st with rs:=cD st.rs (cp L++aj st.rs.length rs)})
def rh(base:Nat)(dr:Bool)(o:Oper)(c:Call)(st:St)(K:Touch→St→Option R):Option R:=
 match c.callee with
 | .builtin _=>xE o (o.op.operands.toList.map (al st)) (aO P o (o.op.operands.toList.map (al st)) st.get base) st K
 | .invoke _ _=>none
 | .value x=>match al st x with
  | .fn f first cap=>
   bif Nat.beq (cfg.mode f) 0 then
    match first,cap with
    | [],[]=>
     match fH st.get (dG P f) ((c.args.toList.map (al st)).flatMap AV.cells)with
     |(ok,x,rest)=>chk (.s (fitAll P (dt P f) (c.args.toList.map (al st))):: .s rest.isEmpty::ok) (D.bnd (env.pc f x) fun r=>
      match ef P true (bB P f) r base with
      |(vs,rs)=>St.force ({st with rs:=cD st.rs (aj base rs)}.put o.dst (tw vs))
        (K ⟨AV.ah (c.args.toList.map (al st))++gq st.get ((c.args.toList.map (al st)).flatMap AV.cells),(aj base rs).map (·.1),jb st (aj base rs),false⟩))
    |_,_=>none
   else bif Nat.beq (cfg.mode f) 6 then(bif dr then none else match first,cap with
    | [],[]=>ioS env f (c.args.toList.map (al st)) st fun vs st'=>St.force (st'.put o.dst (tw vs)) (K ⟨[],[],[],true⟩)
    |_,_=>none)
   else bif dr then(bif Nat.ble 4 (cfg.mode f)then
     ioD (cfg.mode f) env f (first++c.args.toList.map (al st)++cap) st base fun vs upd rd qu=>
      kg rd fun rd=>kg (upd.map (·.1)) fun wr=>kg (qu++jb st upd) fun qu=>
      St.force ({st with rs:=cD st.rs upd}.put o.dst (tw vs)) (K ⟨rd,wr,qu,false⟩)
    else none)else
    match qU P cfg f (first++c.args.toList.map (al st)++cap) st.rs.length with
    |(vs,rs)=>Ax P cfg env f vs {st with rs:=st.rs++rs} fun vs st'=>St.force (st'.put o.dst (tw vs)) (K ⟨[],[],[],true⟩)
  |_=>none
def pb(base:Nat)(dr:Bool)(o:Oper)(st:St)(K:Touch→St→Option R):Option R:=
 match o.op with
 | .call c=>bif (gT P c).isSome then xE o (o.op.operands.toList.map (al st)) (aO P o (o.op.operands.toList.map (al st)) st.get base) st K else rh P cfg env base dr o c st K
 |_=>xE o (o.op.operands.toList.map (al st)) (aO P o (o.op.operands.toList.map (al st)) st.get base) st K
def opK(base:Nat)(dr:Bool)(o:Oper)(st:St)(K:Touch→St→Option R):Option R:=
 bif dr then pb P cfg env base dr o st K else match zH P o (o.op.operands.toList.map (evK st)) st.get with
 |some out=>xE o (o.op.operands.toList.map (al st)) out st K
 |none=>pb P cfg env base dr o st K
def EK(a b:List Nat):Bool:=a.all fun x=> !b.contains x
def indep(a b:Touch):Bool:=
 !a.alone&& !b.alone&&EK a.writes b.reads&&EK a.writes b.writes&&EK a.reads b.writes&&EK a.quiet b.quiet
def lO(ops:Array Oper)(bf:List Nat):List (Nat×Touch)→Bool
 | []=>true
 |(j,t)::r=>(r.all fun x=>(bf.getD j 0).testBit x.1||
   (indep t x.2&&(match ops[x.1]?,ops[j]? with
    |some a,some b=>Oper.apart ops a b
    |_,_=>false)))&&lO ops bf r
def tM(b0:Nat)(bf:List Nat)(tr:List (Nat×Touch)):Bool:=
 tr.all fun x=>x.2.writes.all fun r=>Nat.blt r b0||((Nat.ble (b0+16*x.1) r&&Nat.blt r (b0+16*x.1+16))||
  (Nat.blt r (b0+16*x.1)&&(bf.getD x.1 0).testBit ((r-b0)/16)))
def nj(b0:Option Nat)(i:Nat)(st:St):Nat:=match b0 with
 |none=>st.rs.length
 |some b=>b+16*i
def mQ(ops:Array Oper)(i:Nat):Bool:=ops.toList.any fun o=>match o.guard with
 |some (j,_)=>Nat.beq j i
 |none=>false
def iK(ops:Array Oper)(i:Nat)(o:Oper)(st:St)(K:St→Option R):Option R:=
 match o.dst with
 |none=>K st
 |some d=>match st.top.getD d .undef with
  | .bool b=>bif mQ ops i then D.test b (K (st.put (some d) (.kb true))) (K (st.put (some d) (.kb false)))else K st
  |_=>K st
def fE:Touch:=⟨[],[],[],false⟩
def iQ(b0:Option Nat)(ops:Array Oper)(i:Nat)(st:St)(K:Touch→St→Option R):Option R:=
 match ops[i]? with
 |none=>none
 |some o=>
  match o.guard with
  |none=>opK P cfg env (nj b0 i st) b0.isSome o st fun t st=>iK ops i o st (K t)
  |some (j,want)=>match (ops[j]?).bind (·.dst)with
   |none=>none
   |some d=>match st.top.getD d .undef with
    | .kb b=>bif b==want then opK P cfg env (nj b0 i st) b0.isSome o st fun t st=>iK ops i o st (K t)else St.force (st.put o.dst (.tup [])) (K fE)
    | .tup _=>St.force (st.put o.dst (.tup [])) (K fE)
    |_=>none
def dZ(b0:Option Nat)(ops:Array Oper):List Nat→List (Nat×Touch)→St→(List (Nat×Touch)→St→Option R)→Option R
 | [],tr,st,K=>K tr st
 |i::rest,tr,st,K=>iQ P cfg env b0 ops i st fun t st=>dZ b0 ops rest ((i,bif b0.isSome then t else fE)::tr) st K
def ly(ops:Array Oper):Bool:=(List.range ops.size).all fun i=>match ops[i]? with
 |some o=>o.after.toList.all fun e=> !Region.binds .any e||Nat.blt e.on i
 |none=>true
def key:Code→Nat
 | .region id _ _=>2*id
 | .cond (.tmp t) _ _=>2*t+1
 | .seq a _=>key a
 | .block _ c=>key c
 | .loop c=>key c
 | .scope c=>key c
 |_=>far
abbrev cM(R:Type):=Ex→St→Option R
def pX(next:St→cM R→Option R)(K:cM R):cM R:=fun e st=>match e with
 | .normal=>next st K
 | .exit i=>K (.exit i) st
 | .ret=>K .ret st
def dv(id:Nat)(K:cM R):cM R:=fun e st=>match e with
 | .normal=>K .normal st
 | .exit i=>bif Nat.beq i id then K .normal st else K (.exit i) st
 | .ret=>K .ret st
def gB(h:Option (List Nat))(F:St→Option R)(st:St):Option R:=match h with
 |some live=>St.force (st.canon live) (D.jn F)
 |none=>F st
def ju(F:St→cM R→Option R)(h:Option (List Nat)):Nat→St→cM R→Option R
 |0,_,_=>none
 |n+1,st,K=>F st (pX (fun st' K=>gB h (fun st''=>ju F h n st'' K) st') K)
def ud(F:St→Option R):cM R:=fun e st=>match e with
 | .normal=>F st
 | .exit _=>none
 | .ret=>F st
def cx:Code→Bool
 | .seq a b=>cx a&&cx b
 | .cond _ a b=>cx a&&cx b
 | .block _ c=>cx c
 | .loop c=>cx c
 | .rangeFunc _ _ _ _=>false
 |_=>true
def um(o:Oper)(t:Nat):Bool:=match o.dst with
 |some d=>Nat.beq d t
 |none=>false
def D2(o:Oper):Option Nat:=match o.op,o.dst,o.guard with
 | .move (.tmp 0),some t,none=>some t
 |_,_,_=>none
def D1(o:Oper):Option (Nat×Nat×Array Operand):=match o.op,o.dst,o.guard with
 | .call c,some v,none=>match c.callee with
  | .value (.tmp t)=>some (v,t,c.args)
  |_=>none
 |_,_,_=>none
def GF(o:Oper):Option (Nat×Nat):=match o.op,o.dst,o.guard with
 | .unOp .not _ (.tmp v),some d,none=>some (d,v)
 |_,_,_=>none
def Bk(ops:Array Oper)(t i:Nat):Bool:=match ops[i]? with
 |some o=> !(um o 0)&& !(um o t)
 |none=>false
def sA:Code→Code→Option (Array Oper×Nat×Array Operand×Nat×Nat)
 | .region _ ops false,.cond (.tmp d) .ret .skip=>
  match (ops[0]?).bind D2,(ops[ops.size-2]?).bind D1,(ops[ops.size-1]?).bind GF with
  |some t,some (v,t',args),some (d',v')=>
   bif Nat.ble 3 ops.size&&(Nat.beq t t'&&(Nat.beq v v'&&(Nat.beq d d'&&(!(Nat.beq t 0)&&(!(Nat.beq v 0)&&(!(Nat.beq d 0)&&
    (List.range' 1 (ops.size-3)).all (Bk ops t)))))))then some (ops,t,args,v,d)else none
  |_,_,_=>none
 |_,_=>none
def Ca(hand:List AV→St→(St→Option R)→Option R)(N:Nat)(u:Array Oper×Nat×Array Operand×Nat×Nat)(st:St)(K:cM R):Option R:=
 match u with
 |(ops,t,args,v,d)=>bif Nat.blt t N&&(Nat.blt v N&&Nat.blt d N)then St.force (st.put (some t) .undef) fun st=>
  dZ P cfg env none ops (List.range' 1 (ops.size-3)) [] st fun _ st=>
   hand (args.toList.map (al st)) st fun st=>St.force ((st.put (some v) (.kb true)).put (some d) (.kb false)) fun st=>K .normal st
  else none
def fw(hand:List AV→St→(St→Option R)→Option R)(N kl fid:Nat):Code→St→cM R→Option R
 | .skip,st,K=>K .normal st
 | .region _ ops draw,st,K=>bif !draw&&ops.toList.all (fun o=> !(um o 0))then dZ P cfg env none ops (List.range ops.size) [] st fun _ st=>K .normal st else none
 | .seq a b,st,K=>match sA a b with
  |some u=>Ca P cfg env hand N u st K
  |none=>fw hand N kl fid a st (pX (fun st K=>gB (cfg.joins fid (key b)) (fun st=>fw hand N kl fid b st K) st) K)
 | .cond c x y,st,K=>match al st c with
  | .bool b=>D.test b (fw hand N kl fid x st K) (fw hand N kl fid y st K)
  | .kb b=>bif b then fw hand N kl fid x st K else fw hand N kl fid y st K
  |_=>none
 | .block id c,st,K=>fw hand N kl fid c st (dv id K)
 | .loop c,st,K=>gB (cfg.loops fid (key c)) (fun st=>ju (fun st K=>fw hand N kl fid c st K) (cfg.loops fid (key c)) kl st K) st
 | .exit id,st,K=>K (.exit id) st
 | .ret,st,K=>K .ret st
 |_,_,_=>none
def iD(fn:Func)(args:List AV):List AV:=args++List.replicate (fn.ntmps-args.length) (.tup [])
def uD(ps:Array Tmp)(vs:List AV)(f:List AV):List AV:=(ps.toList.zip vs).foldl (fun f x=>f.set x.1 x.2) f
def EI(Kgo:St→Option R)(KX:cM R):cM R:=fun e st=>match e with
 | .normal=>Kgo ⟨st.fr.tail,st.rs⟩
 | .exit i=>KX (.exit i) ⟨st.fr.tail.tail,st.rs⟩
 | .ret=>KX .ret ⟨st.fr.tail.tail,st.rs⟩
def Ha(F:St→Option R):cM R:=fun e st=>match e with
 | .normal=>F st
 | .exit _=>none
 | .ret=>none
def qZ(FA FB:St→cM R→Option R)(ps:Array Tmp)(KX:cM R)(vs:List AV)(st:St)(Kgo:St→Option R):Option R:=
 match st.fr with
 |it::top::rest=>bif Nat.beq vs.length ps.size then
   St.force ⟨uD ps vs top::it::top::rest,st.rs⟩ fun st=>FA st (Ha fun st=>FB st (EI Kgo KX))
  else none
 |_=>none
def St.nM(st:St):Option (List Nat)→St
 |some live=>st.cN live
 |none=>st
def isFull(bf:List Nat)(i:Nat):Bool:=(List.range i).all fun j=>(bf.getD i 0).testBit j
def gr(bf:List Nat):Nat→Nat
 |0=>0
 |n+1=>bif isFull bf n then gr bf n else n+1
def exec(kl fid:Nat):Code→St→cM R→Option R
 | .skip,st,K=>K .normal st
 | .region _ ops draw,st,K=>
  bif draw then qV st.rs.length fun b0=>kg (Region.before ops).toList fun bf=>qV (gr bf ops.size) fun m=>
   dZ P cfg env (some b0) ops (List.range m) [] st fun tr st=>bif lO ops bf tr&&(tM b0 bf tr&&ly ops)then
    dZ P cfg env none ops (List.range' m (ops.size-m)) [] st fun _ st=>K .normal st else none
  else dZ P cfg env none ops (List.range ops.size) [] st fun _ st=>K .normal st
 | .seq a b,st,K=>exec kl fid a st (pX (fun st K=>gB (cfg.joins fid (key b)) (fun st=>exec kl fid b st K) st) K)
 | .cond c x y,st,K=>match al st c with
  | .bool b=>D.test b (exec kl fid x st K) (exec kl fid y st K)
  | .kb b=>bif b then exec kl fid x st K else exec kl fid y st K
  | .nb n=>bif Nat.beq (cfg.mode fid) 0 then D.test (D.eqN n 0) (D.both (exec kl fid x st K) (exec kl fid y st K)) (exec kl fid y st K)else none
  |_=>none
 | .block id c,st,K=>exec kl fid c st (dv id K)
 | .loop c,st,K=>gB (cfg.loops fid (key c)) (fun st=>ju (fun st K=>exec kl fid c st K) (cfg.loops fid (key c)) kl st K) st
 | .exit id,st,K=>K (.exit id) st
 | .ret,st,K=>K .ret st
 | .rangeFunc h ps x y,st,K=>bif cx x&&cx y then match al st h with
   | .fn f [] cap=>match P.funcs[f]? with
    |none=>none
    |some fn=>match fn.body with
     |none=>none
     |some c=>bif fn.results.isEmpty then St.force ⟨iD fn (.undef::cap)::(st.nM (cfg.loops fid (far+key y))).fr,st.rs⟩ fun st=>
      fw P cfg env (qZ (fun st K=>exec kl fid x st K) (fun st K=>exec kl fid y st K) ps K) fn.ntmps kl f c st (ud fun st=>K .normal ⟨st.fr.tail,st.rs⟩)
      else none
   |_=>none
  else none
 |_,_,_=>none
end run
def n9(P:Program)(st:St):ResultVar→List Tst×AV
 | .tmp t=>([],al st (.tmp t))
 | .cell a t=>((eQ P t (st.top.getD a .undef) st.get).ok,(eQ P t (st.top.getD a .undef) st.get).v)
def rC(P:Program)(fn:Func)(st:St):List Tst×List AV:=
 ((fn.results.toList.map (n9 P st)).flatMap (·.1),(fn.results.toList.map (n9 P st)).map (·.2))
def finish(P:Program)(f:Nat)(fn:Func)(st:St):Option (den (resTy P f)):=
 match rC P fn st with
 |(ok,vs)=>match bm st.get (resTy P f) (vs.flatMap AV.cells)with
  |(ok1,x,rest)=>match gives st.get (resTy P f) (vs.flatMap AV.cells)with
   |(ok2,l,_)=>chk (ok++ok1++ok2++ [.s (fitAll P (bB P f) vs),.s rest.isEmpty,.s (decide l.Nodup)]) (some x)
def rk(P:Program)(f:Nat)(fn:Func)(st:St):Option (den (resTy P f)):=
 match rC P fn st with
 |(ok,vs)=>match fH st.get (resTy P f) (vs.flatMap AV.cells)with
  |(ok1,x,rest)=>chk (ok++ok1++ [.s (fitAll P (bB P f) vs),.s rest.isEmpty]) (some x)
def xC{R:Type}(o:Option Nat)(n:Nat)(x:Option R):Option R:=match o with
 |some m=>bif Nat.beq m n then x else none
 |none=>none
structure Ext (P : Program) where
  fn : (f : Nat) → Option (den (dG P f) → Option (den (resTy P f)))
  srt : Nat → Option Nat
def xJ(P:Program)(cfg:Cfg)(E:Ext P)(env:Env P)(k f:Nat)(x:den (dG P f)):Option (den (resTy P f)):=
 match E.fn f with
 |some g=>g x
 |none=>match P.funcs[f]? with
  |none=>none
  |some fn=>match fn.body with
   |none=>none
   |some c=>
    match ef P false (dt P f) x 0 with
    |(vs,rs)=>St.force {fr:= [iD fn vs],rs:=rs} fun st=>exec P cfg env k f c st (ud (finish P f fn))
def EF(P:Program)(cfg:Cfg)(env:Env P)(k f:Nat)(x:den (dG P f)):Option (den (resTy P f)):=
 bif Nat.beq (cfg.mode f) 6 then
  match P.funcs[f]? with
  |none=>none
  |some fn=>match fn.body with
   |none=>none
   |some c=>match ef P false (dt P f) x 0 with
    |(vs,rs)=>St.force {fr:= [iD fn vs],rs:=rs} fun st=>exec P cfg env k f c st (ud (rk P f fn))
 else none
def lr{R:Type}(P:Program)(fn:Func)(K:List AV→St→Option R)(st:St):Option R:=
 match rC P fn st with
 |(ok,vs)=>chk ok (K vs {st with fr:=st.fr.tail})
def rS(P:Program)(cfg:Cfg)(env:Env P)(k:Nat){R:Type}(f:Nat)(args:List AV)(st:St)(K:List AV→St→Option R):Option R:=
 bif Nat.beq (cfg.mode f) 0 then none else
 match P.funcs[f]? with
 |none=>none
 |some fn=>match fn.body with
  |none=>none
  |some c=>St.force {st with fr:=iD fn args::st.fr} fun st=>exec P cfg env k f c st (ud (lr P fn K))
def qt(P:Program)(cfg:Cfg)(E:Ext P):Nat→Env P
 |0=>⟨fun _ _=>none,fun _ _=>none,fun _ _ _ _=>none,fun _ _ _=>none⟩
 |k+1=>⟨fun f x=>xJ P cfg E (qt P cfg E k) k f x,fun f x=>EF P cfg (qt P cfg E k) k f x,fun f args st K=>rS P cfg (qt P cfg E k) k f args st K,fun f n x=>xC (E.srt f) n x⟩
def yi(P:Program)(cfg:Cfg)(E:Ext P)(k f:Nat)(x:den (dG P f)):Option (den (resTy P f)):=(qt P cfg E k).pc f x
def Ge(P:Program)(cfg:Cfg)(E:Ext P)(k f:Nat)(x:den (dG P f)):Option (den (resTy P f)):=(qt P cfg E k).ps f x
end Go.Am
end
section
/- The abstract machine: functions of Go's library that are not walked: what they make of data. -/
noncomputable section
namespace Go.Am
inductive Lk where
  | join | itoa | rep | cmp
def r7(xs:List ByteArray)(sep:ByteArray):Option ByteArray:=
 if xs.length≤140737488355328∧(Lib.join (xs.map (·.data.toList)) sep.data.toList).length≤140737488355328 then
  some ⟨(Lib.join (xs.map (·.data.toList)) sep.data.toList).toArray⟩else none
def rB(n:Int):Option ByteArray:=if 0≤n∧n<100 then some ⟨(Lib.decDigits n.toNat).toArray⟩else none
def wW(s:ByteArray)(c:Int):Option ByteArray:=
 if 0≤c∧c≤9223372036854775807∧s.size*c.toNat≤140737488355328 then some ⟨(Lib.repeatL s.data.toList c.toNat).toArray⟩else none
def Eg(a b:ByteArray):Option Int:=some (Lib.compareBytes a.data.toList b.data.toList)
def rW:Lk→List Ty×List Ty
 | .join=>([.sl .str,.str],[.str])
 | .itoa=>([.int .i64],[.str])
 | .rep=>([.str,.int .i64],[.str])
 | .cmp=>([.str,.str],[.int .i64])
def yr(P:Program)(k:Lk)(ts us:List TypeId):Bool:=
 decide (ts.map (tyD P)=(rW k).1)&&(decide (us.map (tyD P)=(rW k).2)&&(ts.all (fun t=> !kj P t)&&us.all (fun t=> !kj P t)))
def pz:(k:Lk)→(t u:Ty)→Option (den t→Option (den u))
 | .join,.pair (.sl .str) .str,.str=>some fun x=>r7 x.1 x.2
 | .itoa,.int .i64,.str=>some fun x=>rB x
 | .rep,.pair .str (.int .i64),.str=>some fun x=>wW x.1 x.2
 | .cmp,.pair .str .str,.int .i64=>some fun x=>Eg x.1 x.2
 |_,_,_=>none
def EW(P:Program)(lib:Nat→Option Lk)(srt:Nat→Option Nat):Ext P:=⟨fun f=>match lib f with
 |some k=>bif yr P k (dt P f) (bB P f)then pz k (dG P f) (resTy P f)else none
 |none=>none,srt⟩
end Go.Am
end
