/- The machine: an executor of code over data, by symbols; nothing is proved here but small facts of its parts. -/
import Derived.Calls
import Derived.KernelRfl
import Derived.Laws.Sem
import Derived.Orders
import Derived.Lib.Join
import Derived.Lib.Repeat
import Derived.Lib.ItoaNum
import Derived.Lib.Bytealg
set_option linter.unusedSimpArgs false
set_option linter.unusedVariables false
set_option linter.unnecessarySimpa false
set_option linter.unusedSectionVars false
section
/- The abstract machine, first part: typed trees, abstract values, states. -/
noncomputable section
namespace Go.Am
class D where
  rd : {α : Type} → (xs : List α) → (i : Nat) → (d : α) → α
  len : {α : Type} → (xs : List α) → Nat
  lenI : {α : Type} → (xs : List α) → Int
  app : {α : Type} → (xs : List α) → (ys : List α) → List α
  set : {α : Type} → (xs : List α) → (i : Nat) → (x : α) → List α
  take : {α : Type} → (n : Nat) → (xs : List α) → List α
  drop : {α : Type} → (n : Nat) → (xs : List α) → List α
  rep : {α : Type} → (n : Nat) → (x : α) → List α
  test : {α : Type} → (b : Bool) → (x : Option α) → (y : Option α) → Option α
  bnd : {α : Type} → {β : Type} → (x : Option α) → (f : α → Option β) → Option β
  both : {α : Type} → (x : Option α) → (y : Option α) → Option α
  jn : {α : Type} → {β : Type} → (F : α → Option β) → (x : α) → Option β
  sel : {α : Type} → (b : Bool) → (x : α) → (y : α) → α
  no : (b : Bool) → Bool
  wrap : (k : IntKind) → (n : Int) → Int
  add : (a : Int) → (b : Int) → Int
  sub : (a : Int) → (b : Int) → Int
  mul : (a : Int) → (b : Int) → Int
  quo : (a : Int) → (b : Int) → Int
  rem : (a : Int) → (b : Int) → Int
  ofN : (n : Nat) → Int
  nat : (n : Int) → Nat
  addN : (a : Nat) → (b : Nat) → Nat
  subN : (a : Nat) → (b : Nat) → Nat
  eq : (a : Int) → (b : Int) → Bool
  lt : (a : Int) → (b : Int) → Bool
  le : (a : Int) → (b : Int) → Bool
  eqB : (a : Bool) → (b : Bool) → Bool
  ltN : (a : Nat) → (b : Nat) → Bool
  leN : (a : Nat) → (b : Nat) → Bool
  eqN : (a : Nat) → (b : Nat) → Bool
  eqP : (p : List (Nat × Nat)) → (q : List (Nat × Nat)) → Bool
  or2 : (a : Bool) → (b : Bool) → Bool
  eqS : (a : ByteArray) → (b : ByteArray) → Bool
  ltS : (a : ByteArray) → (b : ByteArray) → Bool
  catS : (a : ByteArray) → (b : ByteArray) → ByteArray
  lenS : (s : ByteArray) → Nat
  cutS : (s : ByteArray) → (l : Nat) → (h : Nat) → ByteArray
  byte : (s : ByteArray) → (i : Nat) → Int
  ofInts : (xs : List Int) → ByteArray
  ints : (s : ByteArray) → List Int
  andI : (k : IntKind) → (a : Int) → (b : Int) → Int
  orI : (k : IntKind) → (a : Int) → (b : Int) → Int
  xorI : (k : IntKind) → (a : Int) → (b : Int) → Int
  andNI : (k : IntKind) → (a : Int) → (b : Int) → Int
  shlI : (k : IntKind) → (a : Int) → (b : Int) → Int
  shrI : (k : IntKind) → (a : Int) → (b : Int) → Int
  srt : {α : Type} → (f : α → α → Option Int) → (xs : List α) → Option (List α)
def mK{α:Type}(f:α→α→Option Int)(a b:α):Prop:=(f a b).getD 0<0
def oi{α:Type}(f:α→α→Option Int)(xs ys:List α):Prop:=
 ys.Perm xs∧ ∀(i j:Nat) (a b:α),i<j→ys[i]?=some a→ys[j]?=some b→ ¬mK f b a
def CM{α:Type}(f:α→α→Option Int)(xs:List α):Prop:=
 xs.length<4611686018427387904∧(∀a∈xs,∀b∈xs,(f a b).isSome=true)∧(∀a∈xs,¬mK f a a)∧(∀a∈xs,∀b∈xs,∀c∈xs,mK f a b→mK f b c→mK f a c)∧
 (∀a∈xs,∀b∈xs,∀c∈xs,¬mK f a b→ ¬mK f b c→ ¬mK f a c)∧ ∃ys,oi f xs ys∧ ∀zs,oi f xs zs→zs=ys
open Classical in
noncomputable def DX{α:Type}(f:α→α→Option Int)(xs:List α):Option (List α):=
 if h:CM f xs then some (Classical.choose h.2.2.2.2.2)else none
theorem sW{α:Type}{f:α→α→Option Int}{xs ys:List α}(h:DX f xs=some ys):CM f xs∧oi f xs ys∧ ∀zs,oi f xs zs→zs=ys:=by
 unfold DX at h
 split at h
 ·next h'=>
  cases h
  exact⟨h',Classical.choose_spec h'.2.2.2.2.2⟩
 ·cases h
open Classical in
noncomputable def ways{α:Type}(x y:Option α):Option α:=if x=y then x else none
theorem ES{α:Type}{x y:Option α}{r:α}(h:ways x y=some r):x=some r∧y=some r:=by
 unfold ways at h
 split at h
 ·next e=>exact⟨h,e▸h⟩
 ·cases h
theorem Ef{α:Type}(x:Option α):ways x x=x:=by simp[ways]
@[reducible] noncomputable def D.real : D where
  rd := fun {_} xs i d => xs.getD i d
  len := fun {_} xs => xs.length
  lenI := fun {_} xs => (xs.length : Int)
  app := fun {_} xs ys => xs ++ ys
  set := fun {_} xs i x => xs.set i x
  take := fun {_} n xs => xs.take n
  drop := fun {_} n xs => xs.drop n
  rep := fun {_} n x => List.replicate n x
  test := fun {_} b x y => if b = true then x else y
  bnd := fun {_} {_} x f => x.bind f
  both := fun {_} x y => ways x y
  jn := fun {_} {_} F x => F x
  sel := fun {_} b x y => if b = true then x else y
  no := fun b => !b
  wrap := fun k n => k.wrap n
  add := fun a b => a + b
  sub := fun a b => a - b
  mul := fun a b => a * b
  quo := fun a b => a.tdiv b
  rem := fun a b => a.tmod b
  ofN := fun n => (n : Int)
  nat := fun n => n.toNat
  addN := fun a b => a + b
  subN := fun a b => a - b
  eq := fun a b => decide (a = b)
  lt := fun a b => decide (a < b)
  le := fun a b => decide (a ≤ b)
  eqB := fun a b => a == b
  ltN := fun a b => decide (a < b)
  leN := fun a b => decide (a ≤ b)
  eqN := fun a b => decide (a = b)
  eqP := fun p q => decide (p = q)
  or2 := fun a b => a || b
  eqS := fun a b => a.toList == b.toList
  ltS := fun a b => Op.bytesLess a.toList b.toList
  catS := fun a b => a ++ b
  lenS := fun s => s.size
  cutS := fun s l h => s.extract l h
  byte := fun s i => ((s.data.getD i 0).toNat : Int)
  ofInts := fun xs => ⟨(xs.map fun n => UInt8.ofNat n.toNat).toArray⟩
  ints := fun s => s.data.toList.map fun b => (b.toNat : Int)
  andI := fun k a b => k.wrap (BitVec.ofInt k.bits a &&& BitVec.ofInt k.bits b).toNat
  orI := fun k a b => k.wrap (BitVec.ofInt k.bits a ||| BitVec.ofInt k.bits b).toNat
  xorI := fun k a b => k.wrap (BitVec.ofInt k.bits a ^^^ BitVec.ofInt k.bits b).toNat
  andNI := fun k a b => k.wrap (BitVec.ofInt k.bits a &&& ~~~(BitVec.ofInt k.bits b)).toNat
  shlI := fun k a b => k.wrap (a * 2 ^ min b.toNat k.bits)
  shrI := fun k a b => a.fdiv (2 ^ min b.toNat k.bits)
  srt := fun {_} f xs => DX f xs
class DJ [D] : Prop where
  jn_eq : ∀ {α β : Type} (F : α → Option β) (x : α), D.jn F x = F x
variable [D]
inductive Tst where
  | s (b : Bool) | d (b : Bool)
inductive Ty where
  | int (k : IntKind) | bool | str | sl (e : Ty) | pair (a b : Ty) | unit
  deriving DecidableEq
@[reducible] def den : Ty → Type
  | .int _ => Int
  | .bool => Bool
  | .str => ByteArray
  | .sl e => List (den e)
  | .pair a b => den a × den b
  | .unit => Unit
def Ty.size:Ty→Nat
 | .pair a b=>a.size+b.size
 | .unit=>0
 |_=>1
def bz:(t:Ty)→den t
 | .int _=>(0:Int)
 | .bool=>false
 | .str=>ByteArray.empty
 | .sl _=> []
 | .pair a b=>(bz a,bz b)
 | .unit=>()
def Ty.flat:Ty→Bool
 | .sl _=>false
 | .pair a b=>a.flat&&b.flat
 |_=>true
def Ty.all:List Ty→Ty
 | []=> .unit
 | [t]=>t
 |t::u::r=> .pair t (Ty.all (u::r))
abbrev Path:=List (Nat×Nat)
inductive AV where
  | undef
  | int (k : IntKind) (n : Int)
  | bool (b : Bool)
  | kb (b : Bool)
  | ki (k : IntKind) (n : Int)
  | nb (n : Nat)
  | str (s : ByteArray)
  | nilS
  | sl (r : Nat) (p : Path) (sub : Option (Nat × Nat))
  | pv (r c : Nat)
  | pe (r : Nat) (p : Path) (i f : Nat)
  | lit (r n : Nat)
  | fn (f : Nat) (first cap : List AV)
  | agg (cs : List AV)
  | tup (vs : List AV)
inductive ao where
  | dead
  | var (cs : List AV)
  | row (rw : Bool) (t : Ty) (xs : List (den t))
  | pend (r : Nat) (p : Path) (t : Ty) (xs : List (den t))
  | half (t : Ty) (xs : List (den t))
  | sh (t : Ty) (xs : List (den t))
structure St where
  fr : List (List AV)
  rs : List ao
def AV.cells:AV→List AV
 | .agg cs=>cs
 |v=> [v]
def FD:List (Option (Bool×Ty))→Option (List Ty)
 | []=>some []
 |none::_=>none
 |some x::r=>match FD r with
  |some l=>some (x.2::l)
  |none=>none
def GP(P:Program):Nat→TypeId→Option (Bool×Ty)
 |0,_=>none
 |n+1,t=>
  match P.underlying t with
  |some .bool=>some (false,.bool)
  |some (.int k)=>some (false,.int k)
  |some .string=>some (false,.str)
  |some (.slice e)=>match GP P n e with
   |some x=>some (false,.sl x.2)
   |none=>none
  |some (.struct fs)=>match FD (fs.toList.map fun f=>GP P n f.type)with
   |some l=>some (true,Ty.all l)
   |none=>none
  |some (.array m e)=>match GP P n e with
   |some x=>some (true,Ty.all (List.replicate m x.2))
   |none=>none
  |_=>none
def rm(P:Program)(t:TypeId):Option (Bool×Ty):=GP P 6 t
def tyD(P:Program)(t:TypeId):Ty:=match rm P t with
 |some x=>x.2
 |none=> .unit
def kZ(P:Program)(t:TypeId):Bool:=match rm P t with
 |some x=>x.1
 |none=>true
def eT(P:Program)(f:Nat):List TypeId:=match P.funcs[f]? with
 |some fn=>fn.params.toList
 |none=> []
def cb(P:Program)(f:Nat):List TypeId:=match P.funcs[f]? with
 |some fn=>fn.resultTypes.toList
 |none=> []
def fc(P:Program)(f:Nat):Ty:=Ty.all ((eT P f).map (tyD P))
def resTy(P:Program)(f:Nat):Ty:=Ty.all ((cb P f).map (tyD P))
abbrev Cell:=(t:Ty)×den t
abbrev Row:=(t:Ty)×List (den t)
def cellAt:(t:Ty)→den t→Nat→Cell
 | .pair a b,d,f=>bif Nat.blt f a.size then cellAt a d.1 f else cellAt b d.2 (f-a.size)
 | .unit,d,_=>⟨.unit,d⟩
 | .int k,d,f=>bif Nat.beq f 0 then⟨.int k,d⟩else⟨.unit,()⟩
 | .bool,d,f=>bif Nat.beq f 0 then⟨.bool,d⟩else⟨.unit,()⟩
 | .str,d,f=>bif Nat.beq f 0 then⟨.str,d⟩else⟨.unit,()⟩
 | .sl e,d,f=>bif Nat.beq f 0 then⟨.sl e,d⟩else⟨.unit,()⟩
def b7:(t:Ty)→den t→Nat→((c:Ty)→den c→den c)→den t
 | .pair a b,d,f,g=>bif Nat.blt f a.size then(b7 a d.1 f g,d.2)else(d.1,b7 b d.2 (f-a.size) g)
 | .unit,d,_,_=>d
 | .int k,d,f,g=>bif Nat.beq f 0 then g (.int k) d else d
 | .bool,d,f,g=>bif Nat.beq f 0 then g .bool d else d
 | .str,d,f,g=>bif Nat.beq f 0 then g .str d else d
 | .sl e,d,f,g=>bif Nat.beq f 0 then g (.sl e) d else d
def rowAt:(t:Ty)→List (den t)→Path→List Tst×Row
 |t,xs,[]=>([],⟨t,xs⟩)
 |t,xs,(i,f)::p=>
  match cellAt t (D.rd xs i (bz t)) f with
  |⟨.sl e,ys⟩=>match rowAt e ys p with
   |(ok,r)=>(.d (D.ltN i (D.len xs))::ok,r)
  |_=>([.s false],⟨.unit,[]⟩)
def ja:(t:Ty)→List (den t)→Path→((e:Ty)→List (den e)→List (den e))→List (den t)
 |t,xs,[],g=>g t xs
 |t,xs,(i,f)::p,g=>
  D.set xs i (b7 t (D.rd xs i (bz t)) f fun c=>match c with
   | .sl e=>fun ys=>ja e ys p g
   |_=>fun d=>d)
def kI(r:Nat)(p:Path)(i:Nat):(t:Ty)→den t→Nat→List AV
 | .int k,n,_=> [.int k n]
 | .bool,b,_=> [.bool b]
 | .str,s,_=> [.str s]
 | .sl _,_,f=> [.sl r (p++ [(i,f)]) none]
 | .pair a b,d,f=>kI r p i a d.1 f++kI r p i b d.2 (f+a.size)
 | .unit,_,_=> []
def eD{α:Type}:Option (Nat×Nat)→List α→List α
 |none,xs=>xs
 |some (o,l),xs=>D.take l (D.drop o xs)
def cD{α:Type}:Option (Nat×Nat)→List α→Nat
 |none,xs=>D.len xs
 |some (_,l),_=>l
def dB:Option (Nat×Nat)→Nat→Nat
 |none,n=>n
 |some (o,_),n=>D.addN o n
def ot{a b:Ty}(h:a=b)(x:den a):den b:=h▸x
def lT{a b:Ty}(h:a=b)(x:List (den a)):List (den b):=h▸x
abbrev Get:=Nat→ao
def sliceAt(get:Get)(r:Nat)(p:Path):List Tst×Row:=
 match get r with
 | .row _ t xs=>rowAt t xs p
 | .sh t xs=>rowAt t xs p
 | .pend _ _ t xs=>match p with
  | []=>([],⟨t,xs⟩)
  |_=>([.s false],⟨.unit,[]⟩)
 |_=>([.s false],⟨.unit,[]⟩)
def bF(get:Get):(t:Ty)→List AV→List Tst×den t×List AV
 | .int k,vs=>match vs with
  | .int k' n::vs=>([.s (decide (k'=k))],n,vs)
  |_=>([.s false],(0:Int),[])
 | .bool,vs=>match vs with
  | .bool b::vs=>([],b,vs)
  | .kb b::vs=>([],b,vs)
  |_=>([.s false],false,[])
 | .str,vs=>match vs with
  | .str s::vs=>([],s,vs)
  |_=>([.s false],ByteArray.empty,[])
 | .sl e,vs=>match vs with
  | .nilS::vs=>([],([]:List (den e)),vs)
  | .sl r p sub::vs=>match sliceAt get r p with
   |(ok,⟨e',ys⟩)=>match decEq e' e with
    | .isTrue h=>(ok,eD sub (lT h ys),vs)
    | .isFalse _=>([.s false],([]:List (den e)),[])
  |_=>([.s false],([]:List (den e)),[])
 | .pair a b,vs=>match bF get a vs with
  |(ok,x,vs)=>match bF get b vs with
   |(ok',y,vs)=>(ok++ok',(x,y),vs)
 | .unit,vs=>([],(),vs)
def jk{α:Type}(rd:List AV→List Tst×α×List AV):Nat→List AV→List Tst×List α×List AV
 |0,vs=>([],[],vs)
 |n+1,vs=>match rd vs with
  |(ok,x,vs)=>match jk rd n vs with
   |(ok',xs,vs)=>(ok++ok',x::xs,vs)
def gI(get:Get):(t:Ty)→List AV→List Tst×den t×List AV
 | .int k,vs=>bF get (.int k) vs
 | .bool,vs=>bF get .bool vs
 | .str,vs=>bF get .str vs
 | .unit,vs=>bF get .unit vs
 | .sl e,vs=>match vs with
  | .lit r n::vs'=>match get r with
   | .var cs=>match jk (bF get e) n cs with
    |(ok,xs,rest)=>(.s rest.isEmpty:: .s (Nat.blt 0 e.size)::ok,xs,vs')
   |_=>([.s false],([]:List (den e)),[])
  |vs=>bF get (.sl e) vs
 | .pair a b,vs=>match gI get a vs with
  |(ok,x,vs)=>match gI get b vs with
   |(ok',y,vs)=>(ok++ok',(x,y),vs)
def Ih(a b:Ty)(vs:List AV):Option (Nat×List AV):=match a with
 | .sl _=>match b with
  | .sl _=>match vs with
   | .sl r [(_,f)] _:: .sl r' [(_,f')] _::rest=>bif Nat.beq r' r&& !(Nat.beq f' f)then some (r,rest)else none
   |_=>none
  |_=>none
 |_=>none
def rK(get:Get)(r:Nat)(rest:List AV):List Tst×List Nat×List AV:=match get r with
 | .row true _ _=>([],[r],rest)
 |_=>([.s false],[],[])
def gives(get:Get):(t:Ty)→List AV→List Tst×List Nat×List AV
 | .sl e,vs=>match vs with
  | .nilS::vs=>([],[],vs)
  | .sl r _ _::vs=>match get r with
   | .row true _ _=>([],[r],vs)
   |_=>([.s false],[],[])
  |_=>([.s false],[],[])
 | .pair a b,vs=>match Ih a b vs with
  |some (r,rest)=>rK get r rest
  |none=>match gives get a vs with
   |(ok,l,vs)=>match gives get b vs with
    |(ok',l',vs)=>(ok++ok',l++l',vs)
 | .unit,vs=>([],[],vs)
 |_,vs=>([],[],vs.tail)
def oj(rw:Bool):(t:Ty)→den t→(base:Nat)→List AV×List ao
 | .int k,n,_=>([.int k n],[])
 | .bool,b,_=>([.bool b],[])
 | .str,s,_=>([.str s],[])
 | .sl e,xs,base=>([.sl base [] none],[.row rw e xs])
 | .pair a b,d,base=>match oj rw a d.1 base with
  |(vs,rs)=>match oj rw b d.2 (base+rs.length)with
   |(vs',rs')=>(vs++vs',rs++rs')
 | .unit,_,_=>([],[])
def mkV(agg:Bool)(cs:List AV):AV:=bif agg then .agg cs else cs.headD .undef
def fB(P:Program)(rw:Bool):(ts:List TypeId)→den (Ty.all (ts.map (tyD P)))→(base:Nat)→List AV×List ao
 | [],_,_=>([],[])
 | [t],d,base=>match oj rw (tyD P t) d base with
  |(vs,rs)=>([mkV (kZ P t) vs],rs)
 |t::u::r,d,base=>match oj rw (tyD P t) d.1 base with
  |(vs,rs)=>match fB P rw (u::r) d.2 (base+rs.length)with
   |(ws,rs')=>(mkV (kZ P t) vs::ws,rs++rs')
def l7:(t:Ty)→List AV→(base:Nat)→List AV×List ao
 | .sl e,vs,base=>match vs with
  | .nilS::r=>(.sl base [] none::r,[.row true e []])
  |vs=>(vs,[])
 | .pair a b,vs,base=>match l7 a (vs.take a.size) base with
  |(ws,rs)=>match l7 b (vs.drop a.size) (base+rs.length)with
   |(ws',rs')=>(ws++ws',rs++rs')
 | .unit,vs,_=>(vs,[])
 |_,vs,_=>(vs,[])
end Go.Am
end
section
/- The abstract machine, second part: the operations as total functions with the tests that they ask; the executor. -/
noncomputable section
namespace Go.Am
variable [D]
structure Out where
  ok : List Tst
  v : AV
  upd : List (Nat × ao) := []
  cut : Option (Nat × Nat) := none
  quiet : List (Nat × Option Nat) := []
def Out.bad:Out:={ok:= [.s false],v:= .undef}
def lim:Nat:=1099511627776
def al(base:Nat):List ao→List (Nat×ao)
 | []=> []
 |r::rs=>(base,r)::al (base+1) rs
def setCells(cs:List AV)(c:Nat)(vs:List AV):List AV:=cs.take c++vs++cs.drop (c+vs.length)
def rG(P:Program)(s:TypeId)(i:Nat):Option (Nat×TypeId):=
 match P.underlying s with
 |some (.struct fs)=>match fs[i]? with
  |some f=>some (f.offset,f.type)
  |none=>none
 |_=>none
def lp(P:Program)(t:TypeId):Bool:=match P.underlying t with
 |some (.struct _)=>true
 |some (.array _ _)=>true
 |_=>false
def gH(P:Program)(t:TypeId):Bool:=(P.underlying t).isSome&&(P.info? t).isSome
def fM:Ty→Value→Bool
 | .int k,.int k' n=>decide (k=k')&&decide (n=0)
 | .bool,.bool b=> !b
 | .str,.string s=>Nat.beq s.size 0
 | .sl _,.slice none 0 0=>true
 |_,_=>false
def oe:Ty→List Value→Option (List Value)
 | .pair a b,l=>match oe a l with
  |some l=>oe b l
  |none=>none
 | .unit,l=>some l
 | .int k,l=>match l with
  |v::l=>bif fM (.int k) v then some l else none
  | []=>none
 | .bool,l=>match l with
  |v::l=>bif fM .bool v then some l else none
  | []=>none
 | .str,l=>match l with
  |v::l=>bif fM .str v then some l else none
  | []=>none
 | .sl e,l=>match l with
  |v::l=>bif fM (.sl e) v then some l else none
  | []=>none
def mS(P:Program)(t:TypeId):Bool:=match P.info? t,rm P t,P.underlying t with
 |some i,some (agg,ty),some _=>Nat.beq i.size ty.size&&Nat.ble i.bytes 128&&(agg==lp P t)&&(match i.zero with
  |some z=>(match oe ty z.cells.toList with
   |some []=>true
   |_=>false)
  |none=>false)
 |_,_,_=>false
def gD(P:Program)(t:TypeId):Option TypeId:=match P.underlying t with
 |some (.slice e)=>some e
 |_=>none
def iJ(P:Program)(t:TypeId)(base:Nat):Option (List AV×List ao):=
 match rm P t with
 |some x=>bif mS P t then some (oj true x.2 (bz x.2) base)else none
 |none=>match P.info? t with
  |some i=>match i.zero with
   |some z=>bif z.cells.toList.all Value.oneCell' then some (List.replicate z.cells.size .undef,[])else none
   |none=>none
  |none=>none
def nQ(P:Program)(t:TypeId)(v:AV)(base:Nat):AV×List ao:=
 match v with
 | .nilS=>match l7 (tyD P t) [.nilS] base with
  |(vs,rs)=>(vs.headD .undef,rs)
 | .agg cs=>match l7 (tyD P t) cs base with
  |(vs,rs)=>(.agg vs,rs)
 |v=>(v,[])
def AV.lr:AV→Bool
 | .undef=>false
 | .tup _=>false
 |_=>true
def Cg(c a b:AV):Out:=
 match c with
 | .kb true=>{ok:= [],v:=a}
 | .kb false=>{ok:= [],v:=b}
 |_=> .bad
def wy(op:BinOp)(k:IntKind)(a b:Int):Out:=
 match op with
 | .add=>{ok:= [],v:= .int k (D.wrap k (D.add a b))}
 | .sub=>{ok:= [],v:= .int k (D.wrap k (D.sub a b))}
 | .mul=>{ok:= [],v:= .int k (D.wrap k (D.mul a b))}
 | .quo=>{ok:= [.d (D.no (D.eq b 0))],v:= .int k (D.wrap k (D.quo a b))}
 | .rem=>{ok:= [.d (D.no (D.eq b 0))],v:= .int k (D.rem a b)}
 | .eql=>{ok:= [],v:= .bool (D.eq a b)}
 | .neq=>{ok:= [],v:= .bool (D.no (D.eq a b))}
 | .lss=>{ok:= [],v:= .bool (D.lt a b)}
 | .leq=>{ok:= [],v:= .bool (D.le a b)}
 | .gtr=>{ok:= [],v:= .bool (D.lt b a)}
 | .geq=>{ok:= [],v:= .bool (D.le b a)}
 | .and=>{ok:= [],v:= .int k (D.andI k a b)}
 | .or=>{ok:= [],v:= .int k (D.orI k a b)}
 | .xor=>{ok:= [],v:= .int k (D.xorI k a b)}
 | .andNot=>{ok:= [],v:= .int k (D.andNI k a b)}
 |_=> .bad
def py(op:BinOp)(k:IntKind)(a b:Int):Out:=
 match op with
 | .shl=>{ok:= [.d (D.le 0 b)],v:= .int k (D.shlI k a b)}
 | .shr=>{ok:= [.d (D.le 0 b)],v:= .int k (D.shrI k a b)}
 |_=> .bad
def Da:BinOp→Bool
 | .shl=>true
 | .shr=>true
 |_=>false
def tc(op:BinOp)(a b:ByteArray):Out:=
 match op with
 | .add=>{ok:= [.d (D.leN (D.addN (D.lenS a) (D.lenS b)) lim)],v:= .str (D.catS a b)}
 | .eql=>{ok:= [],v:= .bool (D.eqS a b)}
 | .neq=>{ok:= [],v:= .bool (D.no (D.eqS a b))}
 | .lss=>{ok:= [],v:= .bool (D.ltS a b)}
 | .leq=>{ok:= [],v:= .bool (D.or2 (D.ltS a b) (D.eqS a b))}
 | .gtr=>{ok:= [],v:= .bool (D.no (D.or2 (D.ltS a b) (D.eqS a b)))}
 | .geq=>{ok:= [],v:= .bool (D.no (D.ltS a b))}
 |_=> .bad
def AV.toB:AV→AV
 | .kb b=> .bool b
 |v=>v
def uW(P:Program)(t:TypeId):Bool:=match P.underlying t with
 |some .bool=>true
 |_=>false
def rF(P:Program)(t:TypeId)(op:BinOp)(x y:AV):Out:=
 match x.toB,y.toB with
 | .int k a,.int k' b=>bif Da op then py op k a b else bif decide (k=k')then wy op k a b else .bad
 | .str a,.str b=>tc op a b
 | .bool a,.bool b=>match op with
  | .eql=>{ok:= [.s (uW P t)],v:= .bool (D.eqB a b)}
  | .neq=>{ok:= [.s (uW P t)],v:= .bool (D.no (D.eqB a b))}
  |_=> .bad
 |_,_=> .bad
def tB(P:Program)(t:TypeId)(op:BinOp)(x y:AV)(get:Get):Out:=
 match op,x,y with
 | .eql,.sl r p sub,.nilS=>match get r with
  | .row _ t' xs=>match rowAt t' xs p with
   |(ok,⟨_,ys⟩)=>{ok:= .s (gD P t).isSome::ok,v:= .nb (cD sub ys)}
  |_=> .bad
 |_,_,_=>rF P t op x y
def Fo(P:Program)(e:TypeId):Bool:=match P.underlying e with
 |some (.int .u8)=>true
 |_=>false
def oJ(P:Program)(src dst:TypeId)(x:AV)(get:Get):Out:=
 match P.underlying src,P.underlying dst,x with
 |some _,some (.int k),.int _ n=>{ok:= [],v:= .int k (D.wrap k n)}
 |some _,some .string,.str s=>{ok:= [],v:= .str s}
 |some (.slice e),some .string,x=>
  bif Fo P e then
   match bF get (.sl (.int .u8)) [x]with
   |(ok,xs,_)=>{ok:=ok,v:= .str (D.ofInts xs)}
  else .bad
 |_,_,_=> .bad
def dO(P:Program)(t:TypeId)(te:Ty):Bool:=match gD P t with
 |some e=>mS P e&&decide (tyD P e=te)&&Nat.blt 0 te.size
 |none=>false
def v8(P:Program)(t:TypeId):Bool:=match P.underlying t with
 |some .string=>true
 |_=>false
def fT(P:Program)(t:TypeId)(cs:List AV)(f:Nat):Out:=
 bif lp P t then{ok:= [.s (gH P t),.s (Nat.ble (f+P.cellsOf t) cs.length)],v:= .agg ((cs.drop f).take (P.cellsOf t))}
 else{ok:= [.s (gH P t),.s (Nat.blt f cs.length)],v:=cs.getD f .undef}
def fS(P:Program)(t:TypeId)(a:AV)(get:Get):Out:=
 match a with
 | .pv r c=>match get r with
  | .var cs=>fT P t cs c
  |_=> .bad
 | .pe r p i f=>match get r with
  | .row _ t' xs=>match rowAt t' xs p with
   |(ok,⟨e,ys⟩)=>
    match fT P t (kI r p i e (D.rd ys i (bz e)) 0) f with
    |⟨ok',v,_,_,_⟩=>{ok:=ok++ .d (D.ltN i (D.len ys))::ok',v:=v}
  |_=> .bad
 |_=> .bad
def fZ(v:AV):(c:Ty)→den c→den c
 | .int _,d=>match v with
  | .int _ n=>n
  |_=>d
 | .bool,d=>match v with
  | .bool b=>b
  | .kb b=>b
  |_=>d
 | .str,d=>match v with
  | .str s=>s
  |_=>d
 |_,d=>d
def dE(v:AV):Ty→Bool
 | .int k=>match v with
  | .int k' _=>decide (k=k')
  |_=>false
 | .bool=>match v with
  | .bool _=>true
  | .kb _=>true
  |_=>false
 | .str=>match v with
  | .str _=>true
  |_=>false
 |_=>false
def putRow(e:Ty)(ys:List (den e)):(c:Ty)→den c→den c
 | .sl e',d=>match decEq e e' with
  | .isTrue h=>lT h ys
  | .isFalse _=>d
 |_,d=>d
def ly(t:Ty)(xs:List (den t))(p:Path)(i f:Nat)(g:(c:Ty)→den c→den c):ao:=
 .row true t (ja t xs p fun e' zs=>D.set zs i (b7 e' (D.rd zs i (bz e')) f g))
def o7(v:AV)(r:Nat)(p:Path)(i f:Nat)(t:Ty)(xs:List (den t))(e:Ty)(chk:List Tst)(get:Get):Out:=
 match v with
 | .nilS=>{ok:=chk,v:= .tup [],upd:= [(r,ly t xs p i f (putRow e []))],cut:=some (r,p.length+1),quiet:= [(r,none)]}
 | .sl r2 q sub=>
  bif Nat.beq r2 r then
   match rowAt t xs q with
   |(ok,⟨e',ys⟩)=>match decEq e' e with
    | .isTrue h=>{ok:=chk++ok++ [.d (D.eqP q (p++ [(i,f)]))],v:= .tup [],upd:= [(r,ly t xs p i f (putRow e (eD sub (lT h ys))))],cut:=some (r,p.length+1),quiet:= [(r,none)]}
    | .isFalse _=> .bad
  else match q,get r2 with
   | [],.row true e' ys=>match decEq e' e with
    | .isTrue h=>{ok:=chk,v:= .tup [],upd:= [(r2,.dead),(r,ly t xs p i f (putRow e (eD sub (lT h ys))))],cut:=some (r,p.length+1),quiet:= [(r,none),(r2,none)]}
    | .isFalse _=> .bad
   | [],.pend r' p' e' ys=>match decEq e' e,sub with
    | .isTrue h,none=>{ok:=chk++ [.s (Nat.beq r' r),.d (D.eqP p' (p++ [(i,f)]))],v:= .tup [],upd:= [(r2,.dead),(r,ly t xs p i f (putRow e (lT h ys)))],cut:=some (r,p.length+1),quiet:= [(r,some r2)]}
    |_,_=> .bad
   |_,_=> .bad
 |_=> .bad
def jG(v:AV)(r:Nat)(p:Path)(i f:Nat)(t:Ty)(xs:List (den t))(get:Get):Out:=
 match rowAt t xs p with
 |(ok,⟨e,ys⟩)=>match (cellAt e (D.rd ys i (bz e)) f).1 with
  | .sl e'=>o7 v r p i f t xs e' (ok++ [.d (D.ltN i (D.len ys))]) get
  |c=>{ok:=ok++ [.d (D.ltN i (D.len ys)),.s (dE v c)],v:= .tup [],upd:= [(r,ly t xs p i f (fZ v))],quiet:= [(r,none)]}
def jN(e:Ty):Nat→List AV→Bool
 |_,[]=>true
 |f,v::vs=>dE v (cellAt e (bz e) f).1&&jN e (f+1) vs
def ng(e:Ty):den e→Nat→List AV→den e
 |d,_,[]=>d
 |d,f,v::vs=>ng e (b7 e d f (fZ v)) (f+1) vs
def yk(P:Program)(ty:TypeId)(v:AV)(r:Nat)(i f:Nat)(t:Ty)(xs:List (den t)):Out:=
 {ok:= [.s (gH P ty),.s v.lr,.s (Nat.beq v.cells.length (P.cellsOf ty)),.s (!v.cells.isEmpty),.s (jN t f v.cells),.d (D.ltN i (D.len xs))],v:= .tup []
  upd:= [(r,.row true t (D.set xs i (ng t (D.rd xs i (bz t)) f v.cells)))],quiet:= [(r,none)]}
def iD(P:Program)(t:TypeId)(a v:AV)(get:Get)(base:Nat):Out:=
 match a with
 | .pv r c=>match get r with
  | .var cs=>match nQ P t v base with
   |(v',rs)=>
    {ok:= [.s (gH P t),.s v'.lr,.s (Nat.ble (c+P.cellsOf t) cs.length),.s (Nat.beq v'.cells.length (P.cellsOf t))],v:= .tup []
     upd:=al base rs++ [(r,.var (setCells cs c v'.cells))]}
  |_=> .bad
 | .pe r p i f=>bif Nat.beq (P.cellsOf t) 1 then
   match get r with
   | .row true t' xs=>jG v r p i f t' xs get
   |_=> .bad
  else match p,get r with
   | [],.row true t' xs=>yk P t v r i f t' xs
   |_,_=> .bad
 |_=> .bad
def readAll(get:Get)(t:Ty):List AV→List Tst×List (den t)
 | []=>([],[])
 |v::vs=>match bF get t v.cells with
  |(ok,x,rest)=>match readAll get t vs with
   |(ok',xs)=>(ok++ [.s rest.isEmpty,.s v.lr]++ok',x::xs)
def jj(get:Get)(t:Ty):List AV→List Tst×List Nat
 | []=>([],[])
 |v::vs=>match gives get t v.cells with
  |(ok,l,_)=>match jj get t vs with
   |(ok',l')=>(ok++ok',l++l')
def dC(l:List Nat):List (Nat×ao):=l.map fun r=>(r,.dead)
def eF(l:List Nat):List (Nat×Option Nat):=l.map fun r=>(r,none)
def vH(e:Ty)(x:AV)(get:Get):List Tst×List (den e)×List Nat:=
 match x with
 | .str b=>match decEq (Ty.int .u8) e with
  | .isTrue h=>([],lT h (D.ints b),[])
  | .isFalse _=>([.s false],[],[])
 |x=>match bF get (.sl e) [x]with
  |(ok,xs,_)=>bif e.flat then(ok,xs,[])
   else match gives get (.sl e) [x]with
    |(ok',l,_)=>(ok++ok',xs,l)
def oN(e:Ty)(s:AV)(ok:List Tst)(zs:List (den e))(l:List Nat)(get:Get)(base:Nat):Out:=
 match s with
 | .nilS=>{ok:=ok++ [.d (D.leN (D.len zs) lim)],v:= .sl base [] none,upd:=dC l++ [(base,.row true e zs)],quiet:=eF l}
 | .sl r p sub=>match p,get r with
  | [],.row true e' ys=>match decEq e' e with
   | .isTrue h=>
    {ok:=ok++ [.s (!l.contains r),.d (D.leN (D.len (D.app (eD sub (lT h ys)) zs)) lim)],v:= .sl base [] none
     upd:=dC l++ [(r,.dead),(base,.row true e (D.app (eD sub (lT h ys)) zs))],quiet:=(r,none)::eF l}
   | .isFalse _=> .bad
  |q::p,.row true t xs=>match rowAt t xs (q::p),sub with
   |(ok',⟨e',ys⟩),none=>match decEq e' e with
    | .isTrue h=>
     {ok:=ok++ok'++ [.s e.flat,.d (D.leN (D.len (D.app (lT h ys) zs)) lim)],v:= .sl base [] none
      upd:= [(base,.pend r (q::p) e (D.app (lT h ys) zs))],quiet:= [(r,none)]}
    | .isFalse _=> .bad
   |_,_=> .bad
  |_,_=> .bad
 |_=> .bad
def dv(P:Program)(st:TypeId)(s x:AV)(get:Get)(base:Nat):Out:=
 match gD P st with
 |none=> .bad
 |some et=>match rm P et with
  |none=> .bad
  |some (_,t)=>match vH t x get with
   |(ok,zs,l)=>oN t s (.s (dO P st t)::ok) zs l get base
def ownRow(e:Ty)(get:Get)(r:Nat):Option (List (den e)):=match get r with
 | .row true t ys=>match decEq t e with
  | .isTrue h=>some (lT h ys)
  | .isFalse _=>none
 |_=>none
def iI(P:Program)(st:TypeId)(e:Ty)(r1:Nat)(sub1:Option (Nat×Nat))(ys1:List (den e))(r o l:Nat)(ys:List (den e))(base:Nat):Out:=
 {ok:= [.s (dO P st e),.s (!Nat.beq r1 r),.d (D.leN (D.len (D.app (eD sub1 ys1) (eD (some (o,l)) ys))) lim)],v:= .sl base [] none
  upd:= [(r1,.dead),(r,.half e (D.take o ys)),(base,.row true e (D.app (eD sub1 ys1) (eD (some (o,l)) ys)))],quiet:= [(r1,none),(r,none)]}
def gB(P:Program)(st:TypeId)(s x:AV)(get:Get)(base:Nat):Out:=match s with
 | .sl r1 [] sub1=>match x with
  | .sl r [] (some (o,l))=>match gD P st with
   |some et=>match rm P et with
    |some (_,e)=>bif e.flat then dv P st s x get base else match ownRow e get r1 with
     |some ys1=>match ownRow e get r with
      |some ys=>iI P st e r1 sub1 ys1 r o l ys base
      |none=>dv P st s x get base
     |none=>dv P st s x get base
    |none=>dv P st s x get base
   |none=>dv P st s x get base
  |_=>dv P st s x get base
 |_=>dv P st s x get base
def shared(get:Get):AV→Bool
 | .sl r _ _=>match get r with
  | .row false _ _=>true
  | .sh _ _=>true
  |_=>false
 |_=>false
def vU(e:Ty)(s x:AV)(get:Get):Option (Nat×List (den e)):=match s with
 | .sl r [] none=>match get r with
  | .sh t ys=>match decEq t e with
   | .isTrue h=>some (r,lT h ys)
   | .isFalse _=>none
  | .row true t ys=>bif shared get x then(match decEq t e with
   | .isTrue h=>some (r,lT h ys)
   | .isFalse _=>none)else none
  |_=>none
 |_=>none
def vW(e:Ty)(x:AV)(get:Get):List Tst×List (den e)×List Nat:=match x with
 | .sl r p sub=>match bF get (.sl e) [.sl r p sub]with
  |(ok,xs,_)=>match get r with
   | .row false _ _=>(ok,xs,[])
   | .row true _ _=>(ok,xs,[r])
   | .sh _ _=>(ok,xs,[r])
   |_=>([.s false],[],[])
 |_=>([.s false],[],[])
def xl(P:Program)(st:TypeId)(e:Ty)(r:Nat)(ys:List (den e))(x:AV)(get:Get)(base:Nat):Out:=match vW e x get with
 |(ok,zs,l)=>{ok:= .s (dO P st e):: .s (!l.contains r)::(ok++ [.d (D.leN (D.len (D.app ys zs)) lim)]),v:= .sl base [] none,upd:=dC (r::l)++ [(base,.sh e (D.app ys zs))],quiet:=eF (r::l)}
def we(P:Program)(st:TypeId)(s x:AV)(get:Get):Option ((e:Ty)×Nat×List (den e)):=match gD P st with
 |some et=>match rm P et with
  |some (_,e)=>bif e.flat then none else match vU e s x get with
   |some (r,ys)=>some ⟨e,r,ys⟩
   |none=>none
  |none=>none
 |none=>none
def gC(P:Program)(st:TypeId)(s x:AV)(get:Get)(base:Nat):Out:=match we P st s x get with
 |some ⟨e,r,ys⟩=>xl P st e r ys x get base
 |none=>gB P st s x get base
def Az:Ty→Bool
 | .int _=>true
 | .pair (.int _) (.int _)=>true
 |_=>false
def gV (P : Program) (t : TypeId) (d s : AV) (get : Get) : Out := match d with
  | .sl r [] sub => match get r with
    | .row true e xs => bif Az e then (match bF get (.sl e) [s] with
      | (ok, ys, _) => { ok := .s (dO P t e) :: ok, v := .int .i64 (D.ofN (D.len (D.take (cD sub xs) ys)))
                         upd := [(r, .row true e (D.app (D.take (dB sub 0) xs) (D.app (D.take (cD sub xs) ys) (D.drop (dB sub (D.len (D.take (cD sub xs) ys))) xs))))], quiet := [(r, none)] }) else .bad
    | _ => .bad
  | _ => .bad
def ox(l:List AV):Option Operand→Option AV×List AV
 |none=>(none,l)
 |some _=>(some (l.headD .undef),l.tail)
def bounds(n:Nat)(lo hi:Option AV):List Tst×Nat×Nat:=
 match lo,hi with
 |none,none=>([],0,n)
 |none,some (.int _ h)=>([.d (D.le 0 h),.d (D.leN (D.nat h) n)],0,D.nat h)
 |some (.int _ l),none=>([.d (D.le 0 l),.d (D.leN (D.nat l) n)],D.nat l,n)
 |some (.int _ l),some (.int _ h)=>([.d (D.le 0 h),.d (D.leN (D.nat h) n),.d (D.le 0 l),.d (D.leN (D.nat l) (D.nat h))],D.nat l,D.nat h)
 |_,_=>([.s false],0,0)
def kW(P:Program)(t:TypeId)(x:AV)(lo hi:Option AV)(get:Get):Out:=
 match x with
 | .nilS=>match bounds 0 lo hi with
  |(ok,_,_)=>{ok:= [.s (gD P t).isSome,.s (mS P ((gD P t).getD 0))]++ok,v:= .nilS}
 | .str s=>match bounds (D.lenS s) lo hi with
  |(ok,l,h)=>{ok:= .s (v8 P t)::ok,v:= .str (D.cutS s l h)}
 | .sl r p sub=>match get r with
  | .row _ t' xs=>match rowAt t' xs p with
   |(ok,⟨e,ys⟩)=>match bounds (cD sub ys) lo hi with
    |(ok',l,h)=>{ok:= .s (dO P t e)::(ok++ok'),v:= .sl r p (some (dB sub l,D.subN h l))}
  |_=> .bad
 |_=> .bad
def nS(P:Program)(t:TypeId)(e:Ty)(xs:List (den e))(r:Nat)(h:Int)(base:Nat):Out:=
 {ok:= [.s (dO P t e),.d (D.le 0 h),.d (D.leN (D.nat h) (D.len xs))],v:= .sl base [] none,upd:=dC [r]++ [(base,.row true e (D.take (D.nat h) xs))],quiet:=eF [r]}
def tF(lo hi:Option AV)(x:AV)(get:Get):Option (Nat×Int×Row):=match lo with
 |none=>match hi with
  |some (.int _ h)=>match x with
   | .sl r [] none=>match get r with
    | .half e xs=>some (r,h,⟨e,xs⟩)
    |_=>none
   |_=>none
  |_=>none
 |_=>none
def gG(P:Program)(t:TypeId)(x:AV)(lo hi:Option AV)(get:Get)(base:Nat):Out:=match tF lo hi x get with
 |some (r,h,⟨e,xs⟩)=>nS P t e xs r h base
 |none=>kW P t x lo hi get
def isZero:Operand→Bool
 | .const (.int _ n)=>decide (n=0)
 |_=>false
def iO(P:Program)(t:TypeId)(x:AV)(get:Get)(base:Nat):Out:=
 match x with
 | .nilS=>{ok:= [.s (gD P t).isSome,.s (mS P ((gD P t).getD 0))],v:= .nilS}
 | .sl r p _=>match get r with
  | .row _ t' xs=>match rowAt t' xs p with
   |(ok,⟨e,_⟩)=>{ok:= .s (dO P t e)::ok,v:= .sl base [] none,upd:= [(base,.row true e [])]}
  |_=> .bad
 |_=> .bad
def kv(P:Program)(t:TypeId)(x:AV)(h c:Int)(get:Get)(base:Nat):Out:=
 match x with
 | .sl r p sub=>match p,get r with
  | [],.row true e ys=>{ok:= [.s (dO P t e),.d (D.le 0 h),.d (D.le h c),.d (D.leN (D.nat c) (cD sub ys))],v:= .sl base [] none,upd:=dC [r]++ [(base,.row true e (D.take (D.nat h) (eD sub ys)))],quiet:=eF [r]}
  |_,_=> .bad
 |_=> .bad
def lO(P:Program)(t:TypeId)(lo:Option Operand)(avs:List AV)(get:Get)(base:Nat):Out:=match lo,avs with
 |none,[x,.int _ h,.int _ c]=>kv P t x h c get base
 |_,_=> .bad
def nT(P:Program)(t:TypeId)(x:AV)(get:Get):Out:=
 match x with
 | .str s=>{ok:= [.s (v8 P t)],v:= .int .i64 (D.ofN (D.lenS s))}
 | .nilS=>{ok:= [.s (gD P t).isSome],v:= .int .i64 0}
 | .sl r p sub=>match get r with
  | .row _ t' xs=>match rowAt t' xs p with
   |(ok,⟨_,ys⟩)=>{ok:= .s (gD P t).isSome::ok,v:= .int .i64 (D.ofN (cD sub ys))}
  |_=> .bad
 |_=> .bad
def sX(P:Program)(t:TypeId)(x:AV):Out:=
 match x with
 | .nilS=>{ok:= [.s (gD P t).isSome],v:= .int .i64 0}
 |_=> .bad
def nU(P:Program)(t:TypeId)(s x:AV)(base:Nat):Out:=match gD P t,s,x with
 |some e,.nilS,.int _ n=>match rm P e with
  |some (_,t')=>{ok:= [.s (dO P t t'),.d (D.le 1 n),.d (D.leN (D.nat n) lim)],v:= .sl base [] none,upd:= [(base,.row true t' (D.rep (D.nat n) (bz t')))]}
  |none=> .bad
 |_,_,_=> .bad
def mU(gt:Bool):List AV→Out
 | [.int k a,.int k' b]=>bif decide (k=k')then{ok:= [],v:= .int k (bif gt then D.sel (D.lt a b) b a else D.sel (D.lt b a) b a)}else .bad
 |_=> .bad
def pS(b:Bool)(v u:AV):AV:=match v,u with
 | .int k a,.int k' b'=>bif decide (k=k')then .int k (D.sel b a b')else .undef
 |_,_=> .undef
def AP:AV→AV
 | .int k a=> .int k a
 |_=> .undef
def jL:List AV→Nat→Int→AV
 | [],_,_=> .undef
 |v::vs,i,n=>match vs with
  | []=>AP v
  |_::_=>pS (D.eq n (D.ofN i)) v (jL vs (i+1) n)
def oY(P:Program)(xt:TypeId)(x ix:AV):Out:=
 match x,ix with
 | .str s,.int _ n=>{ok:= [.s (v8 P xt),.d (D.le 0 n),.d (D.ltN (D.nat n) (D.lenS s))],v:= .int .u8 (D.byte s (D.nat n))}
 | .agg cs,.int _ n=>match P.underlying xt with
  |some (.array m e)=>{ok:= [.s (gH P e&&Nat.beq (P.cellsOf e) 1&& !lp P e),.s (Nat.beq cs.length m),.d (D.le 0 n),.d (D.lt n (D.ofN m))],v:=jL cs 0 n}
  |_=> .bad
 |_,_=> .bad
def gh(P:Program)(xt:TypeId)(x ix:AV)(get:Get):Out:=
 match ix with
 | .int _ n=>match x with
  | .sl r p sub=>match get r with
   | .row _ t xs=>match rowAt t xs p with
    |(ok,⟨e,ys⟩)=>{ok:= .s (dO P xt e)::(ok++ [.d (D.le 0 n),.d (D.ltN (D.nat n) (cD sub ys))]),v:= .pe r p (dB sub (D.nat n)) 0}
   |_=> .bad
  | .pv r c=>match P.underlying xt with
   |some (.array m e)=>{ok:= [.s (gH P e),.d (D.le 0 n),.d (D.lt n (D.ofN m))],v:= .pv r (c+n.toNat*P.cellsOf e)}
   |_=> .bad
  | .pe r p i f=>match P.underlying xt with
   |some (.array m e)=>{ok:= [.s (gH P e),.d (D.le 0 n),.d (D.lt n (D.ofN m))],v:= .pe r p i (f+n.toNat*P.cellsOf e)}
   |_=> .bad
  |_=> .bad
 |_=> .bad
def j9(P:Program)(place:Nat→Option (Nat×TypeId)):List (Nat×AV)→List AV→Nat→List Tst×List AV×List ao
 | [],cs,_=>([],cs,[])
 |(i,v)::r,cs,base=>match place i with
  |none=>([.s false],cs,[])
  |some (off,t)=>match nQ P t v base with
   |(v',rs)=>match j9 P place r (setCells cs off v'.cells) (base+rs.length)with
    |(ok,cs',rs')=>([.s v'.lr,.s (Nat.beq v'.cells.length (P.cellsOf t)),.s (Nat.ble (off+P.cellsOf t) cs.length)]++ok,cs',rs++rs')
def placeOf(P:Program)(t:TypeId)(i:Nat):Option (Nat×TypeId):=
 match P.underlying t with
 |some (.struct _)=>rG P t i
 |some (.array m e)=>bif Nat.blt i m then some (i*P.cellsOf e,e)else none
 |_=>none
def wx(P:Program)(t:TypeId):Bool:=match P.underlying t with
 |some (.struct fs)=>fs.toList.all fun f=>(P.info? f.type).isSome
 |some (.array _ e)=>(P.info? e).isSome
 |_=>false
def nF(P:Program)(t:TypeId)(parts:List (Nat×AV))(base:Nat):Out:=
 match iJ P t base with
 |none=> .bad
 |some (cs,rs)=>match j9 P (placeOf P t) parts cs (base+rs.length)with
  |(ok,cs',rs')=>{ok:=ok++ [.s (wx P t)],v:= .agg cs',upd:=al base (rs++rs')}
def IF:Tst→Bool
 | .s b=>b
 | .d _=>true
def Dd:Ty→Bool
 | .sl (.sl _)=>true
 |_=>false
def Gw:AV→Bool
 | .sl _ _ _=>true
 | .nilS=>true
 |_=>false
def dZ(P:Program)(t:TypeId)(len:Nat)(parts:List (Nat×AV))(get:Get)(base:Nat):Out:=
 match gD P t with
 |none=> .bad
 |some e=>match rm P e with
  |none=> .bad
  |some (_,te)=>match readAll get te (parts.map (·.2))with
   |(ok,xs)=>match jj get te (parts.map (·.2))with
    |(ok',l)=>bif (!(ok'.all IF)||(Dd te&&Nat.blt 0 len))&&(Nat.beq te.size 1&&(parts.map (·.2)).all Gw)then
      {ok:= [.s (dO P t te),.s (decide (parts.map (·.1)=List.range len)),.s (Nat.ble (len*te.size) 16777216)],v:= .lit base len,upd:= [(base,.var (parts.map (·.2)))]}
     else bif Dd te&&parts.isEmpty then{ok:= [.s (dO P t te),.s (Nat.beq len 0)],v:= .sl base [] none,upd:= [(base,.sh te [])]}else
     {ok:= [.s (dO P t te),.s (decide (parts.map (·.1)=List.range len)),.s (Nat.ble (len*te.size) 16777216)]++ok++ok'++ [.s (decide l.Nodup)]
      v:= .sl base [] none,upd:=dC l++ [(base,.row true te xs)],quiet:=eF l}
def CF:List AV→Out
 | [.pv r c]=>{ok:= [],v:= .pv r c}
 | [.pe r p i f]=>{ok:= [],v:= .pe r p i f}
 |_=> .bad
def F6(op:UnOp)(avs:List AV):Out:=match op,avs with
 | .not,[.bool b]=>{ok:= [],v:= .bool (D.no b)}
 | .not,[.kb b]=>{ok:= [],v:= .kb (!b)}
 | .neg,[.int k n]=>{ok:= [],v:= .int k (D.wrap k (D.sub 0 n))}
 |_,_=> .bad
def rC(fn:Fn)(n:Nat)(avs:List AV):Out:=match fn with
 | .func f=>{ok:= [],v:= .fn f (avs.take n) (avs.drop n)}
 |_=> .bad
def pU(P:Program)(t:TypeId)(avs:List AV)(base:Nat):Out:=match gD P t,avs with
 |some e,[.int _ l,.int _ c]=>match rm P e with
  |some (_,t')=>{ok:= [.s (dO P t t'),.d (D.le 0 l),.d (D.le l c),.d (D.leN (D.nat c) lim)],v:= .sl base [] none,upd:= [(base,.row true t' (D.rep (D.nat l) (bz t')))]}
  |none=> .bad
 |_,_=> .bad
def jM(P:Program)(s:TypeId)(i:Nat)(avs:List AV):Out:=match rG P s i,avs with
 |some (f,ft),[.pv r c]=>{ok:= [.s (Nat.blt 0 (P.cellsOf ft))],v:= .pv r (c+f)}
 |some (f,ft),[.pe r p j g]=>{ok:= [.s (Nat.blt 0 (P.cellsOf ft))],v:= .pe r p j (g+f)}
 |_,_=> .bad
def w5(P:Program)(s:TypeId)(i:Nat)(avs:List AV):Out:=match rG P s i,avs with
 |some (f,ft),[.agg cs]=>fT P ft cs f
 |_,_=> .bad
def qT(i:Nat):List AV→Out
 | [.tup vs]=>{ok:= [.s (Nat.blt i vs.length)],v:=vs.getD i .undef}
 |_=> .bad
def H0(o:Oper):Option (Nat×TypeId):=match o.op,o.dst,o.guard with
 | .box t (.tmp 0),some p,none=>some (p,t)
 |_,_,_=>none
def IY(o:Oper):Option Nat:=match o.op,o.dst,o.guard with
 | .assign (.const _),some q,none=>some q
 |_,_,_=>none
def IL(o:Oper):Option (Nat×Nat×Nat):=match o.op,o.dst,o.guard with
 | .makeFunc (.func f) a b,some m,none=>match a.toList,b.toList with
  | [],[.tmp p]=>some (m,f,p)
  |_,_=>none
 |_,_,_=>none
def HZ(fn:Func):Option Nat:=match fn.results.toList with
 | [.tmp r]=>some r
 |_=>none
def IJ(o:Oper):Option (Nat×Nat):=match o.op,o.dst,o.guard with
 | .assign (.tmp m),some q,none=>some (q,m)
 |_,_,_=>none
def yS(P:Program)(f:Nat):Option (Nat×TypeId):=match P.funcs[f]? with
 |none=>none
 |some fn=>match fn.body with
  |some (.seq (.region _ a false) (.seq (.region _ b false) .ret))=>
   match (a[0]?).bind H0,(a[1]?).bind IY,(b[0]?).bind IL,(b[1]?).bind IJ,HZ fn with
   |some (p,t),some q,some (m,f1,p'),some (q',m'),some r=>
    bif Nat.beq a.size 2&&(Nat.beq b.size 2&&(Nat.beq p p'&&(Nat.beq m m'&&(Nat.beq q' r&&(!(Nat.beq q p)&&(Nat.blt p fn.ntmps&&(Nat.blt m fn.ntmps&&Nat.blt r fn.ntmps)))))))then some (f1,t)else none
   |_,_,_,_,_=>none
  |_=>none
def iv(P:Program)(c:Call):Option (Nat×TypeId):=match c.callee with
 | .value (.func f)=>yS P f
 |_=>none
def uY(P:Program)(c:Call)(avs:List AV)(base:Nat):Out:=match iv P c,avs with
 |some (f1,_),[_,.sl r p sub]=>{ok:= [.s (Nat.beq c.args.size 1)],v:= .fn f1 [] [.pv base 0],upd:= [(base,.var [.sl r p sub])]}
 |_,_=> .bad
def zG(P:Program)(t:TypeId):Bool:=match gD P t with
 |some e=>gH P e&&Nat.beq (P.cellsOf e) 1
 |none=>false
def a7(P:Program)(o:Oper)(avs:List AV)(get:Get)(base:Nat):Out:=
 match o.op with
 | .move _=>{ok:= [],v:=avs.headD .undef}
 | .assign _=>match nQ P o.type (avs.headD .undef) base with
  |(v,rs)=>{ok:= [],v:=v,upd:=al base rs}
 | .pick _ _ _=>match avs with
  | [c,a,b]=>Cg c a b
  |_=> .bad
 | .alloc t=>match iJ P t (base+1)with
  |some (cs,rs)=>{ok:= [],v:= .pv base 0,upd:=(base,.var cs)::al (base+1) rs}
  |none=> .bad
 | .box t _=>match nQ P t (avs.headD .undef) (base+1)with
  |(v,rs)=>{ok:= [.s v.lr],v:= .pv base 0,upd:=(base,.var v.cells)::al (base+1) rs}
 | .build t ps=>nF P t ((ps.toList.map (·.1)).zip avs) base
 | .buildSlice t len ps=>dZ P t len ((ps.toList.map (·.1)).zip avs) get base
 | .load t _=>fS P t (avs.headD .undef) get
 | .store t _ _=>match avs with
  | [a,v]=>iD P t a v get base
  |_=> .bad
 | .nilCheck _=>CF avs
 | .binOp op t _ _ _=>match avs with
  | [a,b]=>tB P t op a b get
  |_=> .bad
 | .unOp op _ _=>F6 op avs
 | .convert s d _=>oJ P s d (avs.headD .undef) get
 | .makeFunc fn first _=>rC fn first.size avs
 | .makeSlice t _ _=>pU P t avs base
 | .slice t _ lo hi mx=>match mx with
  |none=>gG P t (avs.headD .undef) (ox avs.tail lo).1 (ox (ox avs.tail lo).2 hi).1 get base
  |some m=>bif isZero m&&hi.any isZero&&lo.all isZero then iO P t (avs.headD .undef) get base else lO P t lo avs get base
 | .fieldAddr s _ i=>jM P s i avs
 | .field s _ i=>w5 P s i avs
 | .indexAddr t _ _=>match avs with
  | [x,i]=>gh P t x i get
  |_=> .bad
 | .index t _ _=>match avs with
  | [x,i]=>oY P t x i
  |_=> .bad
 | .extract _ i=>qT i avs
 | .call c=>match c.callee with
  | .builtin .len=>match c.argTypes[0]? with
   |some t=>nT P t (avs.headD .undef) get
   |none=> .bad
  | .builtin .cap=>match c.argTypes[0]? with
   |some t=>sX P t (avs.headD .undef)
   |none=> .bad
  | .builtin .append=>match avs,c.argTypes[0]?,c.argTypes[1]? with
   | [s,x],some t,some u=>match P.underlying u with
    |some .string=>dv P t s x get base
    |some (.slice _)=>gC P t s x get base
    |some (.int _)=>nU P t s x base
    |_=> .bad
   |_,_,_=> .bad
  | .builtin .copy=>match avs,c.argTypes[0]?,c.argTypes[1]? with
   | [d,s],some t,some _=>gV P t d s get
   |_,_,_=> .bad
  | .builtin .min=>mU false avs
  | .builtin .max=>mU true avs
  | .value _=>uY P c avs base
  |_=> .bad
 |_=> .bad
def setAt(rs:List ao)(i:Nat)(x:ao):List ao:=
 bif Nat.blt i rs.length then rs.set i x else rs++List.replicate (i-rs.length) .dead++ [x]
def dQ(rs:List ao):List (Nat×ao)→List ao
 | []=>rs
 |(i,x)::r=>dQ (setAt rs i x) r
def St.get(st:St):Get:=fun r=>st.rs.getD r .dead
def St.top(st:St):List AV:=st.fr.headD []
def St.put(st:St)(dst:Option Tmp)(v:AV):St:=
 match dst with
 |none=>st
 |some d=>match st.fr with
  | []=>st
  |f::r=>{st with fr:=f.set d v::r}
def pG:Value→AV
 | .int k n=> .int k n
 | .bool b=> .kb b
 | .string s=> .str s
 | .slice none 0 0=> .nilS
 | .agg cs=>bif cs.toList.all Value.oneCell' then .agg (cs.toList.map fun
  | .int k n=> .int k n
  | .bool b=> .kb b
  | .string s=> .str s
  | .slice none 0 0=> .nilS
  |_=> .undef)else .undef
 |_=> .undef
def AV.toI:AV→AV
 | .ki k n=> .int k n
 |v=>v
def aq(st:St):Operand→AV
 | .tmp i=>(st.top.getD i .undef).toI
 | .const v=>pG v
 | .global _=> .undef
 | .func f=> .fn f [] []
def evK(st:St):Operand→AV
 | .tmp i=>st.top.getD i .undef
 | .const (.int k n)=> .ki k n
 |x=>aq st x
def HX(op:BinOp)(k:IntKind)(a b:Int):Option AV:=match op with
 | .add=>some (.ki k (k.wrap (a+b)))
 | .lss=>some (.kb (decide (a<b)))
 | .geq=>some (.kb (decide (b≤a)))
 |_=>none
def Be(v:AV):Out:={ok:= [],v:=v}
def sN:ao→Bool
 | .var _=>true
 |_=>false
def Bc(P:Program)(o:Oper)(avs:List AV)(get:Get):Option Out:=
 match o.op with
 | .move _=>match avs with
  | [.ki k n]=>some (Be (.ki k n))
  |_=>none
 | .assign _=>match avs with
  | [.ki k n]=>some (Be (.ki k n))
  |_=>none
 | .binOp op _ _ _ _=>match avs with
  | [.ki k a,.ki k' b]=>bif decide (k=k')then(HX op k a b).map Be else none
  |_=>none
 | .indexAddr t _ _=>match avs with
  | [.lit r n,.ki _ i]=>bif sN (get r)then some {ok:= [.s (zG P t),.s (decide (0≤i)),.s (Nat.blt i.toNat n)],v:= .pv r i.toNat}else none
  |_=>none
 | .call c=>match c.callee with
  | .builtin .len=>match avs with
   | [.lit r n]=>match c.argTypes[0]? with
    |some t=>bif sN (get r)then some {ok:= [.s (gD P t).isSome],v:= .ki .i64 n}else none
    |none=>none
   |_=>none
  |_=>none
 |_=>none
mutual
def AV.ren(π:Nat→Option Nat):AV→AV
 | .sl r p s=>match π r with
  |some r=> .sl r p s
  |none=> .undef
 | .pv r c=>match π r with
  |some r=> .pv r c
  |none=> .undef
 | .lit r n=>match π r with
  |some r=> .lit r n
  |none=> .undef
 | .pe r p i f=>match π r with
  |some r=> .pe r p i f
  |none=> .undef
 | .fn f a b=> .fn f (AV.nJ π a) (AV.nJ π b)
 | .agg cs=> .agg (AV.nJ π cs)
 | .tup vs=> .tup (AV.nJ π vs)
 | .undef=> .undef
 | .nilS=> .nilS
 | .int k n=> .int k n
 | .bool b=> .bool b
 | .kb b=> .bool b
 | .ki k n=> .int k n
 | .nb n=> .nb n
 | .str s=> .str s
def AV.nJ(π:Nat→Option Nat):List AV→List AV
 | []=> []
 |v::vs=>v.ren π::AV.nJ π vs
end
mutual
def AV.roots:AV→List Nat
 | .sl r _ _=> [r]
 | .pv r _=> [r]
 | .lit r _=> [r]
 | .pe r _ _ _=> [r]
 | .fn _ a b=>AV.ah a++AV.ah b
 | .agg cs=>AV.ah cs
 | .tup vs=>AV.ah vs
 | .undef| .int _ _| .bool _| .kb _| .ki _ _| .nb _| .str _| .nilS=> []
def AV.ah:List AV→List Nat
 | []=> []
 |v::vs=>v.roots++AV.ah vs
end
def sk(get:Get):AV→List Nat
 | .lit r _=>match get r with
  | .var cs=>AV.ah cs
  |_=> []
 |_=> []
def ia(get:Get)(vs:List AV):List Nat:=vs.flatMap (sk get)
mutual
def AV.cut(r n:Nat):AV→AV
 | .sl r' p s=>bif Nat.beq r' r&&Nat.ble n p.length then .undef else .sl r' p s
 | .pe r' p i f=>bif Nat.beq r' r&&Nat.ble n p.length then .undef else .pe r' p i f
 | .fn f a b=> .fn f (AV.gU r n a) (AV.gU r n b)
 | .agg cs=> .agg (AV.gU r n cs)
 | .tup vs=> .tup (AV.gU r n vs)
 | .pv r' c=> .pv r' c
 | .lit r' n=> .lit r' n
 | .undef=> .undef
 | .nilS=> .nilS
 | .int k n=> .int k n
 | .bool b=> .bool b
 | .kb b=> .kb b
 | .ki k n=> .ki k n
 | .nb n=> .nb n
 | .str s=> .str s
def AV.gU(r n:Nat):List AV→List AV
 | []=> []
 |v::vs=>v.cut r n::AV.gU r n vs
end
def ao.ren(π:Nat→Option Nat):ao→ao
 | .var cs=> .var (AV.nJ π cs)
 | .pend r p t xs=>match π r with
  |some r=> .pend r p t xs
  |none=> .dead
 |x=>x
def ao.roots:ao→List Nat
 | .var cs=>AV.ah cs
 | .pend r _ _ _=> [r]
 |_=> []
def ao.cut(r n:Nat):ao→ao
 | .var cs=> .var (AV.gU r n cs)
 |x=>x
def jb(seen:List Nat):List Nat→List Nat
 | []=>seen
 |x::xs=>bif seen.contains x then jb seen xs else jb (seen++ [x]) xs
def reach(rs:List ao):Nat→List Nat→List Nat
 |0,seen=>seen
 |n+1,seen=>reach rs n (jb seen (seen.flatMap fun r=>(rs.getD r .dead).roots))
def alive(rs:List ao)(r:Nat):Bool:=match rs.getD r .dead with
 | .dead=>false
 |_=>true
def far:Nat:=1000000
def idx:List Nat→Nat→Nat→Option Nat
 | [],_,_=>none
 |x::xs,i,r=>bif Nat.beq x r then some i else idx xs (i+1) r
def jT(live:List Nat):Nat→List AV→List AV
 |_,[]=> []
 |i,v::vs=>(bif live.contains i then v else .undef)::jT live (i+1) vs
def St.dY(live:List Nat)(st:St):St:=
 match st.fr with
 | []=>st
 |f::fr=>{st with fr:=jT live 0 f::fr}
def St.vd(ord:List Nat)(st:St):St:=
 {fr:=st.fr.map (AV.nJ (idx ord 0)),rs:=ord.map fun r=>(st.rs.getD r .dead).ren (idx ord 0)}
def St.canon(live:List Nat)(st:St):St:=
 let st':=st.dY live
 let ord:=(reach st'.rs 4 (jb [] (st'.fr.flatMap AV.ah))).filter (alive st'.rs)
 bif decide ord.Nodup then st'.vd ord else st'
def St.cut(st:St):Option (Nat×Nat)→St
 |none=>st
 |some (r,n)=>{fr:=st.fr.map (AV.gU r n),rs:=st.rs.map (ao.cut r n)}
def quietAt(r:Nat)(ex:Option Nat):Nat→List ao→Bool
 |_,[]=>true
 |j,x::xs=>(match x with
  | .pend r' _ _ _=> !(Nat.beq r' r)||decide (ex=some j)
  |_=>true)&&quietAt r ex (j+1) xs
def br(rs:List ao)(q:List (Nat×Option Nat)):Bool:=q.all fun x=>quietAt x.1 x.2 0 rs
def St.app(st:St)(o:Out):St:=({st with rs:=dQ st.rs o.upd}:St).cut o.cut
section force
variable {R : Type}
def re(n:Nat)(k:Nat→Option R):Option R:=match n with
 |0=>k 0
 |m+1=>k (m+1)
def u5:Path→(Path→Option R)→Option R
 | [],k=>k []
 |(i,f)::p,k=>re f fun f=>u5 p fun p=>k ((i,f)::p)
mutual
def AV.force:AV→(AV→Option R)→Option R
 | .undef,k=>k .undef
 | .nilS,k=>k .nilS
 | .int kk n,k=>k (.int kk n)
 | .bool b,k=>k (.bool b)
 | .kb true,k=>k (.kb true)
 | .kb false,k=>k (.kb false)
 | .ki kk n,k=>k (.ki kk n)
 | .nb n,k=>k (.nb n)
 | .str s,k=>k (.str s)
 | .sl r p none,k=>re r fun r=>u5 p fun p=>k (.sl r p none)
 | .sl r p (some (o,l)),k=>re r fun r=>u5 p fun p=>k (.sl r p (some (o,l)))
 | .pv r c,k=>re r fun r=>re c fun c=>k (.pv r c)
 | .lit r n,k=>re r fun r=>re n fun n=>k (.lit r n)
 | .pe r p i f,k=>re r fun r=>u5 p fun p=>re f fun f=>k (.pe r p i f)
 | .fn f a b,k=>AV.mQ a fun a=>AV.mQ b fun b=>k (.fn f a b)
 | .agg cs,k=>AV.mQ cs fun cs=>k (.agg cs)
 | .tup vs,k=>AV.mQ vs fun vs=>k (.tup vs)
def AV.mQ:List AV→(List AV→Option R)→Option R
 | [],k=>k []
 |v::vs,k=>v.force fun v=>AV.mQ vs fun vs=>k (v::vs)
end
def ao.force:ao→(ao→Option R)→Option R
 | .dead,k=>k .dead
 | .var cs,k=>AV.mQ cs fun cs=>k (.var cs)
 | .row rw t xs,k=>k (.row rw t xs)
 | .pend r p t xs,k=>re r fun r=>u5 p fun p=>k (.pend r p t xs)
 | .half t xs,k=>k (.half t xs)
 | .sh t xs,k=>k (.sh t xs)
def q7:List ao→(List ao→Option R)→Option R
 | [],k=>k []
 |r::rs,k=>r.force fun r=>q7 rs fun rs=>k (r::rs)
def uQ:List (List AV)→(List (List AV)→Option R)→Option R
 | [],k=>k []
 |f::fs,k=>AV.mQ f fun f=>uQ fs fun fs=>k (f::fs)
def St.force(st:St)(k:St→Option R):Option R:=uQ st.fr fun fr=>q7 st.rs fun rs=>k ⟨fr,rs⟩
end force
def Code.cA:Code→Code
 | .seq a _=>a
 | .rangeFunc _ _ a _=>a
 |c=>c
def Code.cB:Code→Code
 | .seq _ b=>b
 | .rangeFunc _ _ _ b=>b
 |c=>c
def Code.cC:Code→Code
 | .block _ c=>c
 | .loop c=>c
 | .scope c=>c
 |c=>c
def Code.cT:Code→Code
 | .cond _ x _=>x
 |c=>c
def Code.ops:Code→Array Oper
 | .region _ ops _=>ops
 |_=> #[]
def AN(ops:Array Oper)(i:Nat):Oper:=match ops[i]? with
 |some o=>o
 |none=>⟨none,.move (.tmp 0),0, "",#[],none⟩
def frm(n:Nat)(l:List (Nat×AV)):List AV:=l.foldl (fun f x=>f.set x.1 x.2) (List.replicate n .undef)
def di(P:Program)(f:Nat):Code:=match P.funcs[f]? with
 |some fn=>match fn.body with
  |some c=>c
  |none=> .skip
 |none=> .skip
def zr(P:Program)(f:Nat):Func:=match P.funcs[f]? with
 |some fn=>fn
 |none=>default
end Go.Am
end
section
/- The abstract machine, third part: the executor, in continuation style, over the model's Code. -/
noncomputable section
namespace Go.Am
variable [D]
section run
def chk{R:Type}(l:List Tst)(x:Option R):Option R:=
 match l with
 | []=>x
 | .s b::r=>bif b then chk r x else none
 | .d b::r=>D.test b (chk r x) none
inductive Ex where
  | normal | exit (id : Nat) | ret
structure Env (P : Program) where
  pc : (f : Nat) → den (fc P f) → Option (den (resTy P f))
  ps : (f : Nat) → den (fc P f) → Option (den (resTy P f))
  inl : {R : Type} → Nat → List AV → St → (List AV → St → Option R) → Option R
  srt : {R : Type} → Nat → Nat → Option R → Option R
structure Cfg where
  mode : Nat → Nat
  loops : Nat → Nat → Option (List Nat)
  joins : Nat → Nat → Option (List Nat)
variable {R : Type} (P : Program) (cfg : Cfg) (env : Env P)
structure Touch where
  reads : List Nat
  writes : List Nat
  quiet : List Nat
  alone : Bool
def ao.waits:ao→List Nat
 | .pend r _ _ _=> [r]
 |_=> []
def jR(st:St)(upd:List (Nat×ao)):List Nat:=upd.flatMap fun x=>(st.get x.1).waits++x.2.waits
def rV(o:Oper)(avs:List AV):List Nat:=match o.op with
 | .move _=> []
 |_=>AV.ah avs
def zF(o:Oper)(avs:List AV)(out:Out)(st:St)(K:Touch→St→Option R):Option R:=
 match out with
 |⟨ok,v,upd,cut,quiet⟩=>chk (.s (br st.rs quiet)::ok)
   (St.force ((({st with rs:=dQ st.rs upd}:St).cut cut).put o.dst v) (K ⟨rV o avs,upd.map (·.1),quiet.map (·.1)++jR st upd,cut.isSome⟩))
def qh:List AV→AV
 | [v]=>v
 |vs=> .tup vs
def rR(P:Program):List TypeId→List AV→Nat→List AV×List ao
 |t::ts,v::vs,base=>match nQ P t v base with
  |(v',rs)=>match rR P ts vs (base+rs.length)with
   |(vs',rs')=>(v'::vs',rs++rs')
 |_,vs,_=>(vs,[])
def DR(P:Program)(t:TypeId)(v:AV):Bool:=match v with
 | .undef=>false
 | .tup _=>false
 | .agg cs=>kZ P t&&Nat.beq cs.length (tyD P t).size
 |_=> !kZ P t&&Nat.beq (tyD P t).size 1
def fitAll(P:Program):List TypeId→List AV→Bool
 | [],[]=>true
 |t::ts,v::vs=>DR P t v&&fitAll P ts vs
 |_,_=>false
mutual
def AV.vars:AV→List Nat
 | .pv r _=> [r]
 | .fn _ a b=>AV.um a++AV.um b
 | .agg cs=>AV.um cs
 | .undef| .int _ _| .bool _| .kb _| .ki _ _| .nb _| .str _| .nilS| .sl _ _ _| .pe _ _ _ _| .lit _ _| .tup _=> []
def AV.um:List AV→List Nat
 | []=> []
 |v::vs=>v.vars++AV.um vs
end
def rT(m3:Bool)(get:Get):AV→List Nat
 | .sl r [] none=>bif m3 then(match get r with
  | .row true _ _=> [r]
  |_=> [])else []
 |_=> []
def aU(get:Get)(r:Nat):List AV:=match get r with
 | .var cs=>cs
 |_=> []
def mF(get:Get):Nat→List Nat→List Nat
 |0,seen=>seen
 |n+1,seen=>mF get n (jb seen (seen.flatMap fun r=>AV.um (aU get r)))
def xY(L:List Nat)(r:Nat):Path→Option (Nat×Nat)→Option Nat
 | [],none=>idx L 0 r
 |_,_=>none
mutual
def ct(get:Get)(L:List Nat):AV→Nat→List Tst×AV×List ao
 | .int k n,_=>([],.int k n,[])
 | .bool b,_=>([],.bool b,[])
 | .kb b,_=>([],.bool b,[])
 | .ki k n,_=>([],.int k n,[])
 | .str s,_=>([],.str s,[])
 | .nilS,_=>([],.nilS,[])
 | .undef,_=>([],.undef,[])
 | .sl r p sub,b=>match xY L r p sub with
  |some i=>([],.sl i [] none,[])
  |none=>match sliceAt get r p with
   |(ok,⟨e,ys⟩)=>(ok,.sl b [] none,[.row false e (eD sub ys)])
 | .pv r c,_=>match idx L 0 r with
  |some i=>([],.pv i c,[])
  |none=>([.s false],.undef,[])
 | .fn f x y,b=>match gp get L x b with
  |(ok,x',rx)=>match gp get L y (b+rx.length)with
   |(ok',y',ry)=>(ok++ok',.fn f x' y',rx++ry)
 | .agg cs,b=>match gp get L cs b with
  |(ok,cs',rs)=>(ok,.agg cs',rs)
 | .nb _,_=>([.s false],.undef,[])
 | .pe _ _ _ _,_=>([.s false],.undef,[])
 | .lit r n,_=>match idx L 0 r with
  |some i=>([],.lit i n,[])
  |none=>([.s false],.undef,[])
 | .tup _,_=>([.s false],.undef,[])
def gp(get:Get)(L:List Nat):List AV→Nat→List Tst×List AV×List ao
 | [],_=>([],[],[])
 |v::vs,b=>match ct get L v b with
  |(ok,v',r)=>match gp get L vs (b+r.length)with
   |(ok',vs',rs)=>(ok++ok',v'::vs',r++rs)
end
def gz(get getK:Get)(L:List Nat):List Nat→Nat→List Tst×List ao×List ao
 | [],_=>([],[],[])
 |r::V,b=>match gp getK L (aU get r) b with
  |(ok,cs,rs)=>match gz get getK L V (b+rs.length)with
   |(ok',vr,rs')=>(.s (match get r with
    | .var _=>true
    |_=>false)::(ok++ok'),.var cs::vr,rs++rs')
structure bu where
  lv : List Nat
  ld : List Nat
  ln : List Nat
def bu.all(l:bu):List Nat:=l.lv++(l.ld++l.ln)
def vm(get:Get)(vs:List AV):List Nat:=mF get 4 (jb [] (AV.um vs))
def vk(m3:Bool)(get:Get)(vs:List AV):List Nat:=(vs.flatMap AV.cells).flatMap (rT m3 get)
def qy(m3:Bool)(get:Get)(lv:List Nat):List Nat:=(lv.flatMap (aU get)).flatMap (rT m3 get)
def lg{R:Type}:List Nat→(List Nat→Option R)→Option R
 | [],k=>k []
 |n::ns,k=>re n fun n=>lg ns fun ns=>k (n::ns)
def lA(nV nD n m:Nat):List AV:=
 (List.range nV).map (fun i=> .pv i 0)++((List.range nD).map (fun i=> .sl (nV+i) [] none)++(List.replicate (n-nV-nD) .undef++(List.range m).map (fun i=> .sl (n+i) [] none)))
def e9(n:Nat)(rs:List ao):AV→Ty
 | .int k _=> .int k
 | .bool _=> .bool
 | .str _=> .str
 | .sl i [] none=>bif Nat.blt i n then(match rs.getD i .dead with
  | .row _ t _=> .sl t
  |_=> .unit)else .unit
 |_=> .unit
def ez:ao→List AV
 | .var cs=>cs
 |_=> []
def oq(lo:Nat):AV→AV
 | .sl i [] none=>bif Nat.blt i lo then .sl i [] (some (0,0))else .sl i [] none
 |c=>c
def cZ(nV nD:Nat)(rs:List ao):List AV:=
 (List.range nD).map (fun i=> .sl (nV+i) [] none)++((rs.take nV).flatMap ez).map (oq (nV+nD))
def jm(nV nD n:Nat)(rs:List ao):List Ty:=(cZ nV nD rs).map (e9 n rs)
def sY(nV nD n:Nat)(rs:List ao):Ty:=Ty.all (jm nV nD n rs)
def dX(n:Nat)(rs:List ao):List AV→List Nat
 | []=> []
 |c::cs=>match c with
  | .sl i [] none=>bif Nat.blt i n then i::dX n rs cs else dX n rs cs
  |_=>dX n rs cs
mutual
def dq(get:Get)(hs:List AV)(n:Nat):AV→AV→Bool
 | .nilS,.nilS=>true
 | .sl i [] none,.sl r [] none=>Nat.ble n i&&(match hs.getD i .undef with
  | .sl r' [] none=>Nat.beq r' r
  |_=>false)&&(match get r with
  | .row _ _ _=>true
  |_=>false)
 | .pv i c,.pv r c'=>Nat.beq c c'&&(match hs.getD i .undef with
  | .pv r' 0=>Nat.beq r' r
  |_=>false)&&(match get r with
  | .var _=>true
  |_=>false)
 | .fn f a b,.fn f' a' b'=>Nat.beq f f'&&(qA get hs n a a'&&qA get hs n b b')
 |_,_=>false
def qA(get:Get)(hs:List AV)(n:Nat):List AV→List AV→Bool
 | [],[]=>true
 |v::vs,u::us=>dq get hs n v u&&qA get hs n vs us
 |_,_=>false
end
def rd1(get:Get)(t:Ty)(v:AV):List Tst×den t×List Nat:=
 match t with
 | .unit=>([],(),[])
 |t=>match bF get t [v]with
  |(ok,x,_)=>match gives get t [v]with
   |(ok',l,_)=>(ok++ok',x,l)
def uz(get:Get):(tys:List Ty)→List AV→List Tst×den (Ty.all tys)×List Nat
 | [],_=>([],(),[])
 | [t],fin=>rd1 get t (fin.headD .undef)
 |t::u::r,fin=>match rd1 get t (fin.headD .undef)with
  |(ok,x,l)=>match uz get (u::r) fin.tail with
   |(ok',y,l')=>(ok++ok',(x,y),l++l')
def yX(get:Get)(hs:List AV)(i:Nat):AV→Bool
 | .sl r [] none=>(match hs.getD i .undef with
   | .sl r' [] none=>Nat.beq r' r
   |_=>false)&&(match get r with
   | .row _ _ _=>true
   |_=>false)
 |_=>false
def rI(get:Get)(hs:List AV)(n:Nat):List Ty→List AV→List AV→Bool
 | [],_,_=>true
 |t::tys,c,fin=>(match t with
  | .unit=>(match c.headD .undef with
   | .undef=>true
   | .sl i [] (some _)=>yX get hs i (fin.headD .undef)
   |c=>dq get hs n c (fin.headD .undef))
  |_=>true)&&rI get hs n tys c.tail fin.tail
def varsOf(get:Get):List AV→List ao→List Tst×List AV
 | [],[]=>([],[])
 |h::hs,r::rs=>match h with
  | .pv x 0=>match get x with
   | .var cs'=>match varsOf get hs rs with
    |(ok,cs)=>(.s (Nat.beq cs'.length (ez r).length)::ok,cs'++cs)
   |_=>([.s false],[])
  |_=>([.s false],[])
 |_,_=>([.s false],[])
def tV(P:Program)(f nV nD n:Nat)(rs:List ao)(vs':List AV)(st':St):Option (den (resTy P f)×den (sY nV nD n rs)):=
 match varsOf st'.get (st'.top.take nV) (rs.take nV)with
 |(ok0,fin)=>
  match bF st'.get (resTy P f) (vs'.flatMap AV.cells)with
  |(ok1,y,rest)=>match gives st'.get (resTy P f) (vs'.flatMap AV.cells)with
   |(ok2,l,_)=>
    match uz st'.get (jm nV nD n rs) ((st'.top.drop nV).take nD++fin)with
    |(ok3,x,l')=>
     chk (ok0++(ok1++(ok2++(ok3++ [.s (fitAll P (cb P f) vs'),.s rest.isEmpty,.s (decide (l++l').Nodup),.s (Nat.beq ((st'.top.drop nV).take nD).length nD),
      .s (rI st'.get st'.top n (jm nV nD n rs) (cZ nV nD rs) ((st'.top.drop nV).take nD++fin))])))) (some (y,x))
def AV.strip:AV→AV
 | .int k _=> .int k 0
 | .bool _=> .bool false
 | .str _=> .str ByteArray.empty
 |v=>v
def ao.strip:ao→ao
 | .var cs=> .var (cs.map AV.strip)
 | .row rw t _=> .row rw t []
 | .half t _=> .half t []
 | .sh t _=> .sh t []
 |x=>x
def kY{P:Program}(env:Env P)(f nV nD n:Nat)(rs0:List ao)(st:St):Option (den (resTy P f)×den (sY nV nD n rs0)):=
 env.inl f st.top ⟨st.fr.tail,st.rs⟩ fun vs' st'=>tV P f nV nD n rs0 vs' st'
def iu:(tys:List Ty)→den (Ty.all tys)→List Cell
 | [],_=> []
 | [t],x=> [⟨t,x⟩]
 |t::u::r,x=>⟨t,x.1⟩::iu (u::r) x.2
def Cx(o:AV):Cell→AV
 |⟨.int k,n⟩=> .int k n
 |⟨.bool,b⟩=> .bool b
 |⟨.str,s⟩=> .str s
 |_=>o
def iz:List AV→List Cell→List AV
 |o::os,c::cs=>Cx o c::iz os cs
 |os,[]=>os
 | [],_=> []
def gd(n:Nat)(L:List Nat)(rs:List ao):List AV→List Cell→List (Nat×ao)
 |c::cs,b::bs=>(match c,b with
  | .sl i [] none,⟨.sl t,xs⟩=>bif Nat.blt i n then [(L.getD i 0,.row true t xs)]else []
  |_,_=> [])++gd n L rs cs bs
 |_,_=> []
def kE(get:Get):List Nat→List AV→List (Nat×ao)
 | [],_=> []
 |r::V,cs=>(r,.var (cs.take (aU get r).length))::kE get V (cs.drop (aU get r).length)
def fh(n:Nat):List Nat→St→St
 | [],st=>st
 |r::l,st=>fh n l (st.cut (some (r,n)))
def jP(ls:bu)(st:St)(vs:List AV):List Tst×St:=
 match gp (fun r=>bif ls.all.contains r then .dead else st.get r) ls.all vs ls.all.length with
 |(okA,vsS,roA)=>match gz st.get (fun r=>bif ls.all.contains r then .dead else st.get r) ls.all ls.lv (ls.all.length+roA.length)with
  |(okV,vrs,roV)=>(okA++okV,⟨[vsS,lA ls.lv.length ls.ld.length ls.all.length (roA.length+roV.length)],vrs++((ls.ld++ls.ln).map st.get++(roA++roV))⟩)
def vT(ls:bu)(st:St)(rsS:List ao)(cells:List Cell):List (Nat×ao):=
 gd ls.all.length ls.all rsS (cZ ls.lv.length ls.ld.length rsS) cells++kE st.get ls.lv (iz (ls.lv.flatMap (aU st.get)) (cells.drop ls.ld.length))
def mT(ls:bu)(st:St)(rsS:List ao)(x:den (sY ls.lv.length ls.ld.length ls.all.length rsS)):St:=
 ⟨(fh 0 ls.ln (fh 1 ls.ld st)).fr,dQ (fh 0 ls.ln (fh 1 ls.ld st)).rs (vT ls st rsS (iu (jm ls.lv.length ls.ld.length ls.all.length rsS) x))⟩
def FX(r:Nat):AV→Bool
 | .sl r' [] none=>Nat.beq r' r
 |_=>false
def FG(m7:Bool)(st:St)(l:List Nat):List Nat:=bif m7 then l.filter (fun r=>(st.fr.getLastD []).any (FX r))else []
def F0(m7:Bool)(st:St)(l:List Nat):List Nat:=bif m7 then l.filter (fun r=> !(st.fr.getLastD []).any (FX r))else l
def ioK{P:Program}{R:Type}(env:Env P)(m3 m7:Bool)(f:Nat)(vs:List AV)(st:St)(K:List AV→St→Option R):Option R:=
 lg (vm st.get vs) fun lv=>lg (vk m3 st.get vs++FG m7 st (qy m3 st.get lv)) fun ld=>lg (F0 m7 st (qy m3 st.get lv)) fun ln=>
 match jP ⟨lv,ld,ln⟩ st vs with
 |(ok,stS)=>chk (.s (decide (bu.all ⟨lv,ld,ln⟩).Nodup):: .s (br st.rs (eF (bu.all ⟨lv,ld,ln⟩)))::
   .s (decide (dX (bu.all ⟨lv,ld,ln⟩).length stS.rs (cZ lv.length ld.length stS.rs)=List.range' lv.length (ld.length+ln.length)))::ok) (St.force stS fun stS=>q7 (stS.rs.map ao.strip) fun rs0=>
  D.bnd (kY env f lv.length ld.length (bu.all ⟨lv,ld,ln⟩).length rs0 stS) fun yx=>
   St.force (mT ⟨lv,ld,ln⟩ st rs0 yx.2) fun st2=>
   match fB P true (cb P f) yx.1 st2.rs.length with
   |(vs',rs)=>K vs' {st2 with rs:=dQ st2.rs (al st2.rs.length rs)})
def xC{P:Program}{R:Type}(env:Env P)(f:Nat)(vs:List AV)(st:St)(base:Nat)(K:List AV→List (Nat×ao)→List Nat→List Nat→Option R):Option R:=
 lg (vm st.get vs) fun lv=>
 match jP ⟨lv,[],[]⟩ st vs with
 |(ok,stS)=>chk (.s (decide (bu.all ⟨lv,[],[]⟩).Nodup):: .s (br st.rs (eF (bu.all ⟨lv,[],[]⟩)))::
   .s (decide (dX (bu.all ⟨lv,[],[]⟩).length stS.rs (cZ lv.length 0 stS.rs)=List.range' lv.length 0))::ok) (St.force stS fun stS=>q7 (stS.rs.map ao.strip) fun rs0=>
  D.bnd (kY env f lv.length 0 (bu.all ⟨lv,[],[]⟩).length rs0 stS) fun yx=>
   match fB P true (cb P f) yx.1 base with
   |(vs',rs)=>K vs' (vT ⟨lv,[],[]⟩ st rs0 (iu (jm lv.length 0 (bu.all ⟨lv,[],[]⟩).length rs0) yx.2)++al base rs)
     (AV.ah vs++(lv++AV.ah (lv.flatMap (aU st.get)))) lv)
def Cu(vs:List AV):List Nat:=jb [] (vs.flatMap fun v=>match v with
 | .lit r _=> [r]
 |_=> [])
def ioC{P:Program}{R:Type}(env:Env P)(f:Nat)(vs:List AV)(st:St)(base:Nat)(K:List AV→List (Nat×ao)→List Nat→List Nat→Option R):Option R:=
 lg (Cu vs) fun lv=>lg (vk true st.get vs++qy true st.get lv) fun ln=>
 match jP ⟨lv,[],ln⟩ st vs with
 |(ok,stS)=>chk (.s (decide (bu.all ⟨lv,[],ln⟩).Nodup):: .s (br st.rs (eF (bu.all ⟨lv,[],ln⟩)))::ok) (St.force stS fun stS=>q7 (stS.rs.map ao.strip) fun rs0=>
  D.bnd (kY env f 0 0 (bu.all ⟨lv,[],ln⟩).length rs0 stS) fun yx=>
   match fB P true (cb P f) yx.1 base with
   |(vs',rs)=>K vs' (dC (bu.all ⟨lv,[],ln⟩)++al base rs)
     (AV.ah vs++(lv++AV.ah (lv.flatMap (aU st.get)))) (bu.all ⟨lv,[],ln⟩))
def ioD{P:Program}{R:Type}(m:Nat)(env:Env P)(f:Nat)(vs:List AV)(st:St)(base:Nat)(K:List AV→List (Nat×ao)→List Nat→List Nat→Option R):Option R:=
 bif Nat.beq m 5 then ioC env f vs st base K else xC env f vs st base K
def Ij(get:Get):AV→Bool
 | .sl r (_::_) _=>(match get r with
  | .row true _ _=>true
  |_=>false)
 |_=>false
def aX(get:Get)(m:Nat)(vs:List AV):Bool:=Nat.beq m 7||(Nat.ble 3 m&&Nat.ble m 4&& !(Nat.beq m 3&&(vs.flatMap AV.cells).any (Ij get)))
def zV{a b:Ty}(h:a=b)(x:Option (den a)):Option (den b):=h▸x
def se{P:Program}(env:Env P)(g:Nat)(t:Ty)(xs:List (den t)):Option (List (den t)):=
 match decEq (fc P g) (.pair t t),decEq (resTy P g) (.int .i64)with
 | .isTrue h1,.isTrue h2=>D.srt (fun a b=>zV h2 (env.pc g (ot h1.symm (a,b)))) xs
 |_,_=>none
def pW(P:Program)(g:Nat)(t:Ty):Bool:=match eT P g,cb P g with
 | [a,b],[c]=>(match P.funcs[g]? with
  |some fn=> !(fn.name== "runtime.NumGoroutine")
  |none=>false)&&(kZ P a&&(kZ P b&& !kZ P c)&&decide (tyD P a=t∧tyD P b=t))
 |_,_=>false
def xJ{P:Program}{R:Type}(env:Env P)(f:Nat)(vs:List AV)(st:St)(K:List AV→St→Option R):Option R:=
 match vs with
 | [.sl r [] none,.fn g [] []]=>(match st.get r with
  | .row true t xs=>env.srt f t.size (chk [.s (br st.rs (eF [r])),.s (pW P g t)] (D.bnd (se env g t xs) fun ys=>
    St.force ⟨(st.cut (some (r,1))).fr,dQ (st.cut (some (r,1))).rs [(r,.row true t ys)]⟩ fun st=>K [] st))
  |_=>none)
 |_=>none
def Ci{R:Type}(f:Nat)(vs:List AV)(st:St)(K:List AV→St→Option R):Option R:=
 bif Nat.beq (cfg.mode f) 8 then xJ env f vs st K else
 bif aX st.get (cfg.mode f) vs then ioK env (Nat.beq (cfg.mode f) 3||Nat.beq (cfg.mode f) 7) (Nat.beq (cfg.mode f) 7) f vs st K else env.inl f vs st K
def sy(f:Nat)(vs:List AV)(base:Nat):List AV×List ao:=
 bif Nat.beq (cfg.mode f) 2||Nat.beq (cfg.mode f) 5 then(vs,[])else rR P (eT P f) vs base
def uV(get:Get)(vs:List AV):List Nat:=(jb [] (AV.ah vs++ia get (vs.flatMap AV.cells))).filter fun r=>match get r with
 | .row false _ _=>false
 | .dead=>false
 |_=>true
def B5:ao→Bool
 | .row true _ _=>true
 | .sh _ _=>true
 | .var _=>true
 |_=>false
def ioS{P:Program}{R:Type}(env:Env P)(f:Nat)(vs:List AV)(st:St)(K:List AV→St→Option R):Option R:=
 lg (uV st.get vs) fun L=>
 match gI st.get (fc P f) (vs.flatMap AV.cells)with
 |(ok,x,rest)=>chk (.s (fitAll P (eT P f) vs):: .s rest.isEmpty:: .s (br st.rs (eF L)):: .s (L.all fun r=>B5 (st.get r))::ok) (D.bnd (env.ps f x) fun y=>
   match fB P false (cb P f) y st.rs.length with
   |(vs',rs)=>K vs' {st with rs:=dQ st.rs (dC L++al st.rs.length rs)})
def sd(base:Nat)(dr:Bool)(o:Oper)(c:Call)(st:St)(K:Touch→St→Option R):Option R:=
 match c.callee with
 | .builtin _=>zF o (o.op.operands.toList.map (aq st)) (a7 P o (o.op.operands.toList.map (aq st)) st.get base) st K
 | .invoke _ _=>none
 | .value x=>match aq st x with
  | .fn f first cap=>
   bif Nat.beq (cfg.mode f) 0 then
    match first,cap with
    | [],[]=>
     match gI st.get (fc P f) ((c.args.toList.map (aq st)).flatMap AV.cells)with
     |(ok,x,rest)=>chk (.s (fitAll P (eT P f) (c.args.toList.map (aq st))):: .s rest.isEmpty::ok) (D.bnd (env.pc f x) fun r=>
      match fB P true (cb P f) r base with
      |(vs,rs)=>St.force ({st with rs:=dQ st.rs (al base rs)}.put o.dst (qh vs))
        (K ⟨AV.ah (c.args.toList.map (aq st))++ia st.get ((c.args.toList.map (aq st)).flatMap AV.cells),(al base rs).map (·.1),jR st (al base rs),false⟩))
    |_,_=>none
   else bif Nat.beq (cfg.mode f) 6 then(bif dr then none else match first,cap with
    | [],[]=>ioS env f (c.args.toList.map (aq st)) st fun vs st'=>St.force (st'.put o.dst (qh vs)) (K ⟨[],[],[],true⟩)
    |_,_=>none)
   else bif dr then(bif Nat.ble 4 (cfg.mode f)then
     ioD (cfg.mode f) env f (first++c.args.toList.map (aq st)++cap) st base fun vs upd rd qu=>
      lg rd fun rd=>lg (upd.map (·.1)) fun wr=>lg (qu++jR st upd) fun qu=>
      St.force ({st with rs:=dQ st.rs upd}.put o.dst (qh vs)) (K ⟨rd,wr,qu,false⟩)
    else none)else
    match sy P cfg f (first++c.args.toList.map (aq st)++cap) st.rs.length with
    |(vs,rs)=>Ci P cfg env f vs {st with rs:=st.rs++rs} fun vs st'=>St.force (st'.put o.dst (qh vs)) (K ⟨[],[],[],true⟩)
  |_=>none
def qe(base:Nat)(dr:Bool)(o:Oper)(st:St)(K:Touch→St→Option R):Option R:=
 match o.op with
 | .call c=>bif (iv P c).isSome then zF o (o.op.operands.toList.map (aq st)) (a7 P o (o.op.operands.toList.map (aq st)) st.get base) st K else sd P cfg env base dr o c st K
 |_=>zF o (o.op.operands.toList.map (aq st)) (a7 P o (o.op.operands.toList.map (aq st)) st.get base) st K
def opK(base:Nat)(dr:Bool)(o:Oper)(st:St)(K:Touch→St→Option R):Option R:=
 bif dr then qe P cfg env base dr o st K else match Bc P o (o.op.operands.toList.map (evK st)) st.get with
 |some out=>zF o (o.op.operands.toList.map (aq st)) out st K
 |none=>qe P cfg env base dr o st K
def GD(a b:List Nat):Bool:=a.all fun x=> !b.contains x
def indep(a b:Touch):Bool:=
 !a.alone&& !b.alone&&GD a.writes b.reads&&GD a.writes b.writes&&GD a.reads b.writes&&GD a.quiet b.quiet
def my(ops:Array Oper)(bf:List Nat):List (Nat×Touch)→Bool
 | []=>true
 |(j,t)::r=>(r.all fun x=>(bf.getD j 0).testBit x.1||
   (indep t x.2&&(match ops[x.1]?,ops[j]? with
    |some a,some b=>Oper.apart ops a b
    |_,_=>false)))&&my ops bf r
def uT(b0:Nat)(bf:List Nat)(tr:List (Nat×Touch)):Bool:=
 tr.all fun x=>x.2.writes.all fun r=>Nat.blt r b0||((Nat.ble (b0+16*x.1) r&&Nat.blt r (b0+16*x.1+16))||
  (Nat.blt r (b0+16*x.1)&&(bf.getD x.1 0).testBit ((r-b0)/16)))
def nO(b0:Option Nat)(i:Nat)(st:St):Nat:=match b0 with
 |none=>st.rs.length
 |some b=>b+16*i
def nX(ops:Array Oper)(i:Nat):Bool:=ops.toList.any fun o=>match o.guard with
 |some (j,_)=>Nat.beq j i
 |none=>false
def gY(ops:Array Oper)(i:Nat)(o:Oper)(st:St)(K:St→Option R):Option R:=
 match o.dst with
 |none=>K st
 |some d=>match st.top.getD d .undef with
  | .bool b=>bif nX ops i then D.test b (K (st.put (some d) (.kb true))) (K (st.put (some d) (.kb false)))else K st
  |_=>K st
def gl:Touch:=⟨[],[],[],false⟩
def jB(b0:Option Nat)(ops:Array Oper)(i:Nat)(st:St)(K:Touch→St→Option R):Option R:=
 match ops[i]? with
 |none=>none
 |some o=>
  match o.guard with
  |none=>opK P cfg env (nO b0 i st) b0.isSome o st fun t st=>gY ops i o st (K t)
  |some (j,want)=>match (ops[j]?).bind (·.dst)with
   |none=>none
   |some d=>match st.top.getD d .undef with
    | .kb b=>bif b==want then opK P cfg env (nO b0 i st) b0.isSome o st fun t st=>gY ops i o st (K t)else St.force (st.put o.dst (.tup [])) (K gl)
    | .tup _=>St.force (st.put o.dst (.tup [])) (K gl)
    |_=>none
def eE(b0:Option Nat)(ops:Array Oper):List Nat→List (Nat×Touch)→St→(List (Nat×Touch)→St→Option R)→Option R
 | [],tr,st,K=>K tr st
 |i::rest,tr,st,K=>jB P cfg env b0 ops i st fun t st=>eE b0 ops rest ((i,bif b0.isSome then t else gl)::tr) st K
def mr(ops:Array Oper):Bool:=(List.range ops.size).all fun i=>match ops[i]? with
 |some o=>o.after.toList.all fun e=> !Region.binds .any e||Nat.blt e.on i
 |none=>true
def key:Code→Nat
 | .region id _ _=>2*id
 | .cond (.tmp t) _ _=>2*t+1
 | .seq a _=>key a
 | .block _ c=>key c
 | .loop c=>key c
 | .scope c=>key c
 |_=>far
abbrev cY(R:Type):=Ex→St→Option R
def qR(next:St→cY R→Option R)(K:cY R):cY R:=fun e st=>match e with
 | .normal=>next st K
 | .exit i=>K (.exit i) st
 | .ret=>K .ret st
def bI(id:Nat)(K:cY R):cY R:=fun e st=>match e with
 | .normal=>K .normal st
 | .exit i=>bif Nat.beq i id then K .normal st else K (.exit i) st
 | .ret=>K .ret st
def ik(h:Option (List Nat))(F:St→Option R)(st:St):Option R:=match h with
 |some live=>St.force (st.canon live) (D.jn F)
 |none=>F st
def j1(F:St→cY R→Option R)(h:Option (List Nat)):Nat→St→cY R→Option R
 |0,_,_=>none
 |n+1,st,K=>F st (qR (fun st' K=>ik h (fun st''=>j1 F h n st'' K) st') K)
def oT(F:St→Option R):cY R:=fun e st=>match e with
 | .normal=>F st
 | .exit _=>none
 | .ret=>F st
def dK:Code→Bool
 | .seq a b=>dK a&&dK b
 | .cond _ a b=>dK a&&dK b
 | .block _ c=>dK c
 | .loop c=>dK c
 | .rangeFunc _ _ _ _=>false
 |_=>true
def wX(o:Oper)(t:Nat):Bool:=match o.dst with
 |some d=>Nat.beq d t
 |none=>false
def F7(o:Oper):Option Nat:=match o.op,o.dst,o.guard with
 | .move (.tmp 0),some t,none=>some t
 |_,_,_=>none
def FQ(o:Oper):Option (Nat×Nat×Array Operand):=match o.op,o.dst,o.guard with
 | .call c,some v,none=>match c.callee with
  | .value (.tmp t)=>some (v,t,c.args)
  |_=>none
 |_,_,_=>none
def H7(o:Oper):Option (Nat×Nat):=match o.op,o.dst,o.guard with
 | .unOp .not _ (.tmp v),some d,none=>some (d,v)
 |_,_,_=>none
def BP(ops:Array Oper)(t i:Nat):Bool:=match ops[i]? with
 |some o=> !(wX o 0)&& !(wX o t)
 |none=>false
def tA:Code→Code→Option (Array Oper×Nat×Array Operand×Nat×Nat)
 | .region _ ops false,.cond (.tmp d) .ret .skip=>
  match (ops[0]?).bind F7,(ops[ops.size-2]?).bind FQ,(ops[ops.size-1]?).bind H7 with
  |some t,some (v,t',args),some (d',v')=>
   bif Nat.ble 3 ops.size&&(Nat.beq t t'&&(Nat.beq v v'&&(Nat.beq d d'&&(!(Nat.beq t 0)&&(!(Nat.beq v 0)&&(!(Nat.beq d 0)&&
    (List.range' 1 (ops.size-3)).all (BP ops t)))))))then some (ops,t,args,v,d)else none
  |_,_,_=>none
 |_,_=>none
def De(hand:List AV→St→(St→Option R)→Option R)(N:Nat)(u:Array Oper×Nat×Array Operand×Nat×Nat)(st:St)(K:cY R):Option R:=
 match u with
 |(ops,t,args,v,d)=>bif Nat.blt t N&&(Nat.blt v N&&Nat.blt d N)then St.force (st.put (some t) .undef) fun st=>
  eE P cfg env none ops (List.range' 1 (ops.size-3)) [] st fun _ st=>
   hand (args.toList.map (aq st)) st fun st=>St.force ((st.put (some v) (.kb true)).put (some d) (.kb false)) fun st=>K .normal st
  else none
def gw(hand:List AV→St→(St→Option R)→Option R)(N kl fid:Nat):Code→St→cY R→Option R
 | .skip,st,K=>K .normal st
 | .region _ ops draw,st,K=>bif !draw&&ops.toList.all (fun o=> !(wX o 0))then eE P cfg env none ops (List.range ops.size) [] st fun _ st=>K .normal st else none
 | .seq a b,st,K=>match tA a b with
  |some u=>De P cfg env hand N u st K
  |none=>gw hand N kl fid a st (qR (fun st K=>ik (cfg.joins fid (key b)) (fun st=>gw hand N kl fid b st K) st) K)
 | .cond c x y,st,K=>match aq st c with
  | .bool b=>D.test b (gw hand N kl fid x st K) (gw hand N kl fid y st K)
  | .kb b=>bif b then gw hand N kl fid x st K else gw hand N kl fid y st K
  |_=>none
 | .block id c,st,K=>gw hand N kl fid c st (bI id K)
 | .loop c,st,K=>ik (cfg.loops fid (key c)) (fun st=>j1 (fun st K=>gw hand N kl fid c st K) (cfg.loops fid (key c)) kl st K) st
 | .exit id,st,K=>K (.exit id) st
 | .ret,st,K=>K .ret st
 |_,_,_=>none
def jr(fn:Func)(args:List AV):List AV:=args++List.replicate (fn.ntmps-args.length) (.tup [])
def vQ(ps:Array Tmp)(vs:List AV)(f:List AV):List AV:=(ps.toList.zip vs).foldl (fun f x=>f.set x.1 x.2) f
def Gj(Kgo:St→Option R)(KX:cY R):cY R:=fun e st=>match e with
 | .normal=>Kgo ⟨st.fr.tail,st.rs⟩
 | .exit i=>KX (.exit i) ⟨st.fr.tail.tail,st.rs⟩
 | .ret=>KX .ret ⟨st.fr.tail.tail,st.rs⟩
def IW(F:St→Option R):cY R:=fun e st=>match e with
 | .normal=>F st
 | .exit _=>none
 | .ret=>none
def rz(FA FB:St→cY R→Option R)(ps:Array Tmp)(KX:cY R)(vs:List AV)(st:St)(Kgo:St→Option R):Option R:=
 match st.fr with
 |it::top::rest=>bif Nat.beq vs.length ps.size then
   St.force ⟨vQ ps vs top::it::top::rest,st.rs⟩ fun st=>FA st (IW fun st=>FB st (Gj Kgo KX))
  else none
 |_=>none
def St.oR(st:St):Option (List Nat)→St
 |some live=>st.dY live
 |none=>st
def isFull(bf:List Nat)(i:Nat):Bool:=(List.range i).all fun j=>(bf.getD i 0).testBit j
def gZ(bf:List Nat):Nat→Nat
 |0=>0
 |n+1=>bif isFull bf n then gZ bf n else n+1
def exec(kl fid:Nat):Code→St→cY R→Option R
 | .skip,st,K=>K .normal st
 | .region _ ops draw,st,K=>
  bif draw then re st.rs.length fun b0=>lg (Region.before ops).toList fun bf=>re (gZ bf ops.size) fun m=>
   eE P cfg env (some b0) ops (List.range m) [] st fun tr st=>bif my ops bf tr&&(uT b0 bf tr&&mr ops)then
    eE P cfg env none ops (List.range' m (ops.size-m)) [] st fun _ st=>K .normal st else none
  else eE P cfg env none ops (List.range ops.size) [] st fun _ st=>K .normal st
 | .seq a b,st,K=>exec kl fid a st (qR (fun st K=>ik (cfg.joins fid (key b)) (fun st=>exec kl fid b st K) st) K)
 | .cond c x y,st,K=>match aq st c with
  | .bool b=>D.test b (exec kl fid x st K) (exec kl fid y st K)
  | .kb b=>bif b then exec kl fid x st K else exec kl fid y st K
  | .nb n=>bif Nat.beq (cfg.mode fid) 0 then D.test (D.eqN n 0) (D.both (exec kl fid x st K) (exec kl fid y st K)) (exec kl fid y st K)else none
  |_=>none
 | .block id c,st,K=>exec kl fid c st (bI id K)
 | .loop c,st,K=>ik (cfg.loops fid (key c)) (fun st=>j1 (fun st K=>exec kl fid c st K) (cfg.loops fid (key c)) kl st K) st
 | .exit id,st,K=>K (.exit id) st
 | .ret,st,K=>K .ret st
 | .rangeFunc h ps x y,st,K=>bif dK x&&dK y then match aq st h with
   | .fn f [] cap=>match P.funcs[f]? with
    |none=>none
    |some fn=>match fn.body with
     |none=>none
     |some c=>bif fn.results.isEmpty then St.force ⟨jr fn (.undef::cap)::(st.oR (cfg.loops fid (far+key y))).fr,st.rs⟩ fun st=>
      gw P cfg env (rz (fun st K=>exec kl fid x st K) (fun st K=>exec kl fid y st K) ps K) fn.ntmps kl f c st (oT fun st=>K .normal ⟨st.fr.tail,st.rs⟩)
      else none
   |_=>none
  else none
 |_,_,_=>none
end run
def pB(P:Program)(st:St):ResultVar→List Tst×AV
 | .tmp t=>([],aq st (.tmp t))
 | .cell a t=>((fS P t (st.top.getD a .undef) st.get).ok,(fS P t (st.top.getD a .undef) st.get).v)
def sQ(P:Program)(fn:Func)(st:St):List Tst×List AV:=
 ((fn.results.toList.map (pB P st)).flatMap (·.1),(fn.results.toList.map (pB P st)).map (·.2))
def finish(P:Program)(f:Nat)(fn:Func)(st:St):Option (den (resTy P f)):=
 match sQ P fn st with
 |(ok,vs)=>match bF st.get (resTy P f) (vs.flatMap AV.cells)with
  |(ok1,x,rest)=>match gives st.get (resTy P f) (vs.flatMap AV.cells)with
   |(ok2,l,_)=>chk (ok++ok1++ok2++ [.s (fitAll P (cb P f) vs),.s rest.isEmpty,.s (decide l.Nodup)]) (some x)
def rj(P:Program)(f:Nat)(fn:Func)(st:St):Option (den (resTy P f)):=
 match sQ P fn st with
 |(ok,vs)=>match gI st.get (resTy P f) (vs.flatMap AV.cells)with
  |(ok1,x,rest)=>chk (ok++ok1++ [.s (fitAll P (cb P f) vs),.s rest.isEmpty]) (some x)
def zn{R:Type}(o:Option Nat)(n:Nat)(x:Option R):Option R:=match o with
 |some m=>bif Nat.beq m n then x else none
 |none=>none
structure Ext (P : Program) where
  fn : (f : Nat) → Option (den (fc P f) → Option (den (resTy P f)))
  srt : Nat → Option Nat
def zk(P:Program)(cfg:Cfg)(E:Ext P)(env:Env P)(k f:Nat)(x:den (fc P f)):Option (den (resTy P f)):=
 match E.fn f with
 |some g=>g x
 |none=>match P.funcs[f]? with
  |none=>none
  |some fn=>match fn.body with
   |none=>none
   |some c=>
    match fB P false (eT P f) x 0 with
    |(vs,rs)=>St.force {fr:= [jr fn vs],rs:=rs} fun st=>exec P cfg env k f c st (oT (finish P f fn))
def Ge(P:Program)(cfg:Cfg)(env:Env P)(k f:Nat)(x:den (fc P f)):Option (den (resTy P f)):=
 bif Nat.beq (cfg.mode f) 6 then
  match P.funcs[f]? with
  |none=>none
  |some fn=>match fn.body with
   |none=>none
   |some c=>match fB P false (eT P f) x 0 with
    |(vs,rs)=>St.force {fr:= [jr fn vs],rs:=rs} fun st=>exec P cfg env k f c st (oT (rj P f fn))
 else none
def im{R:Type}(P:Program)(fn:Func)(K:List AV→St→Option R)(st:St):Option R:=
 match sQ P fn st with
 |(ok,vs)=>chk ok (K vs {st with fr:=st.fr.tail})
def td(P:Program)(cfg:Cfg)(env:Env P)(k:Nat){R:Type}(f:Nat)(args:List AV)(st:St)(K:List AV→St→Option R):Option R:=
 bif Nat.beq (cfg.mode f) 0 then none else
 match P.funcs[f]? with
 |none=>none
 |some fn=>match fn.body with
  |none=>none
  |some c=>St.force {st with fr:=jr fn args::st.fr} fun st=>exec P cfg env k f c st (oT (im P fn K))
def nu(P:Program)(cfg:Cfg)(E:Ext P):Nat→Env P
 |0=>⟨fun _ _=>none,fun _ _=>none,fun _ _ _ _=>none,fun _ _ _=>none⟩
 |k+1=>⟨fun f x=>zk P cfg E (nu P cfg E k) k f x,fun f x=>Ge P cfg (nu P cfg E k) k f x,fun f args st K=>td P cfg (nu P cfg E k) k f args st K,fun f n x=>zn (E.srt f) n x⟩
def zj(P:Program)(cfg:Cfg)(E:Ext P)(k f:Nat)(x:den (fc P f)):Option (den (resTy P f)):=(nu P cfg E k).pc f x
def Ht(P:Program)(cfg:Cfg)(E:Ext P)(k f:Nat)(x:den (fc P f)):Option (den (resTy P f)):=(nu P cfg E k).ps f x
end Go.Am
end
section
/- The abstract machine: functions of Go's library that are not walked: what they make of data. -/
noncomputable section
namespace Go.Am
inductive Lk where
  | join | itoa | rep | cmp
def sV(xs:List ByteArray)(sep:ByteArray):Option ByteArray:=
 if xs.length≤140737488355328∧(Lib.join (xs.map (·.data.toList)) sep.data.toList).length≤140737488355328 then
  some ⟨(Lib.join (xs.map (·.data.toList)) sep.data.toList).toArray⟩else none
def sH(n:Int):Option ByteArray:=if 0≤n∧n<100 then some ⟨(Lib.decDigits n.toNat).toArray⟩else none
def ym(s:ByteArray)(c:Int):Option ByteArray:=
 if 0≤c∧c≤9223372036854775807∧s.size*c.toNat≤140737488355328 then some ⟨(Lib.repeatL s.data.toList c.toNat).toArray⟩else none
def FF(a b:ByteArray):Option Int:=some (Lib.compareBytes a.data.toList b.data.toList)
def tz:Lk→List Ty×List Ty
 | .join=>([.sl .str,.str],[.str])
 | .itoa=>([.int .i64],[.str])
 | .rep=>([.str,.int .i64],[.str])
 | .cmp=>([.str,.str],[.int .i64])
def yZ(P:Program)(k:Lk)(ts us:List TypeId):Bool:=
 decide (ts.map (tyD P)=(tz k).1)&&(decide (us.map (tyD P)=(tz k).2)&&(ts.all (fun t=> !kZ P t)&&us.all (fun t=> !kZ P t)))
def qD:(k:Lk)→(t u:Ty)→Option (den t→Option (den u))
 | .join,.pair (.sl .str) .str,.str=>some fun x=>sV x.1 x.2
 | .itoa,.int .i64,.str=>some fun x=>sH x
 | .rep,.pair .str (.int .i64),.str=>some fun x=>ym x.1 x.2
 | .cmp,.pair .str .str,.int .i64=>some fun x=>FF x.1 x.2
 |_,_,_=>none
def F9(P:Program)(lib:Nat→Option Lk)(srt:Nat→Option Nat):Ext P:=⟨fun f=>match lib f with
 |some k=>bif yZ P k (eT P f) (cb P f)then qD k (fc P f) (resTy P f)else none
 |none=>none,srt⟩
end Go.Am
end
