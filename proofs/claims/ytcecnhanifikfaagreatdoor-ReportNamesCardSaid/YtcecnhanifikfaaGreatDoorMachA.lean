/- The abstract machine, one part: see its own sections. Conditions: none. -/
import GoSem.Step
import Derived.Laws.World
import Derived.Laws.Rows
import Derived.Laws.StructEq
set_option linter.unusedVariables false
set_option linter.unusedSimpArgs false
/- THE ABSTRACT MACHINE: a deterministic run of the model's own code over a heap of numbered blocks. No tape: regions run in the text's order; an append whose room is not known makes a new block and ends the old one. Definitions alone; what they are worth is proved in the texts behind. Small functions, one case split each, by the recursors themselves where it is hot: they are to be run by the kernel. -/
namespace Go.Abs

/-! ### small words -/

/-- if, by the recursor -/
noncomputable def iff {α : Type} (c : Bool) (a b : α) : α := @Bool.rec (fun _ => α) b a c
noncomputable def andThen {α β : Type} (o : Option α) (f : α → Option β) : Option β := @Option.rec α (fun _ => Option β) none f o
noncomputable def andThen2 {α β γ : Type} (o : Option (α × β)) (f : α → β → Option γ) : Option γ := @Option.rec (α × β) (fun _ => Option γ) none (fun p => f p.1 p.2) o
noncomputable def andThen3 {α β γ δ : Type} (o : Option (α × β × γ)) (f : α → β → γ → Option δ) : Option δ := @Option.rec (α × β × γ) (fun _ => Option δ) none (fun p => f p.1 p.2.1 p.2.2) o

/-! ### finite maps on numbers -/

inductive Tr (α : Type) : Type where
  | leaf : Tr α
  | node (l : Tr α) (v : Option α) (r : Tr α) : Tr α

def half (n : Nat) : Nat := Nat.div n (nat_lit 2)
def odd (n : Nat) : Bool := Nat.beq (Nat.mod n (nat_lit 2)) (nat_lit 1)
def isZ (n : Nat) : Bool := Nat.beq n (nat_lit 0)

namespace Tr
variable {α : Type}
noncomputable def get (t : Tr α) : Nat → Option α :=
  @Tr.rec α (fun _ => Nat → Option α) (fun _ => none) (fun _ v _ gl gr n => iff (isZ n) v (iff (odd n) (gl (half n)) (gr (Nat.pred (half n))))) t
noncomputable def single (f : Nat) : Nat → α → Tr α :=
  @Nat.rec (fun _ => Nat → α → Tr α) (fun _ v => .node .leaf (some v) .leaf)
    (fun _ ih n v => iff (isZ n) (.node .leaf (some v) .leaf) (iff (odd n) (.node (ih (half n) v) none .leaf) (.node .leaf none (ih (Nat.pred (half n)) v)))) f
noncomputable def set (t : Tr α) : Nat → α → Tr α :=
  @Tr.rec α (fun _ => Nat → α → Tr α) (fun n v => single n n v)
    (fun l x r sl sr n v => iff (isZ n) (.node l (some v) r) (iff (odd n) (.node (sl (half n) v) x r) (.node l x (sr (Nat.pred (half n)) v)))) t
end Tr

/-- what is known of a type: its row, what it is underneath, how many cells it has, whether it is a struct or an array, whether a comparison looks for stand-ins or guards -/
structure TI where
  info : TypeInfo
  desc : TypeDesc
  size : Nat
  agg : Bool
  held : Bool
  guard : Bool

structure Tab where
  F : Tr Func
  Y : Tr TI

inductive AObj where
  /-- a row of cells; the size of an element where its capacity is not known (a slice over it bears that size at its place, as 'spot'); the number of the first block of its kin; whether it is read alone; whether it has ended -/
  | cells (c : List Value) (esz : Option Nat) (org : Nat) (ro dead : Bool)
  | map (es : List MapEntry) (clock : Nat)
  | iter (s : List UInt8) (pos : Nat)

/-- the blocks, the next number, the least kin that was written to, the least block that was ended -/
structure ASt where
  heap : Tr AObj
  next : Nat
  low : Nat
  klow : Nat

abbrev Env := Tr Value
abbrev Res := Option (Value × ASt)

/-- of what was never set nothing is known -/
def unk : Value := .tuple #[.nilFunc]
noncomputable def orUndef (o : Option Value) : Value := @Option.rec Value (fun _ => Value) unk (fun v => v) o

noncomputable def envOf : Operand → Env → Value
  | .tmp t => fun e => orUndef (e.get t)
  | .const v => fun _ => v
  | .global g => fun _ => .pointer (some ⟨g, 0, none⟩)
  | .func f => fun _ => .func (.func f) #[] #[]
noncomputable def env (e : Env) (x : Operand) : Value := envOf x e

/-! ### data: what lies in memory that nobody writes any more, by what it holds -/

/-- a slice, by its elements: each is a row of cells ('.agg') -/
def dat (rows : List Value) : Value := .tuple ⟨[.agg ⟨rows⟩]⟩
/-- a pointer, by the cells from there on -/
def datP (cs : List Value) : Value := .tuple ⟨[.tuple ⟨cs⟩]⟩

def isD1 : Value → Bool
  | .agg _ => true
  | .tuple _ => true
  | _ => false
def asA0 : Value → Option (List Value)
  | .agg cs => some cs.toList
  | _ => none
def asT0 : Value → Option (List Value)
  | .tuple cs => some cs.toList
  | _ => none
def flat1 : Value → Option (List Value)
  | .agg r => some [dat r.toList]
  | .tuple r => some [datP r.toList]
  | _ => none
/-- the elements of data, out of what a tuple has -/
def datL : List Value → Option (List Value)
  | [v] => asA0 v
  | _ => none
/-- the cells of a pointer to data, out of what a tuple has -/
def datPL : List Value → Option (List Value)
  | [v] => asT0 v
  | _ => none
/-- it is data, or a pointer to it -/
def isDatL : List Value → Bool
  | [v] => isD1 v
  | _ => false
def asDat : Value → Option (List Value)
  | .tuple vs => datL vs.toList
  | _ => none
def isDat : Value → Bool
  | .tuple vs => isDatL vs.toList
  | _ => false
def flatDat : List Value → Option (List Value)
  | [v] => flat1 v
  | _ => none

/-- of a tuple the one, of what is none the other -/
def tupElse {α : Type} (x : Value) (f : List Value → Option α) (d : Option α) : Option α :=
  match x with
  | .tuple vs => f vs.toList
  | _ => d

/-- the cells of a value that lies in memory -/
def flat : Value → Option (List Value)
  | .agg cs => some cs.toList
  | .tuple vs => flatDat vs.toList
  | v => some [v]

/-- the block and the place of a pointer -/
def plain : Addr → Option (Nat × Nat)
  | ⟨k, off, none⟩ => some (k, off)
  | ⟨_, _, some _⟩ => none
def asPtr : Value → Option (Nat × Nat)
  | .pointer (some a) => plain a
  | _ => none
def asI : Value → Option (IntKind × Int)
  | .int k n => some (k, n)
  | _ => none
def asB : Value → Option Bool
  | .bool b => some b
  | _ => none
def asS : Value → Option (List UInt8)
  | .string s => some s.data.toList
  | _ => none
def asA : Value → Option (List Value)
  | .agg cs => some cs.toList
  | _ => none
def asSl : Value → Option (Option Addr × Nat × Nat)
  | .slice a n c => some (a, n, c)
  | _ => none
def asM : Value → Option (Option Nat)
  | .map r => some r
  | _ => none

/-! ### numbers, quickly -/

def kindNo : IntKind → Nat
  | .i8 => nat_lit 0 | .i16 => nat_lit 1 | .i32 => nat_lit 2 | .i64 => nat_lit 3 | .u8 => nat_lit 4 | .u16 => nat_lit 5 | .u32 => nat_lit 6 | .u64 => nat_lit 7
def sameKind (j k : IntKind) : Bool := Nat.beq (kindNo j) (kindNo k)

/-- the greatest number of a kind, and how many below zero -/
def topOf : IntKind → Nat
  | .i8 => nat_lit 127 | .i16 => nat_lit 32767 | .i32 => nat_lit 2147483647 | .i64 => nat_lit 9223372036854775807
  | .u8 => nat_lit 255 | .u16 => nat_lit 65535 | .u32 => nat_lit 4294967295 | .u64 => nat_lit 18446744073709551615
/-- two to the bits -/
def modOf : IntKind → Nat
  | .i8 => nat_lit 256 | .i16 => nat_lit 65536 | .i32 => nat_lit 4294967296 | .i64 => nat_lit 18446744073709551616
  | .u8 => nat_lit 256 | .u16 => nat_lit 65536 | .u32 => nat_lit 4294967296 | .u64 => nat_lit 18446744073709551616
def signedK : IntKind → Bool
  | .i8 | .i16 | .i32 | .i64 => true
  | .u8 | .u16 | .u32 | .u64 => false
/-- a number below 'modOf' as one of the kind -/
noncomputable def ofMod (k : IntKind) (m : Nat) : Int := iff (Nat.ble m (topOf k)) (Int.ofNat m) (Int.negSucc (Nat.pred (Nat.sub (modOf k) m)))
/-- a number below 'modOf' that stands for it -/
noncomputable def toMod (k : IntKind) (n : Int) : Nat :=
  @Int.rec (fun _ => Nat) (fun m => iff (Nat.blt m (modOf k)) m (Nat.mod m (modOf k))) (fun m => Nat.sub (modOf k) (Nat.succ (Nat.mod m (modOf k)))) n
/-- as 'IntKind.wrap' -/
noncomputable def wrapQ (k : IntKind) (n : Int) : Int :=
  @Int.rec (fun _ => Int) (fun m => iff (Nat.ble m (topOf k)) (Int.ofNat m) (ofMod k (Nat.mod m (modOf k))))
    (fun m => iff (and (signedK k) (Nat.ble m (topOf k))) (Int.negSucc m) (ofMod k (Nat.sub (modOf k) (Nat.succ (Nat.mod m (modOf k)))))) n
noncomputable def eqQ (x y : Int) : Bool :=
  @Int.rec (fun _ => Bool) (fun m => @Int.rec (fun _ => Bool) (fun n => Nat.beq m n) (fun _ => false) y) (fun m => @Int.rec (fun _ => Bool) (fun _ => false) (fun n => Nat.beq m n) y) x
noncomputable def leQ (x y : Int) : Bool :=
  @Int.rec (fun _ => Bool) (fun m => @Int.rec (fun _ => Bool) (fun n => Nat.ble m n) (fun _ => false) y) (fun m => @Int.rec (fun _ => Bool) (fun _ => true) (fun n => Nat.ble n m) y) x
noncomputable def inRange (i : Int) (len : Nat) : Option Nat := @Int.rec (fun _ => Option Nat) (fun m => iff (Nat.blt m len) (some m) none) (fun _ => none) i
noncomputable def upTo (i : Int) (most : Nat) : Option Nat := @Int.rec (fun _ => Option Nat) (fun m => iff (Nat.ble m most) (some m) none) (fun _ => none) i

/-! ### lists, quickly -/

noncomputable def lenQ {α : Type} (l : List α) : Nat := @List.rec α (fun _ => Nat) (nat_lit 0) (fun _ _ n => Nat.succ n) l
noncomputable def dropQ (n : Nat) : List Value → List Value := @Nat.rec (fun _ => List Value → List Value) (fun l => l) (fun _ ih l => @List.rec Value (fun _ => List Value) [] (fun _ t _ => ih t) l) n
noncomputable def takeQ (n : Nat) : List Value → List Value := @Nat.rec (fun _ => List Value → List Value) (fun _ => []) (fun _ ih l => @List.rec Value (fun _ => List Value) [] (fun a t _ => a :: ih t) l) n
noncomputable def appQ (l m : List Value) : List Value := @List.rec Value (fun _ => List Value) m (fun a _ ih => a :: ih) l
noncomputable def nthQ {α : Type} (n : Nat) : List α → Option α := @Nat.rec (fun _ => List α → Option α) (fun l => @List.rec α (fun _ => Option α) none (fun a _ _ => some a) l) (fun _ ih l => @List.rec α (fun _ => Option α) none (fun _ t _ => ih t) l) n
/-- just n of them, or none -/
noncomputable def takeO (n : Nat) : List Value → Option (List Value) :=
  @Nat.rec (fun _ => List Value → Option (List Value)) (fun _ => some []) (fun _ ih l => @List.rec Value (fun _ => Option (List Value)) none (fun a t _ => andThen (ih t) fun r => some (a :: r)) l) n
noncomputable def sub (l : List Value) (off n : Nat) : Option (List Value) := takeO n (dropQ off l)
/-- vs in the place of what begins at off, if it is there -/
noncomputable def over (vs : List Value) : List Value → Option (List Value) :=
  @List.rec Value (fun _ => List Value → Option (List Value)) (fun l => some l) (fun v _ ih l => @List.rec Value (fun _ => Option (List Value)) none (fun _ t _ => andThen (ih t) fun r => some (v :: r)) l) vs
noncomputable def splice (vs : List Value) (off : Nat) : List Value → Option (List Value) :=
  @Nat.rec (fun _ => List Value → Option (List Value)) (over vs) (fun _ ih l => @List.rec Value (fun _ => Option (List Value)) none (fun a t _ => andThen (ih t) fun r => some (a :: r)) l) off
noncomputable def mapQ {α β : Type} (f : α → β) (l : List α) : List β := @List.rec α (fun _ => List β) [] (fun a _ ih => f a :: ih) l

/-- the cells of rows, each of which has z -/
noncomputable def rowsCells (z : Nat) (rows : List Value) : Option (List Value) :=
  @List.rec Value (fun _ => Option (List Value)) (some []) (fun r _ ih => andThen (asA r) fun c => iff (Nat.beq (lenQ c) z) (andThen ih fun d => some (appQ c d)) none) rows
/-- cells in rows of z each, n of them -/
noncomputable def chunks (z : Nat) : Nat → List Value → Option (List Value) :=
  fun n => @Nat.rec (fun _ => List Value → Option (List Value)) (fun _ => some []) (fun _ ih l => andThen (takeO z l) fun c => andThen (ih (dropQ z l)) fun r => some (.agg ⟨c⟩ :: r)) n

/-! ### the heap -/

def rowOf : AObj → Option (List Value)
  | .cells c _ _ _ false => some c
  | _ => none
def rowsOf : AObj → Option (List Value × Option Nat × Nat)
  | .cells c e org false false => some (c, e, org)
  | _ => none
def entriesOf : AObj → Option (List MapEntry × Nat)
  | .map es clock => some (es, clock)
  | _ => none
def iterOf : AObj → Option (List UInt8 × Nat)
  | .iter s pos => some (s, pos)
  | _ => none

noncomputable def minN (a b : Nat) : Nat := iff (Nat.ble a b) a b

/-- beyond every element's size -/
def bigN : Nat := nat_lit 1048576
/-- of a block whose type is known (its 'esz' is beyond every element's size) that type, twice; one more: of a row of bytes that may grow -/
noncomputable def zOf (y : Nat) : Nat := iff (Nat.ble bigN y) (iff (odd (Nat.sub y bigN)) (nat_lit 1) y) y
noncomputable def wholeC (t : Nat) : Nat := Nat.add bigN (Nat.mul (nat_lit 2) t)
noncomputable def rowC (t : Nat) : Nat := Nat.add bigN (Nat.succ (Nat.mul (nat_lit 2) t))
noncomputable def typedQ (e : Option Nat) : Option Nat := andThen e fun z => iff (Nat.ble bigN z) (some (Nat.sub z bigN)) none

namespace ASt
noncomputable def obj (σ : ASt) (k : Nat) : Option AObj := σ.heap.get k
noncomputable def row (σ : ASt) (k : Nat) : Option (List Value) := andThen (σ.obj k) rowOf
noncomputable def new (σ : ASt) (o : AObj) : ASt := ⟨σ.heap.set σ.next o, Nat.succ σ.next, σ.low, σ.klow⟩
noncomputable def newRow (σ : ASt) (c : List Value) : ASt := σ.new (.cells c none σ.next false false)
noncomputable def cellsAt (σ : ASt) (k off n : Nat) : Option (List Value) := andThen (σ.row k) fun c => sub c off n
noncomputable def lower (σ : ASt) (n : Nat) : Nat := minN n σ.low
noncomputable def setAt (σ : ASt) (k off : Nat) (vs : List Value) : Option ASt :=
  andThen3 (andThen (σ.obj k) rowsOf) fun c e org => andThen (splice vs off c) fun c' => some ⟨σ.heap.set k (.cells c' e org false false), σ.next, σ.lower org, σ.klow⟩
/-- the block k ends, if it has n cells and may grow -/
noncomputable def kill (σ : ASt) (k n : Nat) : Option (Nat × Nat × ASt) :=
  andThen3 (andThen (σ.obj k) rowsOf) fun c e org => iff (Nat.beq (lenQ c) n) (andThen e fun z => some (z, org, ⟨σ.heap.set k (.cells c (some z) org false true), σ.next, σ.low, minN k σ.klow⟩)) none
noncomputable def setMap (σ : ASt) (r : Nat) (es : List MapEntry) (clock : Nat) : ASt := ⟨σ.heap.set r (.map es clock), σ.next, σ.lower r, σ.klow⟩
end ASt

noncomputable def val (σ : ASt) (o : Option Value) : Res := andThen o fun v => some (v, σ)
noncomputable def unit (o : Option ASt) : Res := andThen o fun s => some (undef, s)

section
variable (T : Tab)

noncomputable def ty (t : TypeId) : Option TI := T.Y.get t
noncomputable def desc (t : TypeId) : Option TypeDesc := andThen (ty T t) fun i => some i.desc
noncomputable def size (t : TypeId) : Option Nat := andThen (ty T t) fun i => some i.size
noncomputable def zero (t : TypeId) : Option Value := andThen (ty T t) fun i => i.info.zero

def isIface : TypeDesc → Bool | .interface _ => true | _ => false
def intKind : TypeDesc → Option IntKind | .int k => some k | _ => none
def sliceElem : TypeDesc → Option TypeId | .slice e => some e | _ => none
def mapOf2 : TypeDesc → Option (TypeId × TypeId) | .map k e => some (k, e) | _ => none
def arrOf : TypeDesc → Option (Nat × TypeId) | .array n e => some (n, e) | _ => none
def structOf : TypeDesc → Option (List Field) | .struct fs => some fs.toList | _ => none
def isPtr : TypeDesc → Bool | .pointer _ => true | _ => false
def ptrTo : TypeDesc → Option TypeId | .pointer u => some u | _ => none

noncomputable def aggO (o : Option (List Value)) : Option Value := andThen o fun r => some (.agg ⟨r⟩)

noncomputable def part (t : TypeId) (cs : List Value) (off : Nat) : Option Value :=
  andThen (ty T t) fun i => iff i.agg (aggO (sub cs off i.size)) (nthQ off cs)

noncomputable def loadV (σ : ASt) (t : TypeId) (k off : Nat) : Option Value := andThen (σ.row k) fun c => part T t c off

noncomputable def fill (place : Nat → Option (Nat × Nat)) : List (Nat × Value) → List Value → Option (List Value)
  | [], cells => some cells
  | p :: rest, cells => andThen2 (place p.1) fun off size => andThen (flat p.2) fun vs => iff (Nat.beq (lenQ vs) size) (andThen (splice vs off cells) (fill place rest)) none

noncomputable def places : List Field → Option (List (Nat × Nat))
  | [] => some []
  | f :: fs => andThen (size T f.type) fun s => andThen (places fs) fun r => some ((f.offset, s) :: r)

/-- the cells of a type's zero value, if they are as many as it has -/
noncomputable def zcells (i : TI) : Option (List Value) := andThen i.info.zero fun z => andThen (flat z) fun cs => iff (Nat.beq (lenQ cs) i.size) (some cs) none

noncomputable def buildIn (z : List Value) (parts : List (Nat × Value)) : TypeDesc → Option Value
  | .struct fields => andThen (places T fields.toList) fun ps => aggO (fill (fun i => nthQ i ps) parts z)
  | .array _ elem => andThen (size T elem) fun s => aggO (fill (fun i => some (Nat.mul i s, s)) parts z)
  | _ => none

noncomputable def build (t : TypeId) (parts : List (Nat × Value)) : Option Value :=
  andThen (ty T t) fun i => andThen (zcells i) fun z => buildIn T z parts i.desc

noncomputable def zeros (z : List Value) : Nat → List Value
  | 0 => []
  | n + 1 => appQ z (zeros z n)

noncomputable def newSlice (σ : ASt) (len cap : Nat) (cs : List Value) : Res := some (.slice (some ⟨σ.next, 0, none⟩) len cap, σ.newRow cs)

noncomputable def buildSlice (t : TypeId) (len : Nat) (parts : List (Nat × Value)) (σ : ASt) : Res :=
  andThen (desc T t) fun d => andThen (sliceElem d) fun elem => andThen (ty T elem) fun i => andThen (zcells i) fun z =>
    iff (Nat.ble (Nat.mul len i.size) (nat_lit 1000000))
      (andThen (fill (fun j => some (Nat.mul j i.size, i.size)) parts (zeros z len)) fun cs => newSlice σ len len cs) none

/-! ### `==`, where it can be said: numbers, strings, bools, nil, and what is made of them -/

noncomputable def eqArr (f : List Value → List Value → Option Bool) (sz : Nat) : Nat → List Value → List Value → Option Bool
  | 0, _, _ => some true
  | n + 1, xs, ys => andThen (f xs ys) fun b => iff b (eqArr f sz n (dropQ sz xs) (dropQ sz ys)) (some false)

noncomputable def eqFields (f : TypeId → Nat → Option Bool) : List Field → Option Bool
  | [] => some true
  | x :: fs => iff (x.name == "_") (eqFields f fs) (andThen (f x.type x.offset) fun b => iff b (eqFields f fs) (some false))

/-- arrays of integers, cell by cell -/
noncomputable def eqInts : Nat → List Value → List Value → Option Bool
  | 0, _, _ => some true
  | n + 1, xs, ys => andThen (nthQ 0 xs) fun x => andThen (nthQ 0 ys) fun y => andThen2 (asI x) fun k a => andThen2 (asI y) fun k' b =>
      iff (sameKind k k') (iff (eqQ a b) (eqInts n (dropQ 1 xs) (dropQ 1 ys)) (some false)) none

def isNilP : Value → Option Bool
  | .pointer a => some a.isNone
  | _ => none
def isNilI : Value → Option (Option (TypeId × Value))
  | .nilIface => some none
  | .iface t v => some (some (t, v))
  | _ => none
def isNilF : Value → Option Bool
  | .nilFunc => some true
  | .func .. => some false
  | _ => none

def sameBytes (a b : List UInt8) : Bool := a == b

/-- two values of which one is nil -/
noncomputable def eqNil (a b : Bool) : Option Bool := iff a (some b) (iff b (some false) none)

noncomputable def eqI (f : TypeId → Value → Value → Option Bool) (a b : Option (TypeId × Value)) : Option Bool :=
  match a, b with
  | none, b => some b.isNone
  | some _, none => some false
  | some x, some y => iff (Nat.beq x.1 y.1) (andThen (ty T x.1) fun j => iff j.info.comparable (f x.1 x.2 y.2) none) (some false)

noncomputable def eqB (x y : Value) : Option Bool := andThen (asB x) fun a => andThen (asB y) fun b => some (a == b)
noncomputable def eqN (x y : Value) : Option Bool := andThen2 (asI x) fun k a => andThen2 (asI y) fun k' b => iff (sameKind k k') (some (eqQ a b)) none
noncomputable def eqS (x y : Value) : Option Bool := andThen (asS x) fun a => andThen (asS y) fun b => some (sameBytes a b)
noncomputable def eqP (x y : Value) : Option Bool := andThen (isNilP x) fun a => andThen (isNilP y) fun b => eqNil a b
noncomputable def eqIf (f : TypeId → Value → Value → Option Bool) (x y : Value) : Option Bool := andThen (isNilI x) fun a => andThen (isNilI y) fun b => eqI T f a b
noncomputable def eqPart (f : TypeId → Value → Value → Option Bool) (xs ys : List Value) (u : TypeId) (off : Nat) : Option Bool :=
  andThen (part T u xs off) fun a => andThen (part T u ys off) fun b => f u a b
noncomputable def eqStruct (f : TypeId → Value → Value → Option Bool) (held : Bool) (fields : List Field) (x y : Value) : Option Bool :=
  iff held none (andThen (asA x) fun xs => andThen (asA y) fun ys => eqFields (eqPart T f xs ys) fields)
noncomputable def isIntT (t : TypeId) : Bool := match andThen (desc T t) intKind with | some _ => true | none => false
noncomputable def eqArray (f : TypeId → Value → Value → Option Bool) (len : Nat) (elem : TypeId) (x y : Value) : Option Bool :=
  andThen (asA x) fun xs => andThen (asA y) fun ys => andThen (size T elem) fun z =>
    iff (and (isIntT T elem) (Nat.beq z 1)) (eqInts len xs ys) (eqArr (fun l r => eqPart T f l r elem 0) z len xs ys)
/-- is a slice nil? (of data without elements it is not known) -/
def nilRows : List Value → Option Bool
  | [] => none
  | _ :: _ => some false
noncomputable def nilSl : Value → Option Bool
  | .slice a _ _ => some a.isNone
  | .tuple vs => andThen (datL vs.toList) nilRows
  | _ => none
noncomputable def eqSl (x y : Value) : Option Bool := andThen (nilSl x) fun a => andThen (nilSl y) fun b => eqNil a b
noncomputable def eqM (x y : Value) : Option Bool := andThen (asM x) fun a => andThen (asM y) fun b => eqNil a.isNone b.isNone
noncomputable def eqF (x y : Value) : Option Bool := andThen (isNilF x) fun a => andThen (isNilF y) fun b => eqNil a b

noncomputable def eqD : TypeDesc → Tab → (TypeId → Value → Value → Option Bool) → Bool → Value → Value → Option Bool
  | .bool => fun _ _ _ => eqB
  | .int _ => fun _ _ _ => eqN
  | .string => fun _ _ _ => eqS
  | .pointer _ => fun _ _ _ => eqP
  | .interface _ => fun T f _ => eqIf T f
  | .struct fields => fun T f held => eqStruct T f held fields.toList
  | .array len elem => fun T f _ => eqArray T f len elem
  | .slice _ => fun _ _ _ => eqSl
  | .map _ _ => fun _ _ _ => eqM
  | .func _ _ _ => fun _ _ _ => eqF
  | _ => fun _ _ _ _ _ => none

noncomputable def eqV : Nat → TypeId → Value → Value → Option Bool
  | 0, _, _, _ => none
  | d + 1, t, x, y => andThen (ty T t) fun i => eqD i.desc T (eqV d) i.held x y

def isConst : Operand → Bool
  | .const _ => true
  | _ => false

noncomputable def guarded (t : TypeId) (x y : Operand) : Value → Bool
  | .nilIface => or (isConst x) (isConst y)
  | .agg _ => match ty T t with | some i => not i.guard | none => false
  | .tuple vs => isDatL vs.toList
  | _ => true

noncomputable def bitsOf (k : IntKind) (f : Nat → Nat → Nat) (x y : Int) : Option Value := some (.int k (ofMod k (f (toMod k x) (toMod k y))))
noncomputable def andNotQ (k : IntKind) (a b : Nat) : Nat := Nat.land a (Nat.sub (Nat.pred (modOf k)) b)
noncomputable def shiftQ (k : IntKind) (_x : Int) (y : Int) (f : Nat → Option Value) : Option Value :=
  @Int.rec (fun _ => Option Value) (fun n => f (iff (Nat.ble n k.bits) n k.bits)) (fun _ => none) y

noncomputable def intOp : BinOp → IntKind → Int → Int → Option Value
  | .add => fun k x y => some (.int k (wrapQ k (Int.add x y)))
  | .sub => fun k x y => some (.int k (wrapQ k (Int.sub x y)))
  | .mul => fun k x y => some (.int k (wrapQ k (Int.mul x y)))
  | .quo => fun k x y => iff (eqQ y (Int.ofNat 0)) none (some (.int k (wrapQ k (x.tdiv y))))
  | .rem => fun k x y => iff (eqQ y (Int.ofNat 0)) none (some (.int k (x.tmod y)))
  | .and => fun k => bitsOf k Nat.land
  | .or => fun k => bitsOf k Nat.lor
  | .xor => fun k => bitsOf k Nat.xor
  | .andNot => fun k => bitsOf k (andNotQ k)
  | .eql => fun _ x y => some (.bool (eqQ x y))
  | .neq => fun _ x y => some (.bool (not (eqQ x y)))
  | .lss => fun _ x y => some (.bool (not (leQ y x)))
  | .leq => fun _ x y => some (.bool (leQ x y))
  | .gtr => fun _ x y => some (.bool (not (leQ x y)))
  | .geq => fun _ x y => some (.bool (leQ y x))
  | .shl => fun k x y => shiftQ k x y fun n => some (.int k (wrapQ k (Int.mul x (Int.ofNat (Nat.pow 2 n)))))
  | .shr => fun k x y => shiftQ k x y fun n => some (.int k (x.fdiv (Int.ofNat (Nat.pow 2 n))))

noncomputable def strOp : BinOp → List UInt8 → List UInt8 → Option Value
  | .add => fun x y => iff (Nat.ble (Nat.add (lenQ x) (lenQ y)) (nat_lit 1000000000)) (some (.string ⟨⟨x ++ y⟩⟩)) none
  | .eql => fun x y => some (.bool (sameBytes x y))
  | .neq => fun x y => some (.bool (not (sameBytes x y)))
  | .lss => fun x y => some (.bool (Op.bytesLess x y))
  | .leq => fun x y => some (.bool (or (Op.bytesLess x y) (sameBytes x y)))
  | .gtr => fun x y => some (.bool (not (or (Op.bytesLess x y) (sameBytes x y))))
  | .geq => fun x y => some (.bool (not (Op.bytesLess x y)))
  | _ => fun _ _ => none

def isShift : BinOp → Bool
  | .shl | .shr => true
  | _ => false
def isNeq : BinOp → Option Bool
  | .eql => some false
  | .neq => some true
  | _ => none

noncomputable def binE (op : BinOp) (t : TypeId) (x y : Value) : Option Value :=
  andThen (isNeq op) fun n => andThen (eqV T 10 t x y) fun b => some (.bool (iff n (not b) b))

noncomputable def binI (k : IntKind) (a : Int) (op : BinOp) (y : Value) : Option Value :=
  andThen2 (asI y) fun k' b => iff (or (isShift op) (sameKind k k')) (intOp op k a b) none
noncomputable def binS (a : List UInt8) (op : BinOp) (y : Value) : Option Value := andThen (asS y) fun b => strOp op a b

noncomputable def binV : Value → Tab → BinOp → TypeId → Value → Option Value
  | .int k a => fun _ op _ => binI k a op
  | .string a => fun _ op _ => binS a.data.toList op
  | .float _ _ => fun _ _ _ _ => none
  | .complex _ _ _ => fun _ _ _ _ => none
  | x => fun T op t y => binE T op t x y

noncomputable def unNeg (x : Value) : Option Value := andThen2 (asI x) fun k n => some (.int k (wrapQ k (Int.neg n)))
noncomputable def unXor (x : Value) : Option Value := andThen2 (asI x) fun k n => some (.int k (ofMod k (Nat.sub (Nat.pred (modOf k)) (toMod k n))))
noncomputable def unNot (x : Value) : Option Value := andThen (asB x) fun b => some (.bool (not b))
noncomputable def unV : UnOp → Value → Option Value
  | .neg => unNeg
  | .xor => unXor
  | .not => unNot
  | _ => fun _ => none

def byteOf : Value → Option UInt8
  | .int .u8 n => some (UInt8.ofNat n.toNat)
  | _ => none

noncomputable def bytesOf : List Value → Option (List UInt8)
  | [] => some []
  | v :: vs => andThen (byteOf v) fun b => andThen (bytesOf vs) fun r => some (b :: r)

noncomputable def byteCells (l : List UInt8) : List Value := mapQ (fun b => .int .u8 (Int.ofNat b.toNat)) l

noncomputable def isU8 (t : TypeId) : Bool :=
  match andThen (desc T t) intKind with
  | some .u8 => true
  | _ => false

noncomputable def openSlice (σ : ASt) (len : Nat) (cs : List Value) (z y org : Nat) : Res :=
  some (.slice (some ⟨σ.next, 0, some z⟩) len len, σ.new (.cells cs (some y) org false false))

/-- to a string -/
noncomputable def convStr (σ : ASt) (ds : TypeDesc) : Value → Res
  | .string s => some (.string s, σ)
  | .int _ n => some (.string (Utf8.encode n), σ)
  | .slice a len _ => andThen (sliceElem ds) fun e => iff (isU8 T e)
      (match a with
      | none => some (.string .empty, σ)
      | some a => andThen (σ.cellsAt a.block a.off len) fun cs => andThen (bytesOf cs) fun l => some (.string ⟨⟨l⟩⟩, σ))
      none
  | .tuple vs => andThen (sliceElem ds) fun e => iff (isU8 T e) (andThen (datL vs.toList) fun rows => andThen (rowsCells 1 rows) fun cs => andThen (bytesOf cs) fun l => some (.string ⟨⟨l⟩⟩, σ)) none
  | _ => none

def isUns : TypeDesc → Bool | .unsafePointer => true | _ => false
/-- a pointer, as one of no type -/
noncomputable def toUns (ds : TypeDesc) (x : Value) (σ : ASt) : Res :=
  andThen (ptrTo ds) fun t => andThen (size T t) fun s => iff (isZ s) none (match x with
  | .pointer none => some (x, σ)
  | .pointer (some a) => andThen2 (plain a) fun k off => andThen (σ.row k) fun c => iff (Nat.blt off (lenQ c)) (some (x, σ)) none
  | _ => none)
/-- and back, where it leads to a whole variable of that type -/
noncomputable def fromUns (ds : TypeDesc) (x : Value) (σ : ASt) (u : TypeId) : Res :=
  iff (isUns ds) (match x with
  | .pointer none => some (x, σ)
  | .pointer (some a) => andThen2 (plain a) fun k off => andThen3 (andThen (σ.obj k) rowsOf) fun c e _ => andThen (typedQ e) fun q => andThen (size T u) fun s =>
      iff (and (and (isZ off) (not (odd q))) (and (Nat.beq (half q) u) (and (Nat.beq s (lenQ c)) (not (isZ s))))) (some (x, σ)) none
  | _ => none) none
noncomputable def convD (ds : TypeDesc) (x : Value) (σ : ASt) : TypeDesc → Res
  | .unsafePointer => toUns T ds x σ
  | .pointer u => fromUns T ds x σ u
  | .int k => andThen2 (asI x) fun _ n => some (.int k (wrapQ k n), σ)
  | .string => convStr T σ ds x
  | .slice e => andThen (asS x) fun s => iff (isU8 T e) (openSlice σ (lenQ s) (byteCells s) 1 (rowC e) σ.next) none
  | _ => none

noncomputable def convV (src dst : TypeId) (x : Value) (σ : ASt) : Res :=
  andThen (desc T src) fun ds => andThen (desc T dst) fun dd => convD T ds x σ dd

noncomputable def bound (dflt most : Nat) : Option Value → Option Nat
  | none => some dflt
  | some v => andThen2 (asI v) fun _ i => upTo i most

/-- low, high and max of a slice expression -/
noncomputable def bounds3 (len cap : Nat) (lo hi mx : Option Value) : Option (Nat × Nat × Nat) :=
  iff (and mx.isSome hi.isNone) none
  (andThen (bound cap cap mx) fun m => andThen (bound len m hi) fun h => andThen (bound 0 h lo) fun l => some (l, h, m))

noncomputable def cut (k off z l h m : Nat) : Value := .slice (some ⟨k, iff (Nat.beq m l) off (Nat.add off (Nat.mul l z)), none⟩) (Nat.sub h l) (Nat.sub m l)

noncomputable def cutAt (mx : Option Value) (z l h m : Nat) : Option Addr → Option Value
  | none => some (.slice none (Nat.sub h l) (Nat.sub m l))
  | some ⟨k, off, none⟩ => some (cut k off z l h m)
  | some ⟨k, off, some s⟩ => iff (Nat.beq s z) (some (iff mx.isSome (cut k off z l h m) (.slice (some ⟨k, Nat.add off (Nat.mul l z), some s⟩) (Nat.sub h l) (Nat.sub m l)))) none

noncomputable def sliceStr (x : Value) (lo hi mx : Option Value) : Option Value :=
  andThen (asS x) fun s => iff mx.isSome none (andThen3 (bounds3 (lenQ s) (lenQ s) lo hi none) fun l h _ => some (.string ⟨⟨(s.drop l).take (Nat.sub h l)⟩⟩))
/-- rows of z cells each (the first says so for all) -/
noncomputable def rowZ (z : Nat) : List Value → Bool
  | [] => true
  | r :: _ => match asA r with | some c => Nat.beq (lenQ c) z | none => false
/-- a part of data; with a max it is known alone where nothing is left -/
noncomputable def cutDat (mx : Option Value) (rows : List Value) (l h m : Nat) : Option Value :=
  iff mx.isSome (iff (isZ m) (match rows with | [] => some (dat []) | _ :: _ => some (.slice (some ⟨0, 0, none⟩) 0 0)) none) (andThen (sub rows l (Nat.sub h l)) fun r => some (dat r))
noncomputable def sliceSl (e : TypeId) (x : Value) (lo hi mx : Option Value) : Option Value :=
  tupElse x (fun vs => andThen (datL vs) fun rows => andThen (size T e) fun z => iff (rowZ z rows) (andThen3 (bounds3 (lenQ rows) (lenQ rows) lo hi mx) fun l h m => cutDat mx rows l h m) none)
    (andThen3 (asSl x) fun a len cap => andThen (size T e) fun z => andThen3 (bounds3 len cap lo hi mx) fun l h m => cutAt mx z l h m a)
noncomputable def sliceArr (n : Nat) (e : TypeId) (x : Value) (lo hi mx : Option Value) : Option Value :=
  tupElse x (fun vs => andThen (datPL vs) fun cs => andThen (size T e) fun z => iff mx.isSome none (andThen3 (bounds3 n n lo hi none) fun l h _ => andThen (chunks z (Nat.sub h l) (dropQ (Nat.mul l z) cs)) fun rows => some (dat rows)))
    (andThen2 (asPtr x) fun k off => andThen (size T e) fun z => andThen3 (bounds3 n n lo hi mx) fun l h m => some (cut k off z l h m))
noncomputable def sliceD : TypeDesc → Tab → Value → Option Value → Option Value → Option Value → Option Value
  | .string => fun _ => sliceStr
  | .slice e => fun T => sliceSl T e
  | .array n e => fun T => sliceArr T n e
  | _ => fun _ _ _ _ _ => none

noncomputable def sliceV (t : TypeId) (x : Value) (lo hi mx : Option Value) : Option Value :=
  andThen (desc T t) fun d => sliceD d T x lo hi mx

noncomputable def ptrAt (k off : Nat) : Option Value := some (.pointer (some ⟨k, off, none⟩))

/-- a place within data -/
noncomputable def datAt (off z : Nat) (cs : List Value) : Option Value := iff (Nat.ble (Nat.add off z) (lenQ cs)) (some (datP (dropQ off cs))) none
noncomputable def indexAddrArr (len : Nat) (e : TypeId) (x : Value) (i : Int) : Option Value :=
  tupElse x (fun vs => andThen (datPL vs) fun cs => andThen (size T e) fun z => andThen (inRange i len) fun j => datAt (Nat.mul j z) z cs)
    (andThen2 (asPtr x) fun k off => andThen (size T e) fun z => andThen (inRange i len) fun j => ptrAt k (Nat.add off (Nat.mul j z)))
/-- the place of an element -/
noncomputable def rowAt (z : Nat) (rows : List Value) (j : Nat) : Option Value := andThen (nthQ j rows) fun r => andThen (asA r) fun c => iff (Nat.beq (lenQ c) z) (some (datP c)) none
noncomputable def indexAddrSl (e : TypeId) (x : Value) (i : Int) : Option Value :=
  tupElse x (fun vs => andThen (datL vs) fun rows => andThen (size T e) fun z => andThen (inRange i (lenQ rows)) fun j => rowAt z rows j)
    (andThen3 (asSl x) fun a len _ => andThen a fun a => andThen (size T e) fun z => andThen (inRange i len) fun j => ptrAt a.block (Nat.add a.off (Nat.mul j z)))
noncomputable def indexAddrD : TypeDesc → Tab → Value → Int → Option Value
  | .array len e => fun T => indexAddrArr T len e
  | .slice e => fun T => indexAddrSl T e
  | _ => fun _ _ _ => none

noncomputable def indexAddrV (t : TypeId) (x ix : Value) : Option Value :=
  andThen2 (asI ix) fun _ i => andThen (desc T t) fun d => indexAddrD d T x i

noncomputable def indexArr (len : Nat) (e : TypeId) (x : Value) (i : Int) : Option Value :=
  andThen (asA x) fun cs => andThen (size T e) fun z => andThen (inRange i len) fun j => part T e cs (Nat.mul j z)
noncomputable def indexStr (x : Value) (i : Int) : Option Value :=
  andThen (asS x) fun s => andThen (inRange i (lenQ s)) fun j => andThen (nthQ j s) fun b => some (.int .u8 (Int.ofNat b.toNat))
noncomputable def indexD : TypeDesc → Tab → Value → Int → Option Value
  | .array len e => fun T => indexArr T len e
  | .string => fun _ => indexStr
  | _ => fun _ _ _ => none

noncomputable def indexV (t : TypeId) (x ix : Value) : Option Value :=
  andThen2 (asI ix) fun _ i => andThen (desc T t) fun d => indexD d T x i

noncomputable def fieldOf (t : TypeId) (f : Nat) : Option Field := andThen (desc T t) fun d => andThen (structOf d) fun fs => nthQ f fs

noncomputable def fieldAddrV (t : TypeId) (x : Value) (f : Nat) : Option Value :=
  tupElse x (fun vs => andThen (datPL vs) fun cs => andThen (fieldOf T t f) fun g => andThen (size T g.type) fun z => iff (isZ z) none (datAt g.offset z cs))
    (andThen2 (asPtr x) fun k off => andThen (fieldOf T t f) fun g => andThen (size T g.type) fun z => iff (isZ z) none (ptrAt k (Nat.add off g.offset)))

noncomputable def fieldV (t : TypeId) (x : Value) (f : Nat) : Option Value :=
  andThen (asA x) fun cs => andThen (fieldOf T t f) fun g => part T g.type cs g.offset

/-! ### maps -/

/-- keys that are compared as they are -/
noncomputable def intTy (t : TypeId) : Bool := match andThen (desc T t) intKind with | some _ => true | none => false
/-- parts of keys: ints, strings, arrays of ints -/
noncomputable def keyPartD : TypeDesc → Bool
  | .int _ => true
  | .string => true
  | .array _ e => intTy T e
  | _ => false
noncomputable def keyPart (t : TypeId) : Bool := match desc T t with | some d => keyPartD T d | none => false
noncomputable def keyD : TypeDesc → Bool
  | .int _ => true
  | .string => true
  | .bool => true
  | .array _ e => intTy T e
  | .struct fs => or (fs.toList.all fun f => intTy T f.type) (fs.toList.all fun f => keyPart T f.type)
  | _ => false

noncomputable def keyOk (t : TypeId) : Bool := match desc T t with | some d => keyD T d | none => false

noncomputable def findK (t : TypeId) (k : Value) : List MapEntry → Nat → Option (Option (Nat × MapEntry))
  | [], _ => some none
  | e :: es, i => andThen (eqV T 3 t k e.key) fun b => iff b (some (some (i, e))) (findK t k es (Nat.succ i))

noncomputable def arrFit (v : Value) (n : Nat) (e : TypeId) : Bool := match asA v, size T e with | some cs, some z => and (Nat.beq z 1) (Nat.beq (lenQ cs) n) | _, _ => false
noncomputable def partFitD (v : Value) : TypeDesc → Bool
  | .int _ => true
  | .string => true
  | .array n e => and (intTy T e) (arrFit T v n e)
  | _ => false
noncomputable def partFit (cs : List Value) (f : Field) : Bool := match part T f.type cs f.offset, desc T f.type with | some v, some d => partFitD T v d | _, _ => false
noncomputable def keyFitD (ix : Value) : TypeDesc → Bool
  | .array n e => arrFit T ix n e
  | .struct fs => match asA ix with | some cs => or (and (fs.toList.all fun f => intTy T f.type) (fs.toList.all fun f => Nat.blt f.offset (lenQ cs))) (fs.toList.all fun f => partFit T cs f) | none => false
  | _ => true
noncomputable def keyFit (t : TypeId) (ix : Value) : Bool := match desc T t with | some d => keyFitD T ix d | none => false
noncomputable def findE (t : TypeId) (k : Value) (es : List MapEntry) : Option (Option (Nat × MapEntry)) := iff (keyFit T t k) (findK T t k es (nat_lit 0)) none

noncomputable def mapAt (σ : ASt) : Option Nat → Option (List MapEntry)
  | none => some []
  | some r => andThen2 (andThen (σ.obj r) entriesOf) fun es _ => some es

noncomputable def mapType (t : TypeId) : Option (TypeId × TypeId) := andThen (desc T t) fun d => andThen2 (mapOf2 d) fun k e => iff (keyOk T k) (some (k, e)) none

noncomputable def okOr (ok : Bool) (v : Value) (b : Bool) : Value := iff ok (.tuple #[v, .bool b]) v

noncomputable def lookupV (σ : ASt) (t : TypeId) (x ix : Value) (ok : Bool) : Option Value :=
  andThen2 (mapType T t) fun key elem => andThen (asM x) fun r => andThen (mapAt σ r) fun es => andThen (findE T key ix es) fun hit =>
    match hit with
    | some (_, e) => some (okOr ok e.val true)
    | none => andThen (zero T elem) fun z => some (okOr ok z false)

def setEntry (v : Value) : List MapEntry → Nat → List MapEntry
  | [], _ => []
  | e :: es, 0 => { e with val := v } :: es
  | e :: es, i + 1 => e :: setEntry v es i

noncomputable def sameInts : List Value → List Value → Bool
  | [] => fun b => match b with | [] => true | _ :: _ => false
  | x :: a => fun b => match b with | [] => false | y :: b => match asI x, asI y with | some p, some q => and (and (sameKind p.1 q.1) (eqQ p.2 q.2)) (sameInts a b) | _, _ => false

/-- keys of the plain kinds that are the same through and through -/
noncomputable def sameKey : Value → Value → Bool
  | .int k a => fun y => match asI y with | some q => and (sameKind k q.1) (eqQ a q.2) | none => false
  | .string a => fun y => match asS y with | some q => sameBytes a.data.toList q | none => false
  | .bool a => fun y => match asB y with | some q => a == q | none => false
  | .agg a => fun y => match asA y with | some q => sameInts a.toList q | none => false
  | _ => fun _ => false

noncomputable def updateV (σ : ASt) (t : TypeId) (m k x : Value) : Option ASt :=
  andThen2 (mapType T t) fun key _ => andThen (asM m) fun r => andThen r fun r => andThen2 (andThen (σ.obj r) entriesOf) fun es clock => andThen (findE T key k es) fun hit =>
    match hit with
    | some (i, e) => iff (sameKey e.key k) (some (σ.setMap r (setEntry x es i) clock)) none
    | none => some (σ.setMap r (es ++ [{ key := k, val := x, born := clock }]) (Nat.succ clock))

noncomputable def deleteV (σ : ASt) (t : TypeId) (m k : Value) : Option ASt :=
  andThen2 (mapType T t) fun key _ => andThen (asM m) fun r => andThen r fun r => andThen2 (andThen (σ.obj r) entriesOf) fun es clock => andThen (findE T key k es) fun hit =>
    match hit with
    | some (i, _) => some (σ.setMap r (es.eraseIdx i) clock)
    | none => some (σ.setMap r es clock)

noncomputable def assertFails (asserted : TypeId) (ok : Bool) : Option Value := iff ok (andThen (zero T asserted) fun z => some (.tuple #[z, .bool false])) none

noncomputable def assertI (asserted : TypeId) (ok : Bool) (t : TypeId) (v : Value) : TypeDesc → Option Value
  | .interface want => andThen (ty T t) fun i => match Instr.missingMethod want i.info.methods with | none => some (okOr ok (.iface t v) true) | some _ => assertFails T asserted ok
  | _ => iff (Nat.beq t asserted) (some (okOr ok v true)) (assertFails T asserted ok)

noncomputable def assertV (x : Value) (asserted : TypeId) (ok : Bool) : Option Value :=
  andThen (desc T asserted) fun d => andThen (isNilI x) fun o =>
    match o with
    | none => assertFails T asserted ok
    | some (t, v) => assertI T asserted ok t v d

def plainFn : Fn → Bool
  | .func _ => true
  | _ => false

noncomputable def nilChk : Value → Option Value
  | .pointer (some a) => some (.pointer (some a))
  | .iface t v => some (.iface t v)
  | .func fn a b => iff (plainFn fn) (some (.func fn a b)) none
  | .slice a n c => some (.slice a n c)
  | .map r => some (.map r)
  | .tuple vs => andThen (datPL vs.toList) fun cs => some (datP cs)
  | _ => none

/-! ### append, copy -/

noncomputable def lenV : Value → Option Nat
  | .slice _ n _ => some n
  | .string s => some (lenQ s.data.toList)
  | .tuple vs => andThen (datL vs.toList) fun rows => some (lenQ rows)
  | _ => none

noncomputable def firstA (σ : ASt) (n : Nat) : Option Addr → Option (List Value)
  | some a => σ.cellsAt a.block a.off n
  | none => iff (isZ n) (some []) none

noncomputable def firstV (σ : ASt) (z n : Nat) : Value → Option (List Value)
  | .slice a _ _ => firstA σ (Nat.mul n z) a
  | .string s => some (byteCells (s.data.toList.take n))
  | .tuple vs => andThen (datL vs.toList) fun rows => andThen (takeO n rows) fun r => rowsCells z r
  | _ => none

/-- what an append adds: how many, and their cells; of an int, as many zeros -/
noncomputable def addsV (σ : ASt) (ei : TI) (x : Value) : TypeDesc → Option (Nat × List Value)
  | .int _ => andThen2 (asI x) fun k n => andThen (upTo n 100000) fun m => andThen (zcells ei) fun z => iff (and (sameKind k .i64) (Nat.ble (Nat.mul m ei.info.bytes) (nat_lit 1000000000))) (some (m, zeros z m)) none
  | _ => andThen (lenV x) fun n => andThen (firstV σ ei.size n x) fun ys => iff (Nat.beq (lenQ ys) (Nat.mul n ei.size)) (some (n, ys)) none

noncomputable def storeS (σ : ASt) (cs : List Value) (off : Nat) (v : Value) : Option Addr → Res
  | none => some (v, σ)
  | some a => iff (isZ (lenQ cs)) (some (v, σ)) (andThen (σ.setAt a.block (Nat.add a.off off) cs) fun σ' => some (v, σ'))

noncomputable def growV (σ : ASt) (z y len need : Nat) (cs : List Value) : Option Addr → Res
  | some ⟨k, off, some s⟩ => iff (Nat.beq s z) (andThen3 (σ.kill k (Nat.add off (Nat.mul len z))) fun z' org σ' => iff (or (Nat.beq z' y) (Nat.beq z' z)) (openSlice σ' need cs z z' org) none) none
  | _ => openSlice σ need cs z y σ.next
/-- how a new row of such elements is told -/
noncomputable def rowY (e z : Nat) : Nat := iff (and (isU8 T e) (Nat.beq z (nat_lit 1))) (rowC e) z

/-- data, to which nothing is added -/
noncomputable def appendD (s : Value) (n : Nat) (σ : ASt) : Res := iff (isZ n) (some (s, σ)) none
noncomputable def appendV (sT xT : TypeId) (s x : Value) (σ : ASt) : Res :=
  andThen (desc T sT) fun d => andThen (sliceElem d) fun e => andThen (ty T e) fun ei =>
  tupElse s (fun vs => andThen (datL vs) fun rows => andThen (desc T xT) fun dx => andThen2 (addsV σ ei x dx) fun n _ => appendD (dat rows) n σ) <|
  andThen3 (asSl s) fun base len cap =>
    andThen (desc T xT) fun dx => andThen2 (addsV σ ei x dx) fun n ys =>
      iff (Nat.ble (Nat.add len n) cap) (storeS σ ys (Nat.mul len ei.size) (.slice base (Nat.add len n) cap) base)
      (iff (and (Nat.ble (Nat.mul (Nat.add len n) (Nat.succ ei.info.bytes)) (nat_lit 1000000000)) (Nat.ble 1 ei.info.bytes))
        (andThen (zcells ei) fun _ => andThen (firstA σ (Nat.mul len ei.size) base) fun old => growV σ ei.size (rowY T e ei.size) len (Nat.add len n) (appQ old ys) base)
      none)

noncomputable def copyV (dT : TypeId) (d src : Value) (σ : ASt) : Res :=
  andThen (desc T dT) fun dd => andThen (sliceElem dd) fun e => andThen (size T e) fun z => andThen3 (asSl d) fun base dLen _ =>
    andThen (lenV src) fun sLen => andThen (firstV σ z (minN sLen dLen) src) fun cs => storeS σ cs 0 (.int .i64 (Int.ofNat (minN sLen dLen))) base

noncomputable def clearV (t : TypeId) (x : Value) (σ : ASt) : Res :=
  andThen (desc T t) fun d => andThen (sliceElem d) fun e => andThen (ty T e) fun ei => andThen (zcells ei) fun z => andThen3 (asSl x) fun base len cap =>
    iff (Nat.ble len cap) (storeS σ (zeros z len) 0 (.tuple #[]) base) none

noncomputable def lenStr (x : Value) : Option Nat := andThen (asS x) fun s => some (lenQ s)
noncomputable def lenSl : Value → Option Nat
  | .slice _ n _ => some n
  | .tuple vs => andThen (datL vs.toList) fun rows => some (lenQ rows)
  | _ => none
noncomputable def lenMap (σ : ASt) (x : Value) : Option Nat := andThen (asM x) fun r => andThen (mapAt σ r) fun es => some (lenQ es)
noncomputable def lenPtr (a : TypeId) : Option Nat := andThen (desc T a) fun d => andThen2 (arrOf d) fun n _ => some n
noncomputable def lenD : TypeDesc → Tab → ASt → Value → Option Nat
  | .string => fun _ _ => lenStr
  | .array n _ => fun _ _ _ => some n
  | .slice _ => fun _ _ => lenSl
  | .map _ _ => fun _ => lenMap
  | .pointer a => fun T _ _ => lenPtr T a
  | _ => fun _ _ _ => none

noncomputable def goNat (o : Option Nat) : Option Value := andThen o fun n => some (.int .i64 (Int.ofNat n))

noncomputable def lenB (σ : ASt) (t : TypeId) (x : Value) : Option Value := andThen (desc T t) fun d => goNat (lenD d T σ x)

def capA : Option Addr → Bool
  | some ⟨_, _, some _⟩ => false
  | _ => true

noncomputable def capD (x : Value) : TypeDesc → Option Nat
  | .array n _ => some n
  | .slice _ => andThen3 (asSl x) fun a _ n => iff (capA a) (some n) none
  | _ => none

noncomputable def capB (t : TypeId) (x : Value) : Option Value := andThen (desc T t) fun d => goNat (capD x d)

/-- the least (true) or the greatest -/
noncomputable def minV (b : Bool) : List Value → Value → Option Value
  | [], v => some v
  | w :: r, v => andThen2 (asI v) fun k x => andThen2 (asI w) fun _ y => minV b r (.int k (iff b (iff (leQ x y) x y) (iff (leQ y x) x y)))

def arg2 {α : Type} (l : List α) : Option (α × α) :=
  match l with
  | a :: b :: _ => some (a, b)
  | _ => none
def arg1 {α : Type} (l : List α) : Option (α × List α) :=
  match l with
  | a :: r => some (a, r)
  | _ => none

noncomputable def bAppend (tys : List TypeId) (args : List Value) (σ : ASt) : Res := andThen2 (arg2 tys) fun sT xT => andThen2 (arg2 args) fun s x => appendV T sT xT s x σ
noncomputable def bCopy (tys : List TypeId) (args : List Value) (σ : ASt) : Res := andThen2 (arg1 tys) fun t _ => andThen2 (arg2 args) fun d s => copyV T t d s σ
noncomputable def bLen (tys : List TypeId) (args : List Value) (σ : ASt) : Res := andThen2 (arg1 tys) fun t _ => andThen2 (arg1 args) fun x _ => val σ (lenB T σ t x)
noncomputable def bCap (tys : List TypeId) (args : List Value) (σ : ASt) : Res := andThen2 (arg1 tys) fun t _ => andThen2 (arg1 args) fun x _ => val σ (capB T t x)
noncomputable def bMin (b : Bool) (args : List Value) (σ : ASt) : Res := andThen2 (arg1 args) fun x r => val σ (minV b r x)
noncomputable def bDelete (tys : List TypeId) (args : List Value) (σ : ASt) : Res :=
  andThen2 (arg1 tys) fun t _ => andThen2 (arg2 args) fun m k => andThen (deleteV T σ t m k) fun σ' => some (.tuple #[], σ')
noncomputable def bClear (tys : List TypeId) (args : List Value) (σ : ASt) : Res := andThen2 (arg1 tys) fun t _ => andThen2 (arg1 args) fun x _ => clearV T t x σ
noncomputable def sliceDataV : Value → Option Value
  | .slice none _ _ => some (.pointer none)
  | .slice (some a) n _ => iff (isZ n) none (some (.pointer (some ⟨a.block, a.off, none⟩)))
  | _ => none
/-- the bytes there, as a string: nobody may write them any more, so the block ends -/
noncomputable def strAt (pt : TypeId) (b off m : Nat) (σ : ASt) : Res :=
  andThen (desc T pt) fun d => andThen (ptrTo d) fun u => andThen (size T u) fun s => andThen3 (andThen (σ.obj b) rowsOf) fun c e org => andThen (typedQ e) fun q =>
    iff (and (Nat.beq (half q) u) (Nat.beq s (nat_lit 1))) (andThen (sub c off m) fun cs => andThen (bytesOf cs) fun l => some (.string ⟨⟨l⟩⟩, ⟨σ.heap.set b (.cells c e org false true), σ.next, σ.lower org, minN b σ.klow⟩)) none
def just1 {α : Type} (l : List α) : Option α := match l with | [a] => some a | _ => none
def just2 {α : Type} (l : List α) : Option (α × α) := match l with | [a, b] => some (a, b) | _ => none
noncomputable def bSliceData (args : List Value) (σ : ASt) : Res := andThen (just1 args) fun x => val σ (sliceDataV x)
def isPtrV : Value → Bool | .pointer _ => true | _ => false
noncomputable def bString (tys : List TypeId) (args : List Value) (σ : ASt) : Res :=
  andThen2 (arg1 tys) fun pt _ => andThen2 (just2 args) fun p x => andThen2 (asI x) fun _ n => andThen (upTo n 10000000) fun m =>
    iff (isZ m) (iff (isPtrV p) (some (.string .empty, σ)) none) (andThen2 (asPtr p) fun b off => strAt T pt b off m σ)
noncomputable def builtinV : Builtin → Tab → List TypeId → List Value → ASt → Res
  | .append => bAppend
  | .copy => bCopy
  | .len => bLen
  | .cap => bCap
  | .min => fun _ _ => bMin true
  | .max => fun _ _ => bMin false
  | .delete => bDelete
  | .clear => bClear
  | .unsafeSliceData => fun _ _ => bSliceData
  | .unsafeString => bString
  | _ => fun _ _ _ _ => none

/-! ### one operation -/

noncomputable def storeV (t : TypeId) (p x : Value) (σ : ASt) : Option ASt :=
  andThen2 (asPtr p) fun k off => andThen (size T t) fun z => andThen (flat x) fun vs => iff (Nat.beq (lenQ vs) z) (σ.setAt k off vs) none

noncomputable def rowQ (e z : Nat) : Option Nat := iff (and (isU8 T e) (Nat.beq z (nat_lit 1))) (some (rowC e)) none
noncomputable def newSliceQ (σ : ASt) (len cap : Nat) (cs : List Value) (q : Option Nat) : Res := some (.slice (some ⟨σ.next, 0, none⟩) len cap, σ.new (.cells cs q σ.next false false))
noncomputable def makeSliceV (t : TypeId) (l c : Value) (σ : ASt) : Res :=
  andThen (desc T t) fun d => andThen (sliceElem d) fun e => andThen (ty T e) fun ei => andThen (zcells ei) fun z => andThen2 (asI c) fun _ m => andThen (upTo m 10000000) fun m =>
    andThen2 (asI l) fun _ n => andThen (upTo n m) fun n =>
    iff (Nat.ble (Nat.mul m (Nat.succ ei.info.bytes)) (nat_lit 1000000000)) (newSliceQ σ n m (zeros z m) (rowQ T e ei.size)) none

noncomputable def hintOk : Option Value → Option Unit
  | none => some ()
  | some v => andThen2 (asI v) fun _ _ => some ()

noncomputable def makeMapV (t : TypeId) (r : Option Value) (σ : ASt) : Res :=
  andThen (desc T t) fun d => andThen2 (mapOf2 d) fun _ _ => andThen (hintOk r) fun _ => some (.map (some σ.next), σ.new (.map [] 0))

noncomputable def needsGuard (op : BinOp) : Bool := (isNeq op).isSome

noncomputable def parts (ρ : Operand → Value) (ps : List (Nat × Operand)) : List (Nat × Value) := mapQ (fun q => (q.1, ρ q.2)) ps

def compV (i : Nat) : Value → Option Value
  | .tuple vs => (match vs.toList with
    | a :: b :: l => (a :: b :: l)[i]?
    | [.bool b] => [Value.bool b][i]?
    | _ => none)
  | _ => none

noncomputable def doPick (c a b : Operand) (ρ : Operand → Value) (σ : ASt) : Res := andThen (asB (ρ c)) fun t => some (iff t (ρ a) (ρ b), σ)
noncomputable def newVar (σ : ASt) (cs : List Value) : Res := some (.pointer (some ⟨σ.next, 0, none⟩), σ.newRow cs)
/-- a struct that begins with a pointer to its own type: of its variables the type is known -/
noncomputable def selfPtr (t : TypeId) (d : TypeDesc) : Bool :=
  @Option.rec (List Field) (fun _ => Bool) false (fun fs => @List.rec Field (fun _ => Bool) false (fun f _ _ => @Option.rec TypeDesc (fun _ => Bool) false (fun d => @Option.rec TypeId (fun _ => Bool) false (fun u => Nat.beq u t) (ptrTo d)) (desc T f.type)) fs) (structOf d)
noncomputable def newTyped (σ : ASt) (t : TypeId) (cs : List Value) : Res := some (.pointer (some ⟨σ.next, 0, none⟩), σ.new (.cells cs (some (wholeC t)) σ.next false false))
noncomputable def doAlloc (t : TypeId) (_ρ : Operand → Value) (σ : ASt) : Res := andThen (ty T t) fun i => andThen (zcells i) fun z => iff (selfPtr T t i.desc) (newTyped σ t z) (newVar σ z)
noncomputable def doBox (x : Operand) (ρ : Operand → Value) (σ : ASt) : Res := andThen (flat (ρ x)) (newVar σ)
noncomputable def doBuild (t : TypeId) (ps : List (Nat × Operand)) (ρ : Operand → Value) (σ : ASt) : Res := val σ (build T t (parts ρ ps))
noncomputable def doBuildSlice (t : TypeId) (n : Nat) (ps : List (Nat × Operand)) (ρ : Operand → Value) (σ : ASt) : Res := buildSlice T t n (parts ρ ps) σ
noncomputable def loadD (t : TypeId) (σ : ASt) (x : Value) : Res :=
  tupElse x (fun vs => andThen (datPL vs) fun cs => val σ (part T t cs 0)) (andThen2 (asPtr x) fun k off => val σ (loadV T σ t k off))
noncomputable def doLoad (t : TypeId) (a : Operand) (ρ : Operand → Value) (σ : ASt) : Res := loadD T t σ (ρ a)
noncomputable def doStore (t : TypeId) (a x : Operand) (ρ : Operand → Value) (σ : ASt) : Res := unit (storeV T t (ρ a) (ρ x) σ)
noncomputable def doBin (op : BinOp) (t : TypeId) (x y : Operand) (ρ : Operand → Value) (σ : ASt) : Res :=
  iff (iff (needsGuard op) (guarded T t x y (ρ x)) true) (val σ (binV (ρ x) T op t (ρ y))) none
noncomputable def doIface (t : TypeId) (x : Operand) (ρ : Operand → Value) (σ : ASt) : Res := andThen (desc T t) fun d => iff (isIface d) none (some (.iface t (ρ x), σ))
noncomputable def doRange (t : TypeId) (x : Operand) (ρ : Operand → Value) (σ : ASt) : Res :=
  andThen (desc T t) fun d => match d with
  | .string => andThen (asS (ρ x)) fun s => some (.pointer (some ⟨σ.next, 0, none⟩), σ.new (.iter s 0))
  | _ => none
noncomputable def doNext (x : Operand) (isStr : Bool) (ρ : Operand → Value) (σ : ASt) : Res :=
  andThen2 (asPtr (ρ x)) fun r off => andThen2 (andThen (σ.obj r) iterOf) fun s pos => iff (and isStr (isZ off))
    (iff (Nat.blt pos (lenQ s))
      (match Utf8.decode ⟨⟨s⟩⟩ pos with
      | (c, width) => some (.tuple #[.bool true, .int .i64 (Int.ofNat pos), .int .i32 c], ⟨σ.heap.set r (.iter s (Nat.add pos width)), σ.next, σ.lower r, σ.klow⟩))
      (some (.tuple #[.bool false], σ)))
    none

/-- the method of an interface value -/
noncomputable def methodD (m : Method) (v : Value) (d : TypeDesc) : Option (FuncId × Value) :=
  andThen2 m.func fun f byPtr => iff (and m.path.isEmpty (byPtr == isPtr d)) (some (f, v)) none

noncomputable def methodV (t : TypeId) (v : Value) (name : String) : Option (FuncId × Value) :=
  andThen (ty T t) fun i => andThen (i.info.methods.toList.find? (·.name == name)) fun m => methodD m v i.desc

/-- a method of an interface value, as a function: it is there -/
noncomputable def methChk (name : String) (first : List Value) (v : Value) : Option Value :=
  andThen2 (arg1 first) fun r _ => andThen (isNilI r) fun o => andThen2 o fun t w => andThen2 (methodV T t w name) fun _ _ => some v
noncomputable def nilChkT (v : Value) : Option Value :=
  match v with
  | .func (.method name) first caps => methChk T name first.toList (.func (.method name) first caps)
  | v => nilChk v

/-- one operation that is no call of a function: what it yields -/
noncomputable def opV : Op → Tab → (Operand → Value) → ASt → Res
  | .move x => fun _ ρ σ => some (ρ x, σ)
  | .assign x => fun _ ρ σ => some (ρ x, σ)
  | .pick c a b => fun _ => doPick c a b
  | .alloc t => fun T => doAlloc T t
  | .box _ x => fun _ => doBox x
  | .build t ps => fun T => doBuild T t ps.toList
  | .buildSlice t n ps => fun T => doBuildSlice T t n ps.toList
  | .load t a => fun T => doLoad T t a
  | .store t a x => fun T => doStore T t a x
  | .nilCheck x => fun T ρ σ => val σ (nilChkT T (ρ x))
  | .binOp op t x y _ => fun T => doBin T op t x y
  | .unOp op _ x => fun _ ρ σ => val σ (unV op (ρ x))
  | .convert s d x => fun T ρ σ => convV T s d (ρ x) σ
  | .makeInterface t x => fun T => doIface T t x
  | .makeFunc fn first captured => fun _ ρ σ => some (.func fn ⟨mapQ ρ first.toList⟩ ⟨mapQ ρ captured.toList⟩, σ)
  | .makeMap t r => fun T ρ σ => makeMapV T t (r.map ρ) σ
  | .makeSlice t l c => fun T ρ σ => makeSliceV T t (ρ l) (ρ c) σ
  | .slice t x lo hi mx => fun T ρ σ => val σ (sliceV T t (ρ x) (lo.map ρ) (hi.map ρ) (mx.map ρ))
  | .fieldAddr t x f => fun T ρ σ => val σ (fieldAddrV T t (ρ x) f)
  | .field t x f => fun T ρ σ => val σ (fieldV T t (ρ x) f)
  | .indexAddr t x i => fun T ρ σ => val σ (indexAddrV T t (ρ x) (ρ i))
  | .index t x i => fun T ρ σ => val σ (indexV T t (ρ x) (ρ i))
  | .lookup t x i ok => fun T ρ σ => val σ (lookupV T σ t (ρ x) (ρ i) ok)
  | .mapUpdate t m k x => fun T ρ σ => unit (updateV T σ t (ρ m) (ρ k) (ρ x))
  | .insert t m k x => fun T ρ σ => unit (updateV T σ t (ρ m) (ρ k) (ρ x))
  | .typeAssert x _ asserted ok => fun T ρ σ => val σ (assertV T (ρ x) asserted ok)
  | .extract t i => fun _ ρ σ => val σ (compV i (ρ t))
  | .range t x => fun T => doRange T t x
  | .next it isStr => fun _ => doNext it isStr
  | _ => fun _ _ _ => none

/-! ### calls, regions, code -/

inductive AEx where
  | normal
  | exit (id : Nat)
  | ret

abbrev CallF := FuncId → List Value → ASt → Res
abbrev Out := Option (AEx × Env × ASt)

noncomputable def callI (call : CallF) (σ : ASt) (recv : Value) (name : String) (args : List Value) : Res :=
  andThen (isNilI recv) fun o => andThen2 o fun t v => andThen2 (methodV T t v name) fun f r => call f (r :: args) σ

noncomputable def callFn (call : CallF) (σ : ASt) (args captured : List Value) : Fn → Res
  | .func g => call g (appQ args captured) σ
  | .method name => andThen2 (arg1 args) fun r rest => callI T call σ r name rest
  | _ => none

def asF : Value → Option (Fn × List Value × List Value)
  | .func fn a b => some (fn, a.toList, b.toList)
  | _ => none

noncomputable def callClo (call : CallF) (σ : ASt) (args : List Value) (f : Value) : Res := andThen3 (asF f) fun fn first captured => callFn T call σ (appQ first args) captured fn
noncomputable def callC : Callee → Tab → CallF → (Operand → Value) → ASt → List TypeId → List Value → Res
  | .builtin b => fun T _ _ σ tys args => builtinV b T tys args σ
  | .invoke recv name => fun T call ρ σ _ args => callI T call σ (ρ recv) name args
  | .value f => fun T call ρ σ _ args => callClo T call σ args (ρ f)

noncomputable def callOf : Op → Option Call
  | .call c => some c
  | _ => none

noncomputable def operV (call : CallF) (op : Op) (ρ : Operand → Value) (σ : ASt) : Res :=
  @Option.rec Call (fun _ => Res) (opV op T ρ σ) (fun c => callC c.callee T call ρ σ c.argTypes.toList (mapQ ρ c.args.toList)) (callOf op)

noncomputable def put (e : Env) (v : Value) : Option Tmp → Env
  | some d => e.set d v
  | none => e

/-- what a guard's value says: it wants the operation, or not; nothing, if it is not known -/
def guardOf (want : Bool) : Value → Option Bool
  | .bool b => some (b == want)
  | .tuple vs => (match vs.toList with | [] => some false | _ => none)
  | _ => none
noncomputable def yields (e : Env) (want : Bool) (oj : Oper) : Option Bool :=
  match oj.dst with
  | none => some false
  | some d => andThen (e.get d) (guardOf want)
noncomputable def wanted (ops : List Oper) (e : Env) : Option (Nat × Bool) → Option Bool
  | none => some true
  | some p => match nthQ p.1 ops with | some oj => yields e p.2 oj | none => some false

/-- an operation of a region that draws its order: 'bar' says whether it may write what was there before -/
noncomputable def drawn (call : CallF) (bar : Bool) (op : Op) (ρ : Operand → Value) (σ : ASt) : Res :=
  andThen2 (operV T call op ρ ⟨σ.heap, σ.next, σ.next, σ.klow⟩) fun v σ' =>
    iff (or (Nat.ble σ.next σ'.low) bar) (some (v, ⟨σ'.heap, σ'.next, minN σ.low σ'.low, σ'.klow⟩)) none

noncomputable def doOper (call : CallF) (bar : Bool) (draw : Bool) (op : Op) (ρ : Operand → Value) (σ : ASt) : Res :=
  iff draw (drawn T call bar op ρ σ) (operV T call op ρ σ)

noncomputable def runOps (call : CallF) (ops : List Oper) (bar : Nat → Bool) (draw : Bool) (l : List Oper) : Nat → Env → ASt → Option (Env × ASt) :=
  @List.rec Oper (fun _ => Nat → Env → ASt → Option (Env × ASt)) (fun _ e σ => some (e, σ))
    (fun o _ ih i e σ => andThen (wanted ops e o.guard) fun g => iff g (andThen2 (doOper T call (bar i) draw o.op (env e) σ) fun v σ' => ih (Nat.succ i) (put e v o.dst) σ') (ih (Nat.succ i) (put e undef o.dst) σ)) l

/-- does it look at memory, or make some? -/
def mem : Op → Bool
  | .move _ | .assign _ | .pick .. | .nilCheck _ | .unOp .. | .makeInterface .. | .makeFunc .. | .fieldAddr .. | .field .. | .indexAddr .. | .index .. | .extract .. | .slice .. | .typeAssert .. | .build .. | .binOp .. => false
  | _ => true

def bindsAny (e : Edge) : Bool :=
  match e.ground with
  | .textOnly _ => false
  | .gcOnly _ => false
  | _ => true
noncomputable def orZero (o : Option Nat) : Nat := @Option.rec Nat (fun _ => Nat) (nat_lit 0) (fun n => n) o
/-- what must come before, as bits -/
noncomputable def befOf (acc : Tr Nat) (es : List Edge) : Nat :=
  @List.rec Edge (fun _ => Nat) (nat_lit 0) (fun e _ s => iff (bindsAny e) (Nat.lor (Nat.lor s (Nat.pow 2 e.on)) (orZero (acc.get e.on))) s) es
noncomputable def befs (l : List Oper) : Nat → Tr Nat → Tr Nat :=
  @List.rec Oper (fun _ => Nat → Tr Nat → Tr Nat) (fun _ acc => acc) (fun o _ ih i acc => ih (Nat.succ i) (acc.set i (befOf acc o.after.toList))) l
/-- j is before i -/
noncomputable def isBef (b : Tr Nat) (i j : Nat) : Bool := Nat.testBit (orZero (b.get i)) j
noncomputable def comparable (b : Tr Nat) (i j : Nat) : Bool := or (isBef b i j) (isBef b j i)
noncomputable def barAll (b : Tr Nat) (i : Nat) (l : List Oper) : Nat → Bool :=
  @List.rec Oper (fun _ => Nat → Bool) (fun _ => true) (fun o _ ih j => iff (mem o.op) (iff (or (Nat.beq j i) (comparable b i j)) (ih (Nat.succ j)) false) (ih (Nat.succ j))) l

/-- the operation i may write what was there before: every other one that looks at memory is ordered with it -/
noncomputable def barrier (ops : List Oper) (i : Nat) : Bool := barAll (befs ops (nat_lit 0) .leaf) i ops (nat_lit 0)

noncomputable def onNormal (x : AEx) (a : Out) (b : Out) : Out := @AEx.rec (fun _ => Out) a (fun _ => b) b x

noncomputable def iter (body : Env → ASt → Out) (n : Nat) : Env → ASt → Out :=
  @Nat.rec (fun _ => Env → ASt → Out) (fun _ _ => none) (fun _ ih e σ => andThen3 (body e σ) fun x e' σ' => onNormal x (ih e' σ') (some (x, e', σ'))) n

noncomputable def seqO (o : Out) (k : Env → ASt → Out) : Out := andThen3 o fun x e' σ' => onNormal x (k e' σ') (some (x, e', σ'))

noncomputable def leaves (id : Nat) (x : AEx) : AEx := @AEx.rec (fun _ => AEx) .normal (fun id' => iff (Nat.beq id' id) .normal (.exit id')) .ret x

noncomputable def blockO (id : Nat) (o : Out) : Out := andThen3 o fun x e' σ' => some (leaves id x, e', σ')

noncomputable def regionO (o : Option (Env × ASt)) : Out := andThen2 o fun e' σ' => some (.normal, e', σ')

noncomputable def runCode (c : Code) : Tab → CallF → Nat → Env → ASt → Out :=
  @Code.rec (fun _ => Tab → CallF → Nat → Env → ASt → Out)
    (fun _ _ _ e σ => some (.normal, e, σ))
    (fun _ ops draw T call _ e σ => regionO (runOps T call ops.toList (barrier ops.toList) draw ops.toList 0 e σ))
    (fun _ _ a b T call lf e σ => seqO (a T call lf e σ) (b T call lf))
    (fun c _ _ a b T call lf e σ => andThen (asB (env e c)) fun t => iff t (a T call lf e σ) (b T call lf e σ))
    (fun id _ c T call lf e σ => blockO id (c T call lf e σ))
    (fun _ c T call lf e σ => iter (c T call lf) lf e σ)
    (fun _ _ _ _ _ _ _ _ _ _ _ => none)
    (fun id _ _ _ e σ => some (.exit id, e, σ))
    (fun _ c => c)
    (fun _ _ _ _ e σ => some (.normal, e, σ))
    (fun _ _ _ _ _ _ => none)
    (fun _ _ _ e σ => some (.ret, e, σ))
    (fun _ _ _ _ _ _ => none) c

noncomputable def initEnv (l : List Value) : Nat → Env → Env :=
  @List.rec Value (fun _ => Nat → Env → Env) (fun _ e => e) (fun v _ ih i e => ih (Nat.succ i) (e.set i v)) l

noncomputable def resultsV (σ : ASt) (e : Env) : List ResultVar → Option (List Value)
  | [] => some []
  | .tmp t :: rs => andThen (resultsV σ e rs) fun vs => some (env e (.tmp t) :: vs)
  | .cell a t :: rs => andThen2 (asPtr (env e (.tmp a))) fun k off => andThen (loadV T σ t k off) fun v => andThen (resultsV σ e rs) fun vs => some (v :: vs)

def oneOrTuple : List Value → Value
  | [v] => v
  | vs => .tuple ⟨vs⟩

noncomputable def leftFn (x : AEx) (o : Res) : Res := @AEx.rec (fun _ => Res) o (fun _ => none) o x

noncomputable def ended (fn : Func) (o : Out) : Res := andThen3 o fun x e σ' => leftFn x (andThen (resultsV T σ' e fn.results.toList) fun vs => some (oneOrTuple vs, σ'))

/-- no address in it -/
noncomputable def bare : Value → Bool
  | .bool _ => true
  | .int _ _ => true
  | .string _ => true
  | .nilIface => true
  | .nilFunc => true
  | .pointer none => true
  | .slice none _ _ => true
  | .map none => true
  | _ => false
noncomputable def bareAll (l : List Value) : Bool := @List.rec Value (fun _ => Bool) true (fun v _ ih => iff (bare v) ih false) l
noncomputable def bareA : Value → Bool
  | .agg cs => bareAll cs.toList
  | v => bare v
noncomputable def bareAllA (l : List Value) : Bool := @List.rec Value (fun _ => Bool) true (fun v _ ih => iff (bareA v) ih false) l
noncomputable def bareR : Value → Bool
  | .tuple vs => iff (isDatL vs.toList) false (bareAllA vs.toList)
  | v => bareA v

/-- behind a call: where nothing that was there has changed, and what comes back has no address, memory is as it was, but for the next number -/
noncomputable def settle (σ : ASt) (v : Value) (σ' : ASt) : Res :=
  iff (and (and (Nat.ble σ.next σ'.low) (Nat.ble σ.next σ'.klow)) (bareR v)) (some (v, ⟨σ.heap, σ'.next, σ.low, σ.klow⟩)) (some (v, ⟨σ'.heap, σ'.next, minN σ.low σ'.low, minN σ.klow σ'.klow⟩))

noncomputable def callN (lf : Nat) : Nat → CallF
  | 0, _, _, _ => none
  | n + 1, f, args, σ => andThen (T.F.get f) fun fn => andThen fn.body fun c =>
      andThen2 (ended T fn (runCode c T (callN lf n) lf (initEnv args 0 .leaf) ⟨σ.heap, σ.next, σ.next, σ.next⟩)) fun v σ' => settle σ v σ'

end
end Go.Abs

/- THE ABSTRACT MACHINE's SMALL WORDS, AS THE USUAL ONES: its quick conditionals, maps, lists and numbers are what they are called. -/
namespace Go.Abs

@[simp] theorem iff_true {α : Type} (a b : α) : iff true a b = a := rfl
@[simp] theorem iff_false {α : Type} (a b : α) : iff false a b = b := rfl
theorem iff_eq {α : Type} (c : Bool) (a b : α) : iff c a b = if c = true then a else b := by cases c <;> rfl

@[simp] theorem andThen_none {α β : Type} (f : α → Option β) : andThen none f = none := rfl
@[simp] theorem andThen_some {α β : Type} (a : α) (f : α → Option β) : andThen (some a) f = f a := rfl
@[simp] theorem andThen2_none {α β γ : Type} (f : α → β → Option γ) : andThen2 none f = none := rfl
@[simp] theorem andThen2_some {α β γ : Type} (a : α × β) (f : α → β → Option γ) : andThen2 (some a) f = f a.1 a.2 := rfl
@[simp] theorem andThen3_none {α β γ δ : Type} (f : α → β → γ → Option δ) : andThen3 none f = none := rfl
@[simp] theorem andThen3_some {α β γ δ : Type} (a : α × β × γ) (f : α → β → γ → Option δ) : andThen3 (some a) f = f a.1 a.2.1 a.2.2 := rfl

theorem andThen_eq {α β : Type} {o : Option α} {f : α → Option β} {b : β} (h : andThen o f = some b) : ∃ a, o = some a ∧ f a = some b := by
  cases o with
  | none => simp at h
  | some a => exact ⟨a, rfl, h⟩
theorem andThen2_eq {α β γ : Type} {o : Option (α × β)} {f : α → β → Option γ} {c : γ} (h : andThen2 o f = some c) : ∃ a b, o = some (a, b) ∧ f a b = some c := by
  cases o with
  | none => simp at h
  | some a => exact ⟨a.1, a.2, rfl, h⟩
theorem andThen3_eq {α β γ δ : Type} {o : Option (α × β × γ)} {f : α → β → γ → Option δ} {d : δ} (h : andThen3 o f = some d) : ∃ a b c, o = some (a, b, c) ∧ f a b c = some d := by
  cases o with
  | none => simp at h
  | some a => exact ⟨a.1, a.2.1, a.2.2, rfl, h⟩
theorem iff_some {α : Type} {c : Bool} {a : Option α} {b : α} (h : iff c a none = some b) : c = true ∧ a = some b := by
  cases c with
  | false => simp at h
  | true => exact ⟨rfl, h⟩

/-! ### maps -/

namespace Tr
variable {α : Type}
@[simp] theorem get_leaf (n : Nat) : (leaf : Tr α).get n = none := rfl
theorem get_node (l r : Tr α) (v : Option α) (n : Nat) : (node l v r).get n = iff (isZ n) v (iff (odd n) (l.get (half n)) (r.get (Nat.pred (half n)))) := rfl
theorem set_node (l r : Tr α) (x : Option α) (n : Nat) (v : α) : (node l x r).set n v = iff (isZ n) (.node l (some v) r) (iff (odd n) (.node (l.set (half n) v) x r) (.node l x (r.set (Nat.pred (half n)) v))) := rfl
theorem set_leaf (n : Nat) (v : α) : (leaf : Tr α).set n v = single n n v := rfl
theorem single_succ (f n : Nat) (v : α) : single (f + 1) n v = iff (isZ n) (.node .leaf (some v) .leaf) (iff (odd n) (.node (single f (half n) v) none .leaf) (.node .leaf none (single f (Nat.pred (half n)) v))) := rfl
theorem single_zero (n : Nat) (v : α) : single 0 n v = .node .leaf (some v) .leaf := rfl

theorem isZ_iff (n : Nat) : isZ n = true ↔ n = 0 := by
  show Nat.beq n 0 = true ↔ n = 0
  exact ⟨Nat.eq_of_beq_eq_true, fun h => by subst h; rfl⟩
theorem odd_iff (n : Nat) : odd n = true ↔ n % 2 = 1 := by
  show Nat.beq (n % 2) 1 = true ↔ n % 2 = 1
  exact ⟨Nat.eq_of_beq_eq_true, fun h => by rw [h]; rfl⟩
theorem half_eq (n : Nat) : half n = n / 2 := rfl

theorem get_node' (l r : Tr α) (v : Option α) (n : Nat) : (node l v r).get n = if n = 0 then v else if n % 2 = 1 then l.get (n / 2) else r.get (n / 2 - 1) := by
  rw [get_node, iff_eq, iff_eq]
  by_cases h : n = 0
  · rw [if_pos ((isZ_iff n).2 h), if_pos h]
  · rw [if_neg (by rw [isZ_iff]; exact h), if_neg h]
    by_cases ho : n % 2 = 1
    · rw [if_pos ((odd_iff n).2 ho), if_pos ho]; rfl
    · rw [if_neg (by rw [odd_iff]; exact ho), if_neg ho]; rfl
theorem set_node' (l r : Tr α) (x : Option α) (n : Nat) (v : α) : (node l x r).set n v = if n = 0 then .node l (some v) r else if n % 2 = 1 then .node (l.set (n / 2) v) x r else .node l x (r.set (n / 2 - 1) v) := by
  rw [set_node, iff_eq, iff_eq]
  by_cases h : n = 0
  · rw [if_pos ((isZ_iff n).2 h), if_pos h]
  · rw [if_neg (by rw [isZ_iff]; exact h), if_neg h]
    by_cases ho : n % 2 = 1
    · rw [if_pos ((odd_iff n).2 ho), if_pos ho]; rfl
    · rw [if_neg (by rw [odd_iff]; exact ho), if_neg ho]; rfl
theorem single_succ' (f n : Nat) (v : α) : single (f + 1) n v = if n = 0 then (.node .leaf (some v) .leaf) else if n % 2 = 1 then .node (single f (n / 2) v) none .leaf else .node .leaf none (single f (n / 2 - 1) v) := by
  rw [single_succ, iff_eq, iff_eq]
  by_cases h : n = 0
  · rw [if_pos ((isZ_iff n).2 h), if_pos h]
  · rw [if_neg (by rw [isZ_iff]; exact h), if_neg h]
    by_cases ho : n % 2 = 1
    · rw [if_pos ((odd_iff n).2 ho), if_pos ho]; rfl
    · rw [if_neg (by rw [odd_iff]; exact ho), if_neg ho]; rfl

theorem get_single : ∀ (f n : Nat) (v : α) (m : Nat), n ≤ f → (single f n v).get m = if m = n then some v else none := by
  intro f
  induction f with
  | zero =>
    intro n v m h
    have : n = 0 := by omega
    subst this
    rw [single_zero, get_node']
    by_cases hm : m = 0
    · simp [hm]
    · simp [hm]
  | succ f ih =>
    intro n v m h
    rw [single_succ']
    by_cases hn : n = 0
    · rw [if_pos hn, get_node']
      subst hn
      by_cases hm : m = 0 <;> simp [hm]
    · rw [if_neg hn]
      by_cases ho : n % 2 = 1
      · rw [if_pos ho, get_node', ih _ _ _ (by omega)]
        by_cases hm : m = 0
        · rw [if_pos hm, if_neg (by omega)]
        · rw [if_neg hm]
          by_cases hmo : m % 2 = 1
          · rw [if_pos hmo]
            by_cases e : m = n
            · subst e; simp
            · rw [if_neg (by omega), if_neg e]
          · rw [if_neg hmo, get_leaf, if_neg (by intro e; subst e; exact hmo ho)]
      · rw [if_neg ho, get_node', ih _ _ _ (by omega)]
        by_cases hm : m = 0
        · rw [if_pos hm, if_neg (by omega)]
        · rw [if_neg hm]
          by_cases hmo : m % 2 = 1
          · rw [if_pos hmo, get_leaf, if_neg (by intro e; subst e; exact ho hmo)]
          · rw [if_neg hmo]
            by_cases e : m = n
            · subst e; simp
            · rw [if_neg (by omega), if_neg e]

theorem get_set (t : Tr α) : ∀ (n : Nat) (v : α) (m : Nat), (t.set n v).get m = if m = n then some v else t.get m := by
  induction t with
  | leaf => intro n v m; rw [set_leaf, get_single _ _ _ _ (Nat.le_refl _), get_leaf]
  | node l x r ihl ihr =>
    intro n v m
    rw [set_node']
    by_cases hn : n = 0
    · rw [if_pos hn, get_node', get_node']
      subst hn
      by_cases hm : m = 0 <;> simp [hm]
    · rw [if_neg hn]
      by_cases ho : n % 2 = 1
      · rw [if_pos ho, get_node', get_node', ihl]
        by_cases hm : m = 0
        · rw [if_pos hm, if_pos hm, if_neg (by omega)]
        · rw [if_neg hm, if_neg hm]
          by_cases hmo : m % 2 = 1
          · rw [if_pos hmo, if_pos hmo]
            by_cases e : m = n
            · subst e; simp
            · rw [if_neg (by omega), if_neg e]
          · rw [if_neg hmo, if_neg hmo, if_neg (by intro e; subst e; exact hmo ho)]
      · rw [if_neg ho, get_node', get_node', ihr]
        by_cases hm : m = 0
        · rw [if_pos hm, if_pos hm, if_neg (by omega)]
        · rw [if_neg hm, if_neg hm]
          by_cases hmo : m % 2 = 1
          · rw [if_pos hmo, if_pos hmo, if_neg (by intro e; subst e; exact ho hmo)]
          · rw [if_neg hmo, if_neg hmo]
            by_cases e : m = n
            · subst e; simp
            · rw [if_neg (by omega), if_neg e]
end Tr

/-! ### lists -/

theorem lenQ_eq {α : Type} (l : List α) : lenQ l = l.length := by
  induction l with
  | nil => rfl
  | cons a l ih => show Nat.succ (lenQ l) = _; rw [ih]; rfl
theorem dropQ_eq (n : Nat) : ∀ l : List Value, dropQ n l = l.drop n := by
  induction n with
  | zero => intro l; rfl
  | succ n ih => intro l; cases l with
    | nil => rfl
    | cons a l => exact ih l
theorem appQ_eq (l m : List Value) : appQ l m = l ++ m := by
  induction l with
  | nil => rfl
  | cons a l ih => show a :: appQ l m = _; rw [ih]; rfl
theorem nthQ_eq {α : Type} (n : Nat) : ∀ l : List α, nthQ n l = l[n]? := by
  induction n with
  | zero => intro l; cases l <;> rfl
  | succ n ih => intro l; cases l with
    | nil => rfl
    | cons a l => rw [List.getElem?_cons_succ]; exact ih l
theorem mapQ_eq {α β : Type} (f : α → β) (l : List α) : mapQ f l = l.map f := by
  induction l with
  | nil => rfl
  | cons a l ih => show f a :: mapQ f l = _; rw [ih]; rfl
theorem takeO_eq (n : Nat) : ∀ {l r : List Value}, takeO n l = some r → n ≤ l.length ∧ r = l.take n := by
  induction n with
  | zero => intro l r h; cases (Option.some.inj (show some [] = some r from h)); simp
  | succ n ih =>
    intro l r h
    cases l with
    | nil => cases (show none = some r from h)
    | cons a l =>
      obtain ⟨x, hx, h2⟩ := andThen_eq (show andThen (takeO n l) (fun r => some (a :: r)) = some r from h)
      cases h2
      obtain ⟨h1, h2⟩ := ih hx
      subst h2
      exact ⟨by simp; exact h1, rfl⟩
theorem sub_eq {l r : List Value} {off n : Nat} (h : sub l off n = some r) : (n = 0 ∨ off + n ≤ l.length) ∧ r = (l.drop off).take n := by
  unfold sub at h
  rw [dropQ_eq] at h
  obtain ⟨h1, h2⟩ := takeO_eq n h
  rw [List.length_drop] at h1
  exact ⟨by omega, h2⟩
theorem over_eq (vs : List Value) : ∀ {l r : List Value}, over vs l = some r → vs.length ≤ l.length ∧ r = vs ++ l.drop vs.length := by
  induction vs with
  | nil => intro l r h; cases (Option.some.inj (show some l = some r from h)); simp
  | cons v vs ih =>
    intro l r h
    cases l with
    | nil => cases (show none = some r from h)
    | cons a l =>
      obtain ⟨x, hx, h2⟩ := andThen_eq (show andThen (over vs l) (fun r => some (v :: r)) = some r from h)
      cases h2
      obtain ⟨h1, h2⟩ := ih hx
      subst h2
      exact ⟨by simp; exact h1, by simp⟩
theorem splice_eq (vs : List Value) (off : Nat) : ∀ {l r : List Value}, splice vs off l = some r → off + vs.length ≤ l.length ∧ r = l.take off ++ vs ++ l.drop (off + vs.length) := by
  induction off with
  | zero => intro l r h; obtain ⟨h1, h2⟩ := over_eq vs (show over vs l = some r from h); exact ⟨by omega, by simpa using h2⟩
  | succ n ih =>
    intro l r h
    cases l with
    | nil => cases (show none = some r from h)
    | cons a l =>
      obtain ⟨x, hx, h2⟩ := andThen_eq (show andThen (splice vs n l) (fun r => some (a :: r)) = some r from h)
      cases h2
      obtain ⟨h1, h2⟩ := ih hx
      subst h2
      refine ⟨by simp; omega, ?_⟩
      rw [show n + 1 + vs.length = (n + vs.length) + 1 from by omega]
      simp

/-! ### numbers -/

theorem ble_iff (a b : Nat) : Nat.ble a b = true ↔ a ≤ b := by rw [Nat.ble_eq]
theorem blt_iff (a b : Nat) : Nat.blt a b = true ↔ a < b := by rw [Nat.blt_eq]
theorem beq_iff (a b : Nat) : Nat.beq a b = true ↔ a = b := by rw [Nat.beq_eq]

theorem sameKind_iff (j k : IntKind) : sameKind j k = true ↔ j = k := by cases j <;> cases k <;> decide
theorem eqQ_eq (x y : Int) : eqQ x y = (x == y) := by
  cases x <;> cases y
  · rename_i a b
    show Nat.beq a b = _
    rw [Bool.eq_iff_iff]; simp [Nat.beq_eq]; omega
  · show false = _; symm; simp
  · show false = _; symm; simp
  · rename_i a b
    show Nat.beq a b = _
    rw [Bool.eq_iff_iff]; simp [Nat.beq_eq]
theorem leQ_iff (x y : Int) : leQ x y = true ↔ x ≤ y := by
  cases x <;> cases y
  · rename_i a b; show Nat.ble a b = true ↔ _; rw [Nat.ble_eq]; simp
  · rename_i a b; show false = true ↔ _; simp only [Int.ofNat_eq_natCast, Bool.false_eq_true, false_iff]; omega
  · rename_i a b; show true = true ↔ _; simp only [Int.ofNat_eq_natCast, true_iff]; omega
  · rename_i a b; show Nat.ble b a = true ↔ _; rw [Nat.ble_eq]; omega
theorem leQ_eq (x y : Int) : leQ x y = decide (x ≤ y) := by rw [Bool.eq_iff_iff, leQ_iff]; simp
theorem inRange_eq {i : Int} {len n : Nat} (h : inRange i len = some n) : 0 ≤ i ∧ i < len ∧ n = i.toNat := by
  cases i with
  | negSucc m => cases (show none = some n from h)
  | ofNat m =>
    obtain ⟨h1, h2⟩ := iff_some (show iff (Nat.blt m len) (some m) none = some n from h)
    have h1 : m < len := by simpa [Nat.blt_eq] using h1
    cases h2
    exact ⟨by simp, by simp; exact h1, rfl⟩
theorem upTo_eq {i : Int} {most n : Nat} (h : upTo i most = some n) : 0 ≤ i ∧ i ≤ most ∧ n = i.toNat := by
  cases i with
  | negSucc m => cases (show none = some n from h)
  | ofNat m =>
    obtain ⟨h1, h2⟩ := iff_some (show iff (Nat.ble m most) (some m) none = some n from h)
    have h1 : m ≤ most := by simpa [Nat.ble_eq] using h1
    cases h2
    exact ⟨by simp, by simp; exact h1, rfl⟩

theorem modOf_eq (k : IntKind) : modOf k = 2 ^ k.bits := by cases k <;> rfl
theorem topOf_eq (k : IntKind) : topOf k = if k.signed then 2 ^ (k.bits - 1) - 1 else 2 ^ k.bits - 1 := by cases k <;> rfl
theorem signedK_eq (k : IntKind) : signedK k = k.signed := by cases k <;> rfl

theorem wrap_eq (k : IntKind) (n : Int) : k.wrap n = if n % (modOf k : Int) ≤ (topOf k : Int) then n % (modOf k : Int) else n % (modOf k : Int) - (modOf k : Int) := by
  cases k <;> simp [IntKind.wrap, modOf, topOf, IntKind.bits, IntKind.signed] <;> (repeat' split) <;> omega

theorem ofMod_eq (k : IntKind) (m : Nat) (h : m < modOf k) : ofMod k m = k.wrap (m : Int) := by
  unfold ofMod
  rw [iff_eq, wrap_eq, Int.emod_eq_of_lt (by omega) (by omega)]
  by_cases h1 : m ≤ topOf k
  · rw [if_pos ((ble_iff _ _).2 h1), if_pos (by omega)]; rfl
  · rw [if_neg (fun h => h1 ((ble_iff _ _).1 h)), if_neg (by omega)]
    show Int.negSucc (modOf k - m - 1) = _
    omega

theorem toMod_lt (k : IntKind) (n : Int) : toMod k n < modOf k := by
  have hm : 0 < modOf k := by cases k <;> decide
  cases n with
  | ofNat m =>
    show iff (Nat.blt m (modOf k)) m (Nat.mod m (modOf k)) < modOf k
    rw [iff_eq]
    split
    · rename_i h; simpa [Nat.blt_eq] using h
    · exact Nat.mod_lt _ hm
  | negSucc m =>
    show modOf k - (m % modOf k + 1) < modOf k
    omega
theorem toMod_eq (k : IntKind) (n : Int) : (toMod k n : Int) = n % (2 ^ k.bits : Int) := by
  have hm : (2 ^ k.bits : Int) = (modOf k : Int) := by rw [modOf_eq]; simp
  have hp : 0 < modOf k := by cases k <;> decide
  rw [hm]
  cases n with
  | ofNat m =>
    show ((iff (Nat.blt m (modOf k)) m (Nat.mod m (modOf k)) : Nat) : Int) = _
    rw [iff_eq]
    split
    · rename_i h
      have h' : m < modOf k := by simpa [Nat.blt_eq] using h
      simp only [Int.ofNat_eq_natCast]
      rw [Int.emod_eq_of_lt (by omega) (by omega)]
    · simp only [Int.ofNat_eq_natCast]
      show ((m % modOf k : Nat) : Int) = _
      simp
  | negSucc m =>
    show ((modOf k - (m % modOf k + 1) : Nat) : Int) = _
    have h1 : m % modOf k < modOf k := Nat.mod_lt _ hp
    rw [Int.negSucc_emod _ (by omega)]
    omega

theorem top_lt (k : IntKind) : topOf k < modOf k := by cases k <;> decide
theorem top_signed (k : IntKind) (h : signedK k = true) : 2 * (topOf k + 1) = modOf k := by cases k <;> first | rfl | cases h

theorem wrapQ_eq (k : IntKind) (n : Int) : wrapQ k n = k.wrap n := by
  have hp : 0 < modOf k := by cases k <;> decide
  cases n with
  | ofNat m =>
    show iff (Nat.ble m (topOf k)) (Int.ofNat m) (ofMod k (m % modOf k)) = _
    rw [iff_eq]
    by_cases h : m ≤ topOf k
    · rw [if_pos ((ble_iff _ _).2 h), wrap_eq]
      have ht := top_lt k
      simp only [Int.ofNat_eq_natCast]
      rw [Int.emod_eq_of_lt (by omega) (by omega), if_pos (by omega)]
    · rw [if_neg (fun h' => h ((ble_iff _ _).1 h')), ofMod_eq _ _ (Nat.mod_lt _ hp), wrap_eq, wrap_eq]
      simp
  | negSucc m =>
    show iff (and (signedK k) (Nat.ble m (topOf k))) (Int.negSucc m) (ofMod k (toMod k (Int.negSucc m))) = _
    have h2 := toMod_eq k (Int.negSucc m)
    have hm : (2 ^ k.bits : Int) = (modOf k : Int) := by rw [modOf_eq]; simp
    rw [hm] at h2
    rw [iff_eq]
    by_cases h : signedK k = true ∧ m ≤ topOf k
    · rw [if_pos (by rw [Bool.and_eq_true, Nat.ble_eq]; exact h), wrap_eq, ← h2]
      have h3 : toMod k (Int.negSucc m) = modOf k - (m % modOf k + 1) := rfl
      have ht := top_lt k
      have hs := top_signed k h.1
      rw [Nat.mod_eq_of_lt (by omega)] at h3
      rw [if_neg (by omega)]
      omega
    · rw [if_neg (by rw [Bool.and_eq_true, Nat.ble_eq]; exact h), ofMod_eq _ _ (toMod_lt _ _), wrap_eq, wrap_eq, h2]
      simp

end Go.Abs

/- THE ABSTRACT MACHINE AND THE MODEL's MEMORY: which block of the one is which piece of the other's; what a step may change. -/
namespace Go.Abs

/-- where a block lies: in which block of the model's, from which cell on, how many cells that one has; and what stays of it: an element's size where it may grow, its kin, whether it is read alone, its length -/
structure PI where
  blk : Nat
  sh : Nat
  bsize : Nat
  esz : Option Nat
  org : Nat
  ro : Bool
  len : Nat

/-- where the blocks lie; and what lies in blocks of the model's that nobody writes any more -/
structure PMap where
  loc : Nat → Option PI
  fr : Nat → Option (List Value)
instance : CoeFun PMap (fun _ => Nat → Option PI) := ⟨PMap.loc⟩

/-- n cells from a place on -/
def Win (cc : List Value) (off : Nat) (cs : List Value) : Prop := off + cs.length ≤ cc.length ∧ (cc.drop off).take cs.length = cs
/-- rows of z cells each, and all their cells -/
def RowsAre (z : Nat) (rows cs : List Value) : Prop := rowsCells z rows = some cs
/-- one cell of the abstract machine's -/
def oneA (v : Value) : Bool := v.oneCell' || isDat v

/-- the model's place of an abstract place; of a block that has ended nothing is said -/
def AR (π : PMap) (D : Nat → Prop) (a a' : Addr) : Prop :=
  a'.spot = none ∧ ((∃ i, π a.block = some i ∧ a'.block = i.blk ∧ a'.off = i.sh + a.off) ∨ (π a.block = none ∧ D a.block))

/-- a slice that may grow: it ends where the model's block ends, or has no room at all -/
def OpenR (π : PMap) (D : Nat → Prop) (z : Nat) (a a' : Addr) (n c c' : Nat) : Prop :=
  a'.spot = none ∧ c ≤ c' ∧ ((∃ i, π a.block = some i ∧ a'.block = i.blk ∧ (∃ y, i.esz = some y ∧ zOf y = z) ∧ ((a'.off = i.sh + a.off ∧ a'.off + c' * z = i.bsize) ∨ (n = 0 ∧ c = 0 ∧ c' = 0))) ∨ (π a.block = none ∧ D a.block))

/-- data, as the model has it: there is no address in it -/
inductive Rd (fr : Nat → Option (List Value)) : Value → Value → Prop
  | bool (b : Bool) : Rd fr (.bool b) (.bool b)
  | int (k : IntKind) (n : Int) : Rd fr (.int k n) (.int k n)
  | string (s : ByteArray) : Rd fr (.string s) (.string s)
  | ptr0 : Rd fr (.pointer none) (.pointer none)
  | sl0 (n c : Nat) (hn : n ≤ c) : Rd fr (.slice none n c) (.slice none n c)
  | map0 : Rd fr (.map none) (.map none)
  | nilFunc : Rd fr .nilFunc .nilFunc
  | nilIface : Rd fr .nilIface .nilIface
  | data {rows cs cs' : List Value} {z c' : Nat} {a' : Addr} (hr : RowsAre z rows cs) (hc : rows.length ≤ c') (hf : rows = [] ∨ (a'.spot = none ∧ ∃ cc, fr a'.block = some cc ∧ Win cc a'.off cs'))
      (hl : cs.length = cs'.length) (hcs : ∀ (i : Nat) v v', cs[i]? = some v → cs'[i]? = some v' → Rd fr v v') : Rd fr (dat rows) (.slice (some a') rows.length c')
  | data0 (n c : Nat) (hn : n = 0) : Rd fr (dat []) (.slice none n c)
  /-- a slice without room that is not nil -/
  | slz (a a' : Addr) (hs : a.spot = none) : Rd fr (.slice (some a) 0 0) (.slice (some a') 0 0)
def Rds (fr : Nat → Option (List Value)) (l l' : List Value) : Prop := l.length = l'.length ∧ ∀ (i : Nat) v v', l[i]? = some v → l'[i]? = some v' → Rd fr v v'
/-- a slice without room that is not nil -/
def noRoom : Value → Bool
  | .slice (some ⟨_, _, none⟩) n c => and (isZ n) (isZ c)
  | _ => false
theorem noRoom_eq {v : Value} (h : noRoom v = true) : ∃ a : Addr, v = .slice (some a) 0 0 ∧ a.spot = none := by
  unfold noRoom at h
  split at h
  · rename_i b o n c
    simp only [Bool.and_eq_true, isZ, beq_iff] at h
    obtain ⟨rfl, rfl⟩ := h
    exact ⟨_, rfl, rfl⟩
  · cases h
/-- no address in it, data and slices without room included -/
noncomputable def closed1 (v : Value) : Bool := (bare v || (asDat v).isSome) || noRoom v

theorem Rd.mono {fr fr' : Nat → Option (List Value)} (h : ∀ B cc, fr B = some cc → fr' B = some cc) {v v' : Value} (hv : Rd fr v v') : Rd fr' v v' := by
  induction hv with
  | bool b => exact .bool b
  | int k n => exact .int k n
  | string s => exact .string s
  | ptr0 => exact .ptr0
  | sl0 n c hn => exact .sl0 n c hn
  | map0 => exact .map0
  | nilFunc => exact .nilFunc
  | nilIface => exact .nilIface
  | data hr hc hf hl _ ih => exact .data hr hc (hf.imp id fun ⟨hs, cc, h1, h2⟩ => ⟨hs, cc, h _ _ h1, h2⟩) hl ih
  | data0 n c hn => exact .data0 n c hn
  | slz a a' hs => exact .slz a a' hs
theorem Rds.mono {fr fr' : Nat → Option (List Value)} (h : ∀ B cc, fr B = some cc → fr' B = some cc) {l l' : List Value} (hv : Rds fr l l') : Rds fr' l l' := ⟨hv.1, fun i v v' h1 h2 => (hv.2 i v v' h1 h2).mono h⟩
theorem Rd.oneA {fr : Nat → Option (List Value)} {v v' : Value} (h : Rd fr v v') : Abs.oneA v = true := by cases h <;> rfl
theorem Rd.one' {fr : Nat → Option (List Value)} {v v' : Value} (h : Rd fr v v') : v'.oneCell' = true := by cases h <;> rfl
theorem Rds.take {fr : Nat → Option (List Value)} {l l' : List Value} (n : Nat) (h : Rds fr l l') : Rds fr (l.take n) (l'.take n) :=
  ⟨by simp [h.1], fun i v v' h1 h2 => by
    rw [List.getElem?_take] at h1 h2
    split at h1
    · rename_i hi; rw [if_pos hi] at h2; exact h.2 i v v' h1 h2
    · cases h1⟩
theorem Rds.drop {fr : Nat → Option (List Value)} {l l' : List Value} (n : Nat) (h : Rds fr l l') : Rds fr (l.drop n) (l'.drop n) :=
  ⟨by simp [h.1], fun i v v' h1 h2 => by
    rw [List.getElem?_drop] at h1 h2
    exact h.2 _ v v' h1 h2⟩
theorem Rds.nil {fr : Nat → Option (List Value)} : Rds fr [] [] := ⟨rfl, fun i v v' h _ => by simp at h⟩
theorem Rds.cons {fr : Nat → Option (List Value)} {v v' : Value} {l l' : List Value} (h : Rd fr v v') (hl : Rds fr l l') : Rds fr (v :: l) (v' :: l') :=
  ⟨by simp [hl.1], fun i u u' h1 h2 => by
    cases i with
    | zero => simp at h1 h2; subst h1; subst h2; exact h
    | succ i => simp at h1 h2; exact hl.2 i u u' h1 h2⟩
theorem Rds.append {fr : Nat → Option (List Value)} {l l' m m' : List Value} (h : Rds fr l l') (h' : Rds fr m m') : Rds fr (l ++ m) (l' ++ m') :=
  ⟨by simp [h.1, h'.1], fun i v v' h1 h2 => by
    by_cases hi : i < l.length
    · rw [List.getElem?_append_left hi] at h1
      rw [List.getElem?_append_left (h.1 ▸ hi)] at h2
      exact h.2 i v v' h1 h2
    · rw [List.getElem?_append_right (by omega)] at h1
      rw [List.getElem?_append_right (by have := h.1; omega), ← h.1] at h2
      exact h'.2 _ v v' h1 h2⟩
theorem Rds.oneA {fr : Nat → Option (List Value)} {l l' : List Value} (h : Rds fr l l') : ∀ v ∈ l, Abs.oneA v = true := fun v hv => by
  obtain ⟨i, hi, rfl⟩ := List.getElem_of_mem hv
  have hi' : i < l'.length := h.1 ▸ hi
  exact (h.2 i _ l'[i] (List.getElem?_eq_getElem hi) (List.getElem?_eq_getElem hi')).oneA
theorem Rd.nil {fr : Nat → Option (List Value)} (a' : Addr) (c' : Nat) : Rd fr (dat []) (.slice (some a') 0 c') :=
  .data (z := 0) (cs := []) (cs' := []) (rows := []) rfl (Nat.zero_le _) (.inl rfl) rfl (fun i v v' h _ => by simp at h)

/-- a value, as the model has it -/
inductive VR (π : PMap) (D : Nat → Prop) : Value → Value → Prop
  | bool (b : Bool) : VR π D (.bool b) (.bool b)
  | int (k : IntKind) (n : Int) : VR π D (.int k n) (.int k n)
  | float (k : FloatKind) (b : Nat) : VR π D (.float k b) (.float k b)
  | complex (k : FloatKind) (x y : Nat) : VR π D (.complex k x y) (.complex k x y)
  | string (s : ByteArray) : VR π D (.string s) (.string s)
  | ptr0 : VR π D (.pointer none) (.pointer none)
  | ptr {a a' : Addr} (hs : a.spot = none) (h : AR π D a a') : VR π D (.pointer (some a)) (.pointer (some a'))
  | sl0 (n c : Nat) (hn : n ≤ c) : VR π D (.slice none n c) (.slice none n c)
  | sl {a a' : Addr} (n c : Nat) (hn : n ≤ c) (hs : a.spot = none) (h : AR π D a a') : VR π D (.slice (some a) n c) (.slice (some a') n c)
  | slz (a a' : Addr) (hs : a.spot = none) : VR π D (.slice (some a) 0 0) (.slice (some a') 0 0)
  | slo {a a' : Addr} {s : Nat} (n c c' : Nat) (hn : n ≤ c) (hs : a.spot = some s) (h : OpenR π D s a a' n c c') : VR π D (.slice (some a) n c) (.slice (some a') n c')
  | map0 : VR π D (.map none) (.map none)
  | map {r r' : Nat} (h : (∃ i, π r = some i ∧ r' = i.blk) ∨ (π r = none ∧ D r)) : VR π D (.map (some r)) (.map (some r'))
  | func (fn : Fn) {f c f' c' : List Value} (hf : f.length = f'.length) (hfs : ∀ (i : Nat) v v', f[i]? = some v → f'[i]? = some v' → VR π D v v')
      (hc : c.length = c'.length) (hcs : ∀ (i : Nat) v v', c[i]? = some v → c'[i]? = some v' → VR π D v v') : VR π D (.func fn ⟨f⟩ ⟨c⟩) (.func fn ⟨f'⟩ ⟨c'⟩)
  | nilFunc : VR π D .nilFunc .nilFunc
  | iface (t : TypeId) {v v' : Value} (h : VR π D v v') : VR π D (.iface t v) (.iface t v')
  | nilIface : VR π D .nilIface .nilIface
  | agg {c c' : List Value} (hc : c.length = c'.length) (h1 : ∀ v ∈ c, oneA v = true) (hcs : ∀ (i : Nat) v v', c[i]? = some v → c'[i]? = some v' → VR π D v v') : VR π D (.agg ⟨c⟩) (.agg ⟨c'⟩)
  | tuple {c c' : List Value} (h1 : isDatL c = false) (hc : c.length = c'.length) (hcs : ∀ (i : Nat) v v', c[i]? = some v → c'[i]? = some v' → VR π D v v') : VR π D (.tuple ⟨c⟩) (.tuple ⟨c'⟩)
  /-- data -/
  | data {rows : List Value} {v' : Value} (h : Rd π.fr (dat rows) v') : VR π D (dat rows) v'
  | dataP {cs cs' : List Value} {a' : Addr} (hs : a'.spot = none) (hf : ∃ cc, π.fr a'.block = some cc ∧ Win cc a'.off cs') (h : Rds π.fr cs cs') : VR π D (datP cs) (.pointer (some a'))
  /-- of what was never set nothing is said -/
  | any (v' : Value) : VR π D unk v'

/-- lists of values -/
def VRs (π : PMap) (D : Nat → Prop) (l l' : List Value) : Prop := l.length = l'.length ∧ ∀ (i : Nat) v v', l[i]? = some v → l'[i]? = some v' → VR π D v v'

/-- what else a step may do to where blocks lie: new ones, and ended ones are forgotten -/
structure PStep (π : PMap) (D : Nat → Prop) (π' : PMap) (D' : Nat → Prop) : Prop where
  loc : ∀ k i, π k = some i → π' k = some i ∨ (π' k = none ∧ D' k)
  dead : ∀ k, π k = none → D k → π' k = none ∧ D' k
  fr : ∀ B cc, π.fr B = some cc → π'.fr B = some cc

theorem PStep.refl (π : PMap) (D : Nat → Prop) : PStep π D π D := ⟨fun _ _ h => .inl h, fun _ h d => ⟨h, d⟩, fun _ _ h => h⟩
theorem PStep.trans {π π₁ π₂ : PMap} {D D₁ D₂ : Nat → Prop} (h : PStep π D π₁ D₁) (h' : PStep π₁ D₁ π₂ D₂) : PStep π D π₂ D₂ :=
  ⟨fun k i hk => by
    rcases h.1 k i hk with h1 | ⟨h1, h2⟩
    · exact h'.1 k i h1
    · exact .inr (h'.2 k h1 h2), fun k hk hd => h'.2 k (h.2 k hk hd).1 (h.2 k hk hd).2, fun B cc hf => h'.3 B cc (h.3 B cc hf)⟩

theorem AR.mono {π π' : PMap} {D D' : Nat → Prop} (h : PStep π D π' D') {a a' : Addr} (ha : AR π D a a') : AR π' D' a a' := by
  refine ⟨ha.1, ?_⟩
  rcases ha.2 with ⟨i, h1, h2, h3⟩ | ⟨h1, h2⟩
  · rcases h.1 _ _ h1 with h4 | h4
    · exact .inl ⟨i, h4, h2, h3⟩
    · exact .inr h4
  · exact .inr (h.2 _ h1 h2)
theorem OpenR.mono {π π' : PMap} {D D' : Nat → Prop} (h : PStep π D π' D') {z : Nat} {a a' : Addr} {n c c' : Nat} (ha : OpenR π D z a a' n c c') : OpenR π' D' z a a' n c c' := by
  refine ⟨ha.1, ha.2.1, ?_⟩
  rcases ha.2.2 with ⟨i, h1, h2⟩ | ⟨h1, h2⟩
  · rcases h.1 _ _ h1 with h4 | h4
    · exact .inl ⟨i, h4, h2⟩
    · exact .inr h4
  · exact .inr (h.2 _ h1 h2)
theorem VR.mono {π π' : PMap} {D D' : Nat → Prop} (h : PStep π D π' D') {v v' : Value} (hv : VR π D v v') : VR π' D' v v' := by
  induction hv with
  | bool b => exact .bool b
  | int k n => exact .int k n
  | float k b => exact .float k b
  | complex k x y => exact .complex k x y
  | string s => exact .string s
  | ptr0 => exact .ptr0
  | ptr hs ha => exact .ptr hs (ha.mono h)
  | sl0 n c hn => exact .sl0 n c hn
  | sl n c hn hs ha => exact .sl n c hn hs (ha.mono h)
  | slz a a' hs => exact .slz a a' hs
  | slo n c c' hn hs ha => exact .slo n c c' hn hs (ha.mono h)
  | map0 => exact .map0
  | map hr =>
    refine .map ?_
    rcases hr with ⟨i, h1, h2⟩ | ⟨h1, h2⟩
    · rcases h.1 _ _ h1 with h4 | h4
      · exact .inl ⟨i, h4, h2⟩
      · exact .inr h4
    · exact .inr (h.2 _ h1 h2)
  | func fn hf _ hc _ ihf ihc => exact .func fn hf ihf hc ihc
  | nilFunc => exact .nilFunc
  | iface t _ ih => exact .iface t ih
  | nilIface => exact .nilIface
  | agg hc h1 _ ih => exact .agg hc h1 ih
  | tuple h1 hc _ ih => exact .tuple h1 hc ih
  | data hd => exact .data (hd.mono h.3)
  | dataP hs hf hd => exact .dataP hs (hf.imp fun cc h1 => ⟨h.3 _ _ h1.1, h1.2⟩) (hd.mono h.3)
  | any v => exact .any v
theorem VRs.mono {π π' : PMap} {D D' : Nat → Prop} (h : PStep π D π' D') {l l' : List Value} (hv : VRs π D l l') : VRs π' D' l l' :=
  ⟨hv.1, fun i v v' h1 h2 => (hv.2 i v v' h1 h2).mono h⟩

section lists
variable {π : PMap} {D : Nat → Prop}
theorem VRs.nil : VRs π D [] [] := ⟨rfl, fun i v v' h _ => by simp at h⟩
theorem VRs.cons {v v' : Value} {l l' : List Value} (h : VR π D v v') (hl : VRs π D l l') : VRs π D (v :: l) (v' :: l') :=
  ⟨by simp [hl.1], fun i u u' h1 h2 => by
    cases i with
    | zero => simp at h1 h2; subst h1; subst h2; exact h
    | succ i => simp at h1 h2; exact hl.2 i u u' h1 h2⟩
theorem VRs.head {v v' : Value} {l l' : List Value} (h : VRs π D (v :: l) (v' :: l')) : VR π D v v' := h.2 0 v v' rfl rfl
theorem VRs.tail {v v' : Value} {l l' : List Value} (h : VRs π D (v :: l) (v' :: l')) : VRs π D l l' :=
  ⟨by simpa using h.1, fun i u u' h1 h2 => h.2 (i + 1) u u' (by simpa using h1) (by simpa using h2)⟩
theorem VRs.split {v : Value} {l l' : List Value} (h : VRs π D (v :: l) l') : ∃ v' r, l' = v' :: r ∧ VR π D v v' ∧ VRs π D l r := by
  cases l' with
  | nil => simp [VRs] at h
  | cons v' r => exact ⟨v', r, rfl, h.head, h.tail⟩
theorem VRs.empty {l' : List Value} (h : VRs π D [] l') : l' = [] := by
  have := h.1
  simp at this
  exact List.eq_nil_of_length_eq_zero this.symm
theorem VRs.one {v v' : Value} (h : VR π D v v') : VRs π D [v] [v'] := .cons h .nil
theorem VRs.append {l l' m m' : List Value} (h : VRs π D l l') (h' : VRs π D m m') : VRs π D (l ++ m) (l' ++ m') :=
  ⟨by simp [h.1, h'.1], fun i v v' h1 h2 => by
    by_cases hi : i < l.length
    · rw [List.getElem?_append_left hi] at h1
      rw [List.getElem?_append_left (h.1 ▸ hi)] at h2
      exact h.2 i v v' h1 h2
    · rw [List.getElem?_append_right (by omega)] at h1
      rw [List.getElem?_append_right (by have := h.1; omega), ← h.1] at h2
      exact h'.2 _ v v' h1 h2⟩
theorem VRs.take {l l' : List Value} (n : Nat) (h : VRs π D l l') : VRs π D (l.take n) (l'.take n) :=
  ⟨by simp [h.1], fun i v v' h1 h2 => by
    rw [List.getElem?_take] at h1 h2
    split at h1
    · rename_i hi; rw [if_pos hi] at h2; exact h.2 i v v' h1 h2
    · cases h1⟩
theorem VRs.drop {l l' : List Value} (n : Nat) (h : VRs π D l l') : VRs π D (l.drop n) (l'.drop n) :=
  ⟨by simp [h.1], fun i v v' h1 h2 => by
    rw [List.getElem?_drop] at h1 h2
    exact h.2 _ v v' h1 h2⟩
theorem VRs.get {l l' : List Value} (h : VRs π D l l') {i : Nat} {v : Value} (hv : l[i]? = some v) : ∃ v', l'[i]? = some v' ∧ VR π D v v' := by
  have hi : i < l.length := (List.getElem?_eq_some_iff.1 hv).1
  have hi' : i < l'.length := h.1 ▸ hi
  exact ⟨l'[i], by rw [List.getElem?_eq_getElem hi'], h.2 i v _ hv (by rw [List.getElem?_eq_getElem hi'])⟩
theorem VRs.mapped {α : Type} {f g : α → Value} (l : List α) (h : ∀ x ∈ l, VR π D (f x) (g x)) : VRs π D (l.map f) (l.map g) := by
  induction l with
  | nil => exact .nil
  | cons a l ih => exact .cons (h a (by simp)) (ih fun x hx => h x (by simp [hx]))
theorem VRs.flatten_replicate {l l' : List Value} (h : VRs π D l l') : ∀ n, VRs π D (List.replicate n l).flatten (List.replicate n l').flatten
  | 0 => by simpa using VRs.nil
  | n + 1 => by rw [List.replicate_succ, List.flatten_cons, List.replicate_succ, List.flatten_cons]; exact h.append (VRs.flatten_replicate h n)
end lists

/-! ### what is in memory -/

def MapR (π : PMap) (D : Nat → Prop) (es es' : List MapEntry) : Prop :=
  es.length = es'.length ∧ ∀ (i : Nat) e e', es[i]? = some e → es'[i]? = some e' → VR π D e.key e'.key ∧ VR π D e.val e'.val ∧ e.born = e'.born

def ObjR (π : PMap) (D : Nat → Prop) (i : PI) (w : World) : AObj → Prop
  | .cells c esz org ro _ => ∃ cc elem fz, w.heap[i.blk]? = some (.cells cc elem fz) ∧ cc.size = i.bsize ∧ i.sh + c.length ≤ i.bsize ∧
      (∀ v ∈ c, oneA v = true) ∧ VRs π D c ((cc.toList.drop i.sh).take c.length) ∧ (ro = false → ∀ x, x < i.bsize → ¬ (fz.1 ≤ x ∧ x < fz.2)) ∧
      i.esz = esz ∧ i.org = org ∧ i.ro = ro ∧ i.len = c.length
  | .map es clock => ∃ es', w.heap[i.blk]? = some (.map es' clock) ∧ MapR π D es es'.toList ∧ i.ro = false ∧ i.esz = none
  | .iter s pos => w.heap[i.blk]? = some (.stringIter ⟨⟨s⟩⟩ pos) ∧ i.ro = false ∧ i.esz = none ∧ i.sh = 0

/-- a block of the model's of a known type: whole, or a row -/
def TypR (i : PI) (w : World) : Prop := ∀ c, i.ro = false → typedQ i.esz = some c → ∃ cc fz, w.heap[i.blk]? = some (.cells cc (half c) fz) ∧ (odd c = false → i.sh = 0 ∧ i.bsize = i.len)
theorem TypR.world {i : PI} {w w' : World} (h : TypR i w) (hw : w'.heap[i.blk]? = w.heap[i.blk]?) : TypR i w' := fun t hr ht => hw ▸ h t hr ht
theorem TypR.none {i : PI} {w : World} (h : i.esz = none) : TypR i w := fun t _ ht => by rw [h] at ht; cases ht
theorem typedQ_lt {z : Nat} (h : Nat.ble bigN z = false) : typedQ (some z) = none := by
  show iff (Nat.ble bigN z) (some (Nat.sub z bigN)) none = none
  rw [h]; rfl
theorem iffT {α : Type} (a b : α) : iff true a b = a := rfl
theorem subAdd (N c : Nat) : Nat.sub (Nat.add N c) N = c := Nat.add_sub_cancel_left ..
theorem bleAdd (N c : Nat) : Nat.ble N (Nat.add N c) = true := Nat.ble_eq_true_of_le (Nat.le_add_right _ _)
theorem iffAdd (N c : Nat) : iff (Nat.ble N (Nat.add N c)) (some (Nat.sub (Nat.add N c) N)) none = some c := by rw [bleAdd, subAdd]; rfl
theorem typedQ_some (z : Nat) : typedQ (some z) = iff (Nat.ble bigN z) (some (Nat.sub z bigN)) none := rfl
theorem typedQ_add (c : Nat) : typedQ (some (Nat.add bigN c)) = some c := (typedQ_some _).trans (iffAdd bigN c)
theorem iffAdd2 (N c y : Nat) (h : odd c = true) : iff (Nat.ble N (Nat.add N c)) (iff (odd (Nat.sub (Nat.add N c) N)) (nat_lit 1) y) y = 1 := by rw [bleAdd, subAdd, h]; rfl
theorem half_two (t : Nat) : half (2 * t) = t := by show 2 * t / 2 = t; omega
theorem half_odd (t : Nat) : half (2 * t).succ = t := by show (2 * t + 1) / 2 = t; omega
theorem odd_odd (t : Nat) : odd (2 * t).succ = true := by
  show Nat.beq ((2 * t + 1) % 2) 1 = true
  rw [show (2 * t + 1) % 2 = 1 by omega]; rfl
theorem zOf_lt {z : Nat} (h : Nat.ble bigN z = false) : zOf z = z := by unfold zOf; rw [h]; rfl
theorem zOf_row (t : Nat) : zOf (rowC t) = 1 := by
  unfold zOf rowC
  exact iffAdd2 bigN _ _ (odd_odd t)
theorem zOf_gen {N y z : Nat} (h : iff (Nat.ble N y) (iff (odd (Nat.sub y N)) (nat_lit 1) y) y = z) (hz : Nat.ble N z = false) :
    (y = z ∧ iff (Nat.ble N y) (some (Nat.sub y N)) none = none) ∨ (z = 1 ∧ ∃ c, iff (Nat.ble N y) (some (Nat.sub y N)) none = some c ∧ odd c = true) := by
  cases hb : Nat.ble N y with
  | false =>
    rw [hb] at h
    exact .inl ⟨h, rfl⟩
  | true =>
    rw [hb, iffT] at h
    cases ho : odd (Nat.sub y N) with
    | true => rw [ho, iffT] at h; exact .inr ⟨h.symm, _, iffT _ _, ho⟩
    | false =>
      rw [ho] at h
      have h : y = z := h
      rw [h, hz] at hb; cases hb
/-- what a row may be told as -/
theorem zOf_inv {y z : Nat} (h : zOf y = z) (hz : Nat.ble bigN z = false) : (y = z ∧ typedQ (some y) = none) ∨ (z = 1 ∧ ∃ c, typedQ (some y) = some c ∧ odd c = true) := by
  rw [typedQ_some]
  exact zOf_gen h hz
/-- so a row of elements of a type may be told -/
def RowOk (z e y : Nat) : Prop := zOf y = z ∧ ∀ c, typedQ (some y) = some c → odd c = true ∧ half c = e
theorem RowOk.small {z e : Nat} (hz : Nat.ble bigN z = false) : RowOk z e z := ⟨zOf_lt hz, fun c h => by rw [typedQ_lt hz] at h; cases h⟩
theorem RowOk.row (e : Nat) : RowOk 1 e (rowC e) := ⟨zOf_row e, fun c h => by
  rw [show typedQ (some (rowC e)) = some (2 * e).succ from typedQ_add _] at h
  cases h
  exact ⟨odd_odd e, half_odd e⟩⟩
theorem TypR.small {i : PI} {w : World} {z : Nat} (h : i.esz = some z) (hz : Nat.ble bigN z = false) : TypR i w := fun t _ ht => by rw [h, typedQ_lt hz] at ht; cases ht
structure Rel (π : PMap) (δ D : Nat → Prop) (H : Nat → Option AObj) (w : World) : Prop where
  obj : ∀ k i, π k = some i → ∃ o, H k = some o ∧ ObjR π D i w o
  kin : ∀ k i, π k = some i → i.org ≤ k ∧ (i.esz = none → i.org = k)
  frz : ∀ B cc, π.fr B = some cc → ∃ elem fz, w.heap[B]? = some (.cells ⟨cc⟩ elem fz)
  fro : ∀ k i, π k = some i → i.ro = false → π.fr i.blk = none
  sep : ∀ k₁ k₂ i₁ i₂, k₁ ≠ k₂ → π k₁ = some i₁ → π k₂ = some i₂ → i₁.blk = i₂.blk → (i₁.ro = true ∧ i₂.ro = true) ∨
    (i₁.ro = false ∧ i₂.ro = false ∧ i₁.org = i₂.org ∧ ((δ k₁ ∧ i₁.sh + i₁.len ≤ i₂.sh + i₂.len) ∨ (δ k₂ ∧ i₂.sh + i₂.len ≤ i₁.sh + i₁.len)))
  typ : ∀ k i, π k = some i → TypR i w

/-- what the abstract machine has, and beyond it what others made -/
noncomputable def ext (σ : ASt) (H : Nat → Option AObj) : Nat → Option AObj := fun k => if k < σ.next then σ.obj k else H k

def isDead : AObj → Bool
  | .cells _ _ _ _ d => d
  | _ => false
def deadIn (σ : ASt) (k : Nat) : Prop := ∃ o, σ.obj k = some o ∧ isDead o = true

def WF (σ : ASt) : Prop := ∀ k, σ.next ≤ k → σ.obj k = none

def kindOf : AObj → Nat
  | .cells .. => 0
  | .map .. => 1
  | .iter .. => 2

/-- what a step may do to a block that was there -/
inductive ObjStep (k low klow : Nat) : Option AObj → Option AObj → Prop
  | none : ObjStep k low klow none none
  | cells {c c' : List Value} {e : Option Nat} {org : Nat} {ro d d' : Bool} (hl : c'.length = c.length) (hd : d = true → d' = true ∧ c' = c) (hr : ro = true → c' = c ∧ d' = d)
      (hlow : low ≤ org ∨ c' = c) (hk : klow ≤ k ∨ d' = d) : ObjStep k low klow (some (.cells c e org ro d)) (some (.cells c' e org ro d'))
  | other {o p : AObj} (h : kindOf o = kindOf p) (h0 : kindOf o ≠ 0) (hlow : low ≤ k ∨ p = o) : ObjStep k low klow (some o) (some p)

structure Mono (σ σ' : ASt) : Prop where
  next : σ.next ≤ σ'.next
  low : σ'.low ≤ σ.low
  klow : σ'.klow ≤ σ.klow
  wf : WF σ → WF σ'
  step : ∀ k, k < σ.next → ObjStep k σ'.low σ'.klow (σ.obj k) (σ'.obj k)

/-- the model's world but for what is owned -/
structure Fr (π : PMap) (w w' : World) : Prop where
  os : w'.os = w.os
  tape : w'.tape = w.tape
  output : w'.output = w.output
  size : w.heap.size ≤ w'.heap.size
  keep : ∀ B, B < w.heap.size → (∀ k i, π k = some i → i.ro = false → i.blk ≠ B) → w'.heap[B]? = w.heap[B]?

/-- more blocks are data: new ones alone -/
def FrStep (π π' : PMap) (w : World) : Prop := (∀ B cc, π.fr B = some cc → π'.fr B = some cc) ∧ ∀ B cc, π'.fr B = some cc → π.fr B = some cc ∨ w.heap.size ≤ B
theorem FrStep.same {π π' : PMap} {w : World} (h : π'.fr = π.fr) : FrStep π π' w := ⟨fun _ _ hf => by rw [h]; exact hf, fun _ _ hf => .inl (by rw [← h]; exact hf)⟩
theorem FrStep.trans {π π' π'' : PMap} {w w' : World} (h : FrStep π π' w) (h' : FrStep π' π'' w') (hs : w.heap.size ≤ w'.heap.size) : FrStep π π'' w :=
  ⟨fun B cc hf => h'.1 B cc (h.1 B cc hf), fun B cc hf => by
    rcases h'.2 B cc hf with h1 | h1
    · exact h.2 B cc h1
    · exact .inr (Nat.le_trans hs h1)⟩
def grow (σ σ' : ASt) (δ : Nat → Prop) : Nat → Prop := fun k => δ k ∨ (deadIn σ' k ∧ ¬ deadIn σ k)

structure Pre (σ σ' : ASt) (π : PMap) (δ D : Nat → Prop) (H : Nat → Option AObj) (w : World) : Prop where
  rel : Rel π δ D (ext σ H) w
  wf : WF σ
  nle : σ.next ≤ σ'.next
  fresh : ∀ k, σ.next ≤ k → k < σ'.next → π k = none
  okf : ∀ k, δ k → k < σ.next ∨ σ'.next ≤ k
  okd : ∀ k i, δ k → π k = some i → σ'.next ≤ k ∨ (k < σ.next ∧ (deadIn σ k ∨ (¬ deadIn σ' k ∧ k < σ'.low)))
  far : ∀ k i, π k = some i → σ'.next ≤ k → i.org < σ'.low ∨ σ'.next ≤ i.org
  dead : ∀ k, D k → deadIn σ k ∨ σ'.next ≤ k

structure Post (σ σ' : ASt) (π : PMap) (δ D : Nat → Prop) (H : Nat → Option AObj) (w : World) (π' : PMap) (D' : Nat → Prop) (w' : World) : Prop where
  mono : Mono σ σ'
  rel : Rel π' (grow σ σ' δ) D' (ext σ' H) w'
  sub : ∀ k i, π' k = some i → π k = some i ∨ (π k = none ∧ σ.next ≤ k ∧ k < σ'.next)
  kept : ∀ k i, π k = some i → π' k = some i ∨ (π' k = none ∧ D' k ∧ σ'.low ≤ i.org ∧ i.org < σ'.next)
  dmono : ∀ k, D k → D' k
  dnew : ∀ k, D' k → D k ∨ (deadIn σ' k ∧ σ'.low ≤ k)
  kld : ∀ k, k < σ.next → deadIn σ' k → ¬ deadIn σ k → ∃ i, π k = some i
  kin : ∀ k i, π' k = some i → σ.next ≤ i.org ∨ ∃ k₀ i₀, π k₀ = some i₀ ∧ i₀.org = i.org
  blk : ∀ k i, π' k = some i → i.ro = false → (∃ k₀ i₀, π k₀ = some i₀ ∧ i₀.ro = false ∧ i₀.blk = i.blk) ∨ w.heap.size ≤ i.blk
  frs : FrStep π π' w
  fr : Fr π w w'

end Go.Abs

/- THE ABSTRACT MACHINE's MEMORY, STEP BY STEP: a new block, a write, an end; and how steps are put together. -/
namespace Go.Abs

theorem ObjStep.refl (k low klow : Nat) (o : Option AObj) : ObjStep k low klow o o := by
  cases o with
  | none => exact .none
  | some o =>
    cases o with
    | cells c e org ro d => exact .cells rfl (fun h => ⟨h, rfl⟩) (fun _ => ⟨rfl, rfl⟩) (.inr rfl) (.inr rfl)
    | map es cl => exact .other rfl (by simp [kindOf]) (.inr rfl)
    | iter s p => exact .other rfl (by simp [kindOf]) (.inr rfl)
theorem ObjStep.trans {k l₁ m₁ l₂ m₂ : Nat} {a b c : Option AObj} (hl : l₂ ≤ l₁) (hm : m₂ ≤ m₁) (h : ObjStep k l₁ m₁ a b) (h' : ObjStep k l₂ m₂ b c) : ObjStep k l₂ m₂ a c := by
  cases h with
  | none => cases h'; exact .none
  | cells hl1 hd1 hr1 hlow1 hk1 =>
    cases h' with
    | cells hl2 hd2 hr2 hlow2 hk2 =>
      refine .cells (hl2.trans hl1) (fun h => ?_) (fun h => ?_) ?_ ?_
      · obtain ⟨h1, h2⟩ := hd1 h
        obtain ⟨h3, h4⟩ := hd2 h1
        exact ⟨h3, h4.trans h2⟩
      · obtain ⟨h1, h2⟩ := hr1 h
        obtain ⟨h3, h4⟩ := hr2 h
        exact ⟨h3.trans h1, h4.trans h2⟩
      · rcases hlow1 with h1 | h1
        · exact .inl (Nat.le_trans hl h1)
        · rcases hlow2 with h2 | h2
          · exact .inl h2
          · exact .inr (h2.trans h1)
      · rcases hk1 with h1 | h1
        · exact .inl (Nat.le_trans hm h1)
        · rcases hk2 with h2 | h2
          · exact .inl h2
          · exact .inr (h2.trans h1)
    | other h h0 hlow => simp [kindOf] at h0
  | other h h0 hlow =>
    cases h' with
    | cells => rename_i o _ _ _ _ _ _ _ _ _ _ _ _; simp [kindOf] at h; exact absurd h h0
    | other h2 h02 hlow2 =>
      refine .other (h.trans h2) h0 ?_
      rcases hlow with h1 | h1
      · exact .inl (Nat.le_trans hl h1)
      · subst h1; exact hlow2

theorem Mono.refl (σ : ASt) : Mono σ σ := ⟨Nat.le_refl _, Nat.le_refl _, Nat.le_refl _, id, fun _ _ => .refl _ _ _ _⟩
theorem Mono.trans {σ σ₁ σ₂ : ASt} (h : Mono σ σ₁) (h' : Mono σ₁ σ₂) : Mono σ σ₂ :=
  ⟨Nat.le_trans h.next h'.next, Nat.le_trans h'.low h.low, Nat.le_trans h'.klow h.klow, fun hw => h'.wf (h.wf hw), fun k hk =>
    .trans h'.low h'.klow (h.step k hk) (h'.step k (Nat.lt_of_lt_of_le hk h.next))⟩

theorem deadIn_lt {σ : ASt} (hw : WF σ) {k : Nat} (h : deadIn σ k) : k < σ.next := by
  obtain ⟨o, ho, _⟩ := h
  rcases Nat.lt_or_ge k σ.next with h' | h'
  · exact h'
  · rw [hw k h'] at ho; cases ho
theorem Mono.dead {σ σ' : ASt} (h : Mono σ σ') (hw : WF σ) {k : Nat} (hd : deadIn σ k) : deadIn σ' k := by
  have hk := deadIn_lt hw hd
  obtain ⟨o, ho, hdead⟩ := hd
  have hs := h.step k hk
  rw [ho] at hs
  cases o with
  | cells c e org ro d =>
    generalize ho' : σ'.obj k = o' at hs
    cases hs with
    | cells hl hd2 hr hlow hk2 => exact ⟨_, ho', (hd2 hdead).1⟩
    | other h2 h0 _ => simp [kindOf] at h0
  | map es cl => cases hdead
  | iter s p => cases hdead

/-! ### putting steps together -/

section
variable {σ σ₁ σ₂ : ASt} {π π₁ π₂ : PMap} {δ D D₁ D₂ : Nat → Prop} {H : Nat → Option AObj} {w w₁ w₂ : World}

theorem Rel.weaken {δ' : Nat → Prop} (h : Rel π δ D H w) (hd : ∀ k, δ k → δ' k) : Rel π δ' D H w :=
  ⟨h.obj, h.kin, h.frz, h.fro, fun k₁ k₂ i₁ i₂ hne h1 h2 hb => by
    rcases h.sep k₁ k₂ i₁ i₂ hne h1 h2 hb with h3 | ⟨h3, h4, h5, h6⟩
    · exact .inl h3
    · exact .inr ⟨h3, h4, h5, h6.imp (fun h => ⟨hd _ h.1, h.2⟩) (fun h => ⟨hd _ h.1, h.2⟩)⟩, h.typ⟩

theorem Fr.refl (π : PMap) (w : World) : Fr π w w := ⟨rfl, rfl, rfl, Nat.le_refl _, fun _ _ _ => rfl⟩

theorem Post.pstep (hp : Pre σ σ₁ π δ D H w) (h : Post σ σ₁ π δ D H w π₁ D₁ w₁) : PStep π D π₁ D₁ :=
  ⟨fun k i hk => (h.kept k i hk).imp id (fun h => ⟨h.1, h.2.1⟩), fun k hk hd => by
    refine ⟨?_, h.dmono k hd⟩
    cases h1 : π₁ k with
    | none => rfl
    | some i =>
      rcases h.sub k i h1 with h2 | ⟨_, h2, _⟩
      · rw [hk] at h2; cases h2
      · rcases hp.dead k hd with h4 | h4
        · have := deadIn_lt hp.wf h4; omega
        · omega, h.frs.1⟩

theorem Pre.first (h : Pre σ σ₂ π δ D H w) (m₁ : Mono σ σ₁) (m₂ : Mono σ₁ σ₂) : Pre σ σ₁ π δ D H w :=
  ⟨h.rel, h.wf, m₁.next, fun k h1 h2 => h.fresh k h1 (Nat.lt_of_lt_of_le h2 m₂.next), fun k hk => (h.okf k hk).imp id (Nat.le_trans m₂.next), fun k i hd hk => by
    rcases h.okd k i hd hk with h1 | ⟨h1, h2⟩
    · exact .inl (Nat.le_trans m₂.next h1)
    · refine .inr ⟨h1, ?_⟩
      rcases h2 with h2 | ⟨h2, h3⟩
      · exact .inl h2
      · exact .inr ⟨fun hx => h2 (m₂.dead (m₁.wf h.wf) hx), Nat.lt_of_lt_of_le h3 m₂.low⟩, fun k i hk h1 => by
    rcases Nat.lt_or_ge k σ₂.next with h2 | h2
    · rw [h.fresh k (Nat.le_trans m₁.next h1) h2] at hk; cases hk
    · rcases h.far k i hk h2 with h3 | h3
      · exact .inl (Nat.lt_of_lt_of_le h3 m₂.low)
      · exact .inr (Nat.le_trans m₂.next h3), fun k hk => (h.dead k hk).imp id (Nat.le_trans m₂.next)⟩

theorem Pre.second (h : Pre σ σ₂ π δ D H w) (p : Post σ σ₁ π δ D H w π₁ D₁ w₁) (m₂ : Mono σ₁ σ₂) : Pre σ₁ σ₂ π₁ (grow σ σ₁ δ) D₁ H w₁ := by
  have hw1 := p.mono.wf h.wf
  refine ⟨p.rel, hw1, m₂.next, fun k h1 h2 => ?_, fun k hk => ?_, fun k i hd hk => ?_, fun k i hk h1 => ?_, fun k hk => ?_⟩
  · cases hk : π₁ k with
    | none => rfl
    | some i =>
      rcases p.sub k i hk with h3 | ⟨_, _, h3⟩
      · rw [h.fresh k (Nat.le_trans p.mono.next h1) h2] at h3; cases h3
      · omega
  · rcases hk with hk | ⟨hk, _⟩
    · exact (h.okf k hk).imp (fun h => Nat.lt_of_lt_of_le h p.mono.next) id
    · exact .inl (deadIn_lt hw1 hk)
  · rcases hd with hd | ⟨hd, _⟩
    · rcases p.sub k i hk with h3 | ⟨h3, h4, h5⟩
      · rcases h.okd k i hd h3 with h6 | ⟨h6, h7⟩
        · exact .inl h6
        · refine .inr ⟨Nat.lt_of_lt_of_le h6 p.mono.next, ?_⟩
          rcases h7 with h7 | h7
          · exact .inl (p.mono.dead h.wf h7)
          · exact .inr h7
      · rcases h.okf k hd with h6 | h6
        · omega
        · have := m₂.next; omega
    · exact .inr ⟨deadIn_lt hw1 hd, .inl hd⟩
  · rcases p.sub k i hk with h3 | ⟨_, _, h3⟩
    · exact h.far k i h3 h1
    · have := m₂.next; omega
  · rcases p.dnew k hk with h1 | h1
    · exact (h.dead k h1).imp (p.mono.dead h.wf) id
    · exact .inl h1.1

theorem Fr.trans (_hp : Pre σ σ₂ π δ D H w) (p : Post σ σ₁ π δ D H w π₁ D₁ w₁) {σ' σ'' : ASt} {δ' D' D'' : Nat → Prop} {H' : Nat → Option AObj} (q : Post σ' σ'' π₁ δ' D' H' w₁ π₂ D'' w₂) : Fr π w w₂ := by
  refine ⟨q.fr.os.trans p.fr.os, q.fr.tape.trans p.fr.tape, q.fr.output.trans p.fr.output, Nat.le_trans p.fr.size q.fr.size, fun B hB hu => ?_⟩
  rw [q.fr.keep B (Nat.lt_of_lt_of_le hB p.fr.size) fun k i hk hro hb => ?_, p.fr.keep B hB hu]
  rcases p.blk k i hk hro with ⟨k₀, i₀, h1, h2, h3⟩ | h1
  · exact hu k₀ i₀ h1 h2 (h3.trans hb)
  · omega

theorem Post.trans (hp : Pre σ σ₂ π δ D H w) (p : Post σ σ₁ π δ D H w π₁ D₁ w₁) (q : Post σ₁ σ₂ π₁ (grow σ σ₁ δ) D₁ H w₁ π₂ D₂ w₂) : Post σ σ₂ π δ D H w π₂ D₂ w₂ := by
  have hw1 := p.mono.wf hp.wf
  refine ⟨p.mono.trans q.mono, q.rel.weaken fun k hk => ?_, fun k i hk => ?_, fun k i hk => ?_, fun k hk => q.dmono k (p.dmono k hk), fun k hk => ?_, fun k hk h1 h2 => ?_, fun k i hk => ?_, fun k i hk hro => ?_, p.frs.trans q.frs p.fr.size, Fr.trans hp p q⟩
  · rcases hk with (hk | ⟨h1, h2⟩) | ⟨h1, h2⟩
    · exact .inl hk
    · exact .inr ⟨q.mono.dead hw1 h1, h2⟩
    · exact .inr ⟨h1, fun hx => h2 (p.mono.dead hp.wf hx)⟩
  · rcases q.sub k i hk with h1 | ⟨h1, h2, h3⟩
    · rcases p.sub k i h1 with h4 | ⟨h4, h5, h6⟩
      · exact .inl h4
      · exact .inr ⟨h4, h5, Nat.lt_of_lt_of_le h6 q.mono.next⟩
    · have h4 := Nat.le_trans p.mono.next h2
      exact .inr ⟨hp.fresh k h4 h3, h4, h3⟩
  · rcases p.kept k i hk with h1 | ⟨h1, h2, h3⟩
    · rcases q.kept k i h1 with h4 | h4
      · exact .inl h4
      · exact .inr h4
    · refine .inr ⟨?_, q.dmono k h2, Nat.le_trans q.mono.low h3.1, Nat.lt_of_lt_of_le h3.2 q.mono.next⟩
      cases h4 : π₂ k with
      | none => rfl
      | some j =>
        rcases q.sub k j h4 with h5 | ⟨_, h5, h6⟩
        · rw [h1] at h5; cases h5
        · rw [hp.fresh k (Nat.le_trans p.mono.next h5) h6] at hk; cases hk
  · rcases q.dnew k hk with h1 | h1
    · rcases p.dnew k h1 with h2 | h2
      · exact .inl h2
      · exact .inr ⟨q.mono.dead hw1 h2.1, Nat.le_trans q.mono.low h2.2⟩
    · exact .inr h1
  · by_cases h3 : deadIn σ₁ k
    · exact p.kld k hk h3 h2
    · obtain ⟨i, hi⟩ := q.kld k (Nat.lt_of_lt_of_le hk p.mono.next) h1 h3
      rcases p.sub k i hi with h4 | ⟨_, h4, _⟩
      · exact ⟨i, h4⟩
      · omega
  · rcases q.kin k i hk with h1 | ⟨k₀, i₀, h1, h2⟩
    · exact .inl (Nat.le_trans p.mono.next h1)
    · rcases p.kin k₀ i₀ h1 with h3 | ⟨k₁, i₁, h3, h4⟩
      · exact .inl (h2 ▸ h3)
      · exact .inr ⟨k₁, i₁, h3, h4.trans h2⟩
  · rcases q.blk k i hk hro with ⟨k₀, i₀, h1, h2, h3⟩ | h1
    · rcases p.blk k₀ i₀ h1 h2 with ⟨k₁, i₁, h4, h5, h6⟩ | h4
      · exact .inl ⟨k₁, i₁, h4, h5, h6.trans h3⟩
      · exact .inr (h3 ▸ h4)
    · exact .inr (Nat.le_trans p.fr.size h1)

theorem Post.refl (hp : Pre σ σ π δ D H w) : Post σ σ π δ D H w π D w :=
  ⟨.refl σ, hp.rel.weaken fun _ h => .inl h, fun _ _ h => .inl h, fun _ _ h => .inl h, fun _ h => h, fun _ h => .inl h, fun _ _ h h' => absurd h h',
    fun k i h => .inr ⟨k, i, h, rfl⟩, fun k i h hr => .inl ⟨k, i, h, hr, rfl⟩, FrStep.same rfl, .refl π w⟩

/-- a draw moves a count alone -/
theorem Rel.drew (h : Rel π δ D H w) : Rel π δ D H w.drew :=
  ⟨fun k i hk => by
    obtain ⟨o, ho, hr⟩ := h.obj k i hk
    refine ⟨o, ho, ?_⟩
    cases o <;> exact hr, h.kin, h.frz, h.fro, h.sep, fun k i hk => (h.typ k i hk).world rfl⟩
end
end Go.Abs

/- THE ABSTRACT MACHINE's MEMORY: a new block, a write, an end of a block, held against the model's. -/
namespace Go.Abs

/-! ### the model's side -/

def putRow (w : World) (B : Nat) (cc : Array Value) (elem : TypeId) (fz : Nat × Nat) : World := { w with heap := w.heap.setIfInBounds B (.cells cc elem fz) }
def putObj (w : World) (B : Nat) (o : Obj) : World := { w with heap := w.heap.setIfInBounds B o }

theorem putObj_same {w : World} {B : Nat} {o : Obj} (h : B < w.heap.size) : (putObj w B o).heap[B]? = some o := by simp [putObj, h]
theorem putObj_other {w : World} {B C : Nat} {o : Obj} (h : C ≠ B) : (putObj w B o).heap[C]? = w.heap[C]? := by
  simp only [putObj]; rw [Array.getElem?_setIfInBounds_ne (Ne.symm h)]

theorem blk_lt {w : World} {B : Nat} {o : Obj} (h : w.heap[B]? = some o) : B < w.heap.size := (Array.getElem?_eq_some_iff.1 h).1

/-- vs in the place of what begins at x -/
def put1 (cc : Array Value) (x : Nat) (vs : List Value) : Array Value := ⟨cc.toList.take x ++ vs ++ cc.toList.drop (x + vs.length)⟩

theorem put1_size {cc : Array Value} {x : Nat} {vs : List Value} (h : x + vs.length ≤ cc.size) : (put1 cc x vs).size = cc.size := by
  have : cc.toList.length = cc.size := rfl
  simp only [put1, List.size_toArray, List.length_append, List.length_take, List.length_drop]
  omega

theorem run_storeCells {P : Program} (B : Nat) (elem : TypeId) (fz : Nat × Nat) (x : Nat) : ∀ (vs : List Value) (i : Nat) (cc : Array Value) (w : World), w.heap[B]? = some (.cells cc elem fz) →
    (∀ v ∈ vs, v.oneCell' = true) → x + i + vs.length ≤ cc.size → (∀ y, x + i ≤ y → y < x + i + vs.length → ¬ (fz.1 ≤ y ∧ y < fz.2)) →
    (storeCells ⟨B, x, none⟩ vs i).run P w = .ok () (putObj w B (.cells (put1 cc (x + i) vs) elem fz)) := by
  intro vs
  induction vs with
  | nil =>
    intro i cc w hB _ _ _
    simp only [storeCells, Sem.run_pure]
    congr 1
    have hlt := blk_lt hB
    have : put1 cc (x + i) [] = cc := by simp [put1]
    rw [this, putObj]
    have h2 : w.heap.setIfInBounds B (.cells cc elem fz) = w.heap := by
      apply Array.ext_getElem?
      intro j
      by_cases hj : B = j
      · subst hj; rw [Array.getElem?_setIfInBounds_self_of_lt hlt, hB]
      · rw [Array.getElem?_setIfInBounds_ne hj]
    rw [h2]
  | cons v vs ih =>
    intro i cc w hB h1 hr hf
    have hlt := blk_lt hB
    have hsz : cc.toList.length = cc.size := rfl
    simp only [List.length_cons] at hr hf
    have hadd : (Addr.mk B x none).add i = ⟨B, x + i, none⟩ := by
      unfold Addr.add; split
      · rename_i h; subst h; rfl
      · rfl
    have hc : w.cell? ⟨B, x + i, none⟩ = some cc[x + i] := by
      simp only [World.cell?, hB, Option.isSome_none, Bool.false_eq_true, if_false]
      rw [Array.getElem?_eq_getElem]
    have hfr : w.frozen? ⟨B, x + i, none⟩ = false := by
      have := hf (x + i) (Nat.le_refl _) (by omega)
      simp only [World.frozen?, hB]
      rw [Bool.eq_false_iff]
      intro h
      simp only [Bool.and_eq_true, decide_eq_true_eq] at h
      exact this h
    have hset : w.setCell ⟨B, x + i, none⟩ v = putObj w B (.cells (cc.setIfInBounds (x + i) v) elem fz) := by
      have hh : w.heap[B]'hlt = .cells cc elem fz := by
        have := hB; rw [Array.getElem?_eq_getElem hlt] at this; exact Option.some.inj this
      simp only [World.setCell, putObj]
      congr 1
      apply Array.ext_getElem?
      intro j
      rw [Array.getElem?_modify, Array.getElem?_setIfInBounds]
      by_cases hj : B = j
      · subst hj; rw [if_pos rfl, if_pos rfl, if_pos hlt, hB]; rfl
      · rw [if_neg hj, if_neg hj]
    simp only [storeCells, Sem.run_bind, hadd]
    rw [run_store P w _ v .plain (h1 v (by simp)), hc]
    simp only [hfr, Bool.false_eq_true, if_false, Result.andThen_ok]
    rw [hset, ih (i + 1) (cc.setIfInBounds (x + i) v) _ (putObj_same hlt) (fun u hu => h1 u (by simp [hu])) (by simp; omega) (fun y h2 h3 => hf y (by omega) (by omega))]
    congr 1
    simp only [putObj]
    congr 1
    apply Array.ext_getElem?
    intro j
    by_cases hj : B = j
    · subst hj
      rw [Array.getElem?_setIfInBounds_self_of_lt (by simpa using hlt), Array.getElem?_setIfInBounds_self_of_lt hlt]
      congr 2
      simp only [put1]
      congr 1
      rw [Array.toList_setIfInBounds, List.length_cons, show x + (i + 1) = (x + i) + 1 from by omega, show x + i + 1 + vs.length = x + i + (vs.length + 1) from by omega,
        List.take_set, List.drop_set, if_pos (by omega), List.take_succ_eq_append_getElem (by omega), List.set_append, if_neg (by simp; omega)]
      simp only [List.length_take, List.append_assoc]
      congr 1
      rw [show x + i - min (x + i) cc.toList.length = 0 from by omega]
      rfl
    · rw [Array.getElem?_setIfInBounds_ne hj, Array.getElem?_setIfInBounds_ne hj, Array.getElem?_setIfInBounds_ne hj]

theorem run_loadCellsFrom {P : Program} (B : Nat) (elem : TypeId) (fz : Nat × Nat) (x : Nat) (cc : Array Value) (w : World) (hB : w.heap[B]? = some (.cells cc elem fz)) : ∀ (n i : Nat) (acc : Array Value),
    x + i + n ≤ cc.size → (loadCellsFrom ⟨B, x, none⟩ i n acc).run P w = .ok ⟨acc.toList ++ (cc.toList.drop (x + i)).take n⟩ w := by
  intro n
  induction n with
  | zero => intro i acc _; simp [loadCellsFrom]
  | succ n ih =>
    intro i acc hr
    have hsz : cc.toList.length = cc.size := rfl
    have hadd : (Addr.mk B x none).add i = ⟨B, x + i, none⟩ := by
      unfold Addr.add; split
      · rename_i h; subst h; rfl
      · rfl
    have hc : w.cell? ⟨B, x + i, none⟩ = some cc[x + i] := by
      simp only [World.cell?, hB, Option.isSome_none, Bool.false_eq_true, if_false]
      rw [Array.getElem?_eq_getElem]
    simp only [loadCellsFrom, Sem.run_bind, hadd, run_load, hc, Result.andThen_ok]
    rw [ih (i + 1) _ (by omega)]
    congr 2
    rw [Array.toList_push, List.append_assoc, show x + (i + 1) = (x + i) + 1 from by omega, List.drop_eq_getElem_cons (i := x + i) (by omega), List.take_succ_cons]
    rfl

theorem run_loadCells {P : Program} {B : Nat} {elem : TypeId} {fz : Nat × Nat} {x n : Nat} {cc : Array Value} {w : World} (hB : w.heap[B]? = some (.cells cc elem fz)) (hr : x + n ≤ cc.size) :
    (loadCells ⟨B, x, none⟩ n).run P w = .ok ⟨(cc.toList.drop x).take n⟩ w := by
  unfold loadCells
  rw [run_loadCellsFrom B elem fz x cc w hB n 0 #[] (by omega)]
  simp

/-! ### the abstract side -/

theorem minN_eq (a b : Nat) : minN a b = min a b := by
  unfold minN; rw [iff_eq]
  by_cases h : a ≤ b
  · rw [if_pos ((ble_iff _ _).2 h), Nat.min_eq_left h]
  · rw [if_neg (fun h' => h ((ble_iff _ _).1 h')), Nat.min_eq_right (by omega)]

theorem obj_new (σ : ASt) (o : AObj) (k : Nat) : (σ.new o).obj k = if k = σ.next then some o else σ.obj k := by
  show (σ.heap.set σ.next o).get k = _; rw [Tr.get_set]; rfl
@[simp] theorem next_new (σ : ASt) (o : AObj) : (σ.new o).next = σ.next + 1 := rfl
@[simp] theorem low_new (σ : ASt) (o : AObj) : (σ.new o).low = σ.low := rfl
@[simp] theorem klow_new (σ : ASt) (o : AObj) : (σ.new o).klow = σ.klow := rfl

theorem mono_new (σ : ASt) (o : AObj) : Mono σ (σ.new o) :=
  ⟨Nat.le_succ _, Nat.le_refl _, Nat.le_refl _, fun hw k hk => by
    rw [obj_new, if_neg (by rw [next_new] at hk; omega)]; exact hw k (by rw [next_new] at hk; omega), fun k hk => by
    rw [obj_new, if_neg (by omega)]; exact .refl _ _ _ _⟩

theorem dead_new {σ : ASt} {o : AObj} {k : Nat} (hk : k ≠ σ.next) (h : deadIn (σ.new o) k) : deadIn σ k := by
  obtain ⟨q, h1, h2⟩ := h
  rw [obj_new, if_neg hk] at h1
  exact ⟨q, h1, h2⟩

theorem ObjR.mono {π π' : PMap} {D D' : Nat → Prop} {i : PI} {w w' : World} {o : AObj} (hs : PStep π D π' D') (hw : w'.heap[i.blk]? = w.heap[i.blk]?) (h : ObjR π D i w o) : ObjR π' D' i w' o := by
  cases o with
  | cells c e org ro d =>
    obtain ⟨cc, elem, fz, h1, h2, h3, h4, h5, h6⟩ := h
    exact ⟨cc, elem, fz, hw ▸ h1, h2, h3, h4, h5.mono hs, h6⟩
  | map es cl =>
    obtain ⟨es', h1, h2, h3⟩ := h
    exact ⟨es', hw ▸ h1, ⟨h2.1, fun i e e' a b => by obtain ⟨x, y, z⟩ := h2.2 i e e' a b; exact ⟨x.mono hs, y.mono hs, z⟩⟩, h3⟩
  | iter s p => exact ⟨hw ▸ h.1, h.2⟩

section
variable {σ σ' : ASt} {π : PMap} {δ D : Nat → Prop} {H : Nat → Option AObj} {w : World}

theorem Rel.lt (h : Rel π δ D H w) {k : Nat} {i : PI} (hk : π k = some i) : i.blk < w.heap.size := by
  obtain ⟨o, _, hr⟩ := h.obj k i hk
  cases o with
  | cells c e org ro d => obtain ⟨cc, elem, fz, h1, _⟩ := hr; exact blk_lt h1
  | map es cl => obtain ⟨es', h1, _⟩ := hr; exact blk_lt h1
  | iter s p => exact blk_lt hr.1

theorem heap_alloc (w : World) (O : Obj) (B : Nat) : (w.alloc O).heap[B]? = if B = w.heap.size then some O else w.heap[B]? := by
  show (w.heap.push O)[B]? = _
  rw [Array.getElem?_push]

theorem ext_new (σ : ASt) (o : AObj) (H : Nat → Option AObj) (k : Nat) : ext (σ.new o) H k = if k = σ.next then some o else ext σ H k := by
  unfold ext
  rw [next_new, obj_new]
  by_cases h : k = σ.next
  · rw [if_pos (by omega), if_pos h, if_pos h]
  · rw [if_neg h, if_neg h]
    by_cases h2 : k < σ.next
    · rw [if_pos (by omega), if_pos h2]
    · rw [if_neg (by omega), if_neg h2]

/-- **a new block** -/
theorem post_new {o : AObj} {O : Obj} {i : PI} (hp : Pre σ (σ.new o) π δ D H w) (hb : i.blk = w.heap.size) (ho : ObjR π D i (w.alloc O) o) (horg : i.org ≤ σ.next ∧ (i.esz = none → i.org = σ.next))
    (hkin : i.org = σ.next ∨ ∃ k₀ i₀, π k₀ = some i₀ ∧ i₀.org = i.org) (ht : TypR i (w.alloc O)) : Post σ (σ.new o) π δ D H w ⟨fun k => if k = σ.next then some i else π k, π.fr⟩ D (w.alloc O) := by
  have hn : π σ.next = none := hp.fresh _ (Nat.le_refl _) (Nat.lt_succ_self _)
  have hs : PStep π D ⟨fun k => if k = σ.next then some i else π k, π.fr⟩ D := ⟨fun k j hk => .inl (by
    show (if k = σ.next then some i else π k) = some j
    rw [if_neg (fun e => by rw [e, hn] at hk; cases hk)]; exact hk), fun k hk hd => ⟨by
    show (if k = σ.next then some i else π k) = none
    rw [if_neg (fun e => by
      rcases hp.dead k hd with h | h
      · have := deadIn_lt hp.wf h; omega
      · rw [next_new] at h; omega)]; exact hk, hd⟩, fun _ _ h => h⟩
  refine ⟨mono_new σ o, ⟨fun k j hk => ?_, fun k j hk => ?_, fun B cc hf => ?_, fun k j hk hro => ?_, fun k₁ k₂ i₁ i₂ hne h1 h2 hbb => ?_, fun k j hk => ?_⟩, fun k j hk => ?_, fun k j hk => .inl (by
    show (if k = σ.next then some i else π k) = some j
    rw [if_neg (fun e => by rw [e, hn] at hk; cases hk)]; exact hk), fun _ h => h, fun _ h => .inl h, fun k hk h1 h2 => absurd (dead_new (by omega) h1) h2, fun k j hk => ?_, fun k j hk hro => ?_, FrStep.same rfl,
    ⟨rfl, rfl, rfl, by simp, fun B hB _ => by rw [heap_alloc, if_neg (by omega)]⟩⟩
  · rw [ext_new]
    by_cases he : k = σ.next
    · rw [if_pos he]
      have hk' : (if k = σ.next then some i else π k) = some j := hk
      rw [if_pos he] at hk'
      cases hk'
      exact ⟨o, rfl, ho.mono hs rfl⟩
    · rw [if_neg he]
      have hk' : (if k = σ.next then some i else π k) = some j := hk
      rw [if_neg he] at hk'
      obtain ⟨q, h1, h2⟩ := hp.rel.obj k j hk'
      exact ⟨q, h1, h2.mono hs (by rw [heap_alloc, if_neg (by have := hp.rel.lt hk'; omega)])⟩
  · have hk' : (if k = σ.next then some i else π k) = some j := hk
    split at hk'
    · rename_i he; cases hk'; exact ⟨by omega, fun h => by have := horg.2 h; omega⟩
    · exact hp.rel.kin k j hk'
  · obtain ⟨el, fz, h1⟩ := hp.rel.frz B cc hf
    exact ⟨el, fz, by rw [heap_alloc, if_neg (by have := blk_lt h1; omega)]; exact h1⟩
  · have hk' : (if k = σ.next then some i else π k) = some j := hk
    split at hk'
    · cases hk'
      show π.fr i.blk = none
      cases hf : π.fr i.blk with
      | none => rfl
      | some cc =>
        obtain ⟨_, _, h1⟩ := hp.rel.frz _ _ hf
        have := blk_lt h1
        omega
    · exact hp.rel.fro k j hk' hro
  · have h1' : (if k₁ = σ.next then some i else π k₁) = some i₁ := h1
    have h2' : (if k₂ = σ.next then some i else π k₂) = some i₂ := h2
    by_cases e1 : k₁ = σ.next
    · rw [if_pos e1] at h1'
      rw [if_neg (by omega)] at h2'
      cases h1'
      have := hp.rel.lt h2'
      omega
    · rw [if_neg e1] at h1'
      by_cases e2 : k₂ = σ.next
      · rw [if_pos e2] at h2'
        cases h2'
        have := hp.rel.lt h1'
        omega
      · rw [if_neg e2] at h2'
        rcases hp.rel.sep k₁ k₂ i₁ i₂ hne h1' h2' hbb with h3 | ⟨h3, h4, h5, h6⟩
        · exact .inl h3
        · exact .inr ⟨h3, h4, h5, h6.imp (fun h => ⟨.inl h.1, h.2⟩) (fun h => ⟨.inl h.1, h.2⟩)⟩
  · have hk' : (if k = σ.next then some i else π k) = some j := hk
    split at hk'
    · cases hk'; exact ht
    · exact (hp.rel.typ k j hk').world (by rw [heap_alloc, if_neg (by have := hp.rel.lt hk'; omega)])
  · have hk' : (if k = σ.next then some i else π k) = some j := hk
    split at hk'
    · rename_i he; subst he; exact .inr ⟨hn, Nat.le_refl _, Nat.lt_succ_self _⟩
    · exact .inl hk'
  · have hk' : (if k = σ.next then some i else π k) = some j := hk
    split at hk'
    · cases hk'
      rcases hkin with h | h
      · exact .inl (by omega)
      · exact .inr h
    · exact .inr ⟨k, j, hk', rfl⟩
  · have hk' : (if k = σ.next then some i else π k) = some j := hk
    split at hk'
    · cases hk'; exact .inr (by omega)
    · exact .inl ⟨k, j, hk', hro, rfl⟩

/-! ### a write -/

theorem rowsOf_eq {o : AObj} {c : List Value} {e : Option Nat} {org : Nat} (h : rowsOf o = some (c, e, org)) : o = .cells c e org false false := by
  cases o with
  | cells c' e' org' ro d =>
    cases ro <;> cases d <;> simp [rowsOf] at h
    obtain ⟨rfl, rfl, rfl⟩ := h
    rfl
  | map es cl => cases h
  | iter s p => cases h
theorem rowOf_eq {o : AObj} {c : List Value} (h : rowOf o = some c) : ∃ e org ro, o = .cells c e org ro false := by
  cases o with
  | cells c' e' org' ro d =>
    cases d <;> simp [rowOf] at h
    subst h
    exact ⟨_, _, _, rfl⟩
  | map es cl => cases h
  | iter s p => cases h

theorem setAt_eq {k off : Nat} {vs : List Value} (h : σ.setAt k off vs = some σ') : ∃ c e org, σ.obj k = some (.cells c e org false false) ∧ off + vs.length ≤ c.length ∧
    σ' = ⟨σ.heap.set k (.cells (c.take off ++ vs ++ c.drop (off + vs.length)) e org false false), σ.next, min org σ.low, σ.klow⟩ := by
  obtain ⟨c, e, org, h1, h2⟩ := andThen3_eq h
  obtain ⟨o, h3, h4⟩ := andThen_eq h1
  obtain ⟨c', h5, h6⟩ := andThen_eq h2
  obtain ⟨h7, rfl⟩ := splice_eq vs off h5
  cases h6
  rw [rowsOf_eq h4] at h3
  exact ⟨c, e, org, h3, h7, by rw [ASt.lower, minN_eq]⟩

/-- a block is written anew -/
structure Rewrite (σ σ' : ASt) (k : Nat) (o : AObj) : Prop where
  next : σ'.next = σ.next
  klow : σ'.klow = σ.klow
  obj : ∀ j, σ'.obj j = if j = k then some o else σ.obj j

theorem rewrite_set (σ : ASt) (k : Nat) (o : AObj) (low : Nat) : Rewrite σ ⟨σ.heap.set k o, σ.next, low, σ.klow⟩ k o :=
  ⟨rfl, rfl, fun j => by show (σ.heap.set k o).get j = _; rw [Tr.get_set]; rfl⟩

theorem Rewrite.mono {k : Nat} {o q : AObj} (h : Rewrite σ σ' k q) (ho : σ.obj k = some o) (hl : σ'.low ≤ σ.low) (hs : ObjStep k σ'.low σ'.klow (some o) (some q)) : Mono σ σ' :=
  ⟨Nat.le_of_eq h.next.symm, hl, Nat.le_of_eq h.klow, fun hw j hj => by
    rw [h.next] at hj
    rw [h.obj]
    split
    · rename_i e; subst e; rw [hw _ hj] at ho; cases ho
    · exact hw j hj, fun j _ => by
    rw [h.obj]
    by_cases e : j = k
    · subst e; rw [if_pos rfl, ho]; exact hs
    · rw [if_neg e]; exact .refl _ _ _ _⟩

theorem Rewrite.ext {k : Nat} {q : AObj} (h : Rewrite σ σ' k q) (hk : k < σ.next) (H : Nat → Option AObj) (j : Nat) : ext σ' H j = if j = k then some q else ext σ H j := by
  unfold Go.Abs.ext
  rw [h.next, h.obj]
  by_cases e : j = k
  · subst e; rw [if_pos hk, if_pos rfl, if_pos rfl]
  · rw [if_neg e, if_neg e]

theorem Rewrite.dead {k : Nat} {o q : AObj} (h : Rewrite σ σ' k q) (ho : σ.obj k = some o) (hd : isDead q = isDead o) (j : Nat) : deadIn σ' j ↔ deadIn σ j := by
  unfold deadIn
  rw [h.obj]
  by_cases e : j = k
  · subst e; rw [if_pos rfl, ho]
    constructor
    · rintro ⟨x, hx, hy⟩; cases hx; exact ⟨o, rfl, hd ▸ hy⟩
    · rintro ⟨x, hx, hy⟩; cases hx; exact ⟨q, rfl, hd ▸ hy⟩
  · rw [if_neg e]

/-- what is owned and lies where this does, but for itself, is forgotten -/
noncomputable def forget (π : PMap) (k : Nat) (B : Nat) : PMap := ⟨fun j => @ite _ (j ≠ k ∧ ∃ i, π j = some i ∧ i.blk = B) (Classical.propDecidable _) none (π j), π.fr⟩
def forgotten (π : PMap) (k : Nat) (B : Nat) (D : Nat → Prop) : Nat → Prop := fun j => D j ∨ (j ≠ k ∧ ∃ i, π j = some i ∧ i.blk = B)

theorem forget_some {k B j : Nat} {i : PI} (h : forget π k B j = some i) : π j = some i ∧ (j = k ∨ i.blk ≠ B) := by
  simp only [forget] at h
  split at h
  · cases h
  · rename_i hn
    refine ⟨h, ?_⟩
    by_cases e : j = k
    · exact .inl e
    · exact .inr fun hb => hn ⟨e, i, h, hb⟩
theorem forget_or {k B j : Nat} {i : PI} (h : π j = some i) : forget π k B j = some i ∨ (forget π k B j = none ∧ j ≠ k ∧ i.blk = B) := by
  simp only [forget]
  split
  · rename_i hn
    obtain ⟨h1, i', h2, h3⟩ := hn
    rw [h] at h2; cases h2
    exact .inr ⟨rfl, h1, h3⟩
  · exact .inl h
theorem forget_none {k B j : Nat} (h : π j = none) : forget π k B j = none := by
  simp only [forget]; split
  · rfl
  · exact h
theorem forget_pstep (π : PMap) (k B : Nat) (D : Nat → Prop) : PStep π D (forget π k B) (forgotten π k B D) :=
  ⟨fun j i hj => by
    rcases forget_or (k := k) (B := B) hj with h | ⟨h, h1, h2⟩
    · exact .inl h
    · exact .inr ⟨h, .inr ⟨h1, i, hj, h2⟩⟩, fun j hj hd => ⟨forget_none hj, .inl hd⟩, fun _ _ h => h⟩

/-- **a block is written**: what lay in the same block of the model's has ended, and is forgotten -/
theorem post_write {k : Nat} {o q : AObj} {i : PI} {w' : World} (hp : Pre σ σ' π δ D H w) (hr : Rewrite σ σ' k q) (ho : σ.obj k = some o) (hi : π k = some i) (hro : i.ro = false)
    (halive : isDead o = false) (hd : isDead q = false) (hlow : σ'.low ≤ σ.low) (hlo : σ'.low ≤ i.org) (hs : ObjStep k σ'.low σ'.klow (some o) (some q)) {O : Obj} (hw : w' = putObj w i.blk O)
    (hq : ObjR (forget π k i.blk) (forgotten π k i.blk D) i w' q) (ht : TypR i w') : Post σ σ' π δ D H w (forget π k i.blk) (forgotten π k i.blk D) w' := by
  have hk : k < σ.next := by
    rcases Nat.lt_or_ge k σ.next with h | h
    · exact h
    · rw [hp.wf k h] at ho; cases ho
  have hkin := (hp.rel.kin k i hi).1
  have hblt := hp.rel.lt hi
  have hkd : ¬ δ k := fun hx => by
    rcases hp.okd k i hx hi with h | ⟨_, h | ⟨_, h⟩⟩
    · rw [hr.next] at h; omega
    · obtain ⟨x, hx, hy⟩ := h; rw [ho] at hx; cases hx; rw [halive] at hy; cases hy
    · omega
  have hz : ∀ j i₂, j ≠ k → π j = some i₂ → i₂.blk = i.blk → deadIn σ j ∧ i₂.org = i.org := fun j i₂ hne hj hb => by
    rcases hp.rel.sep k j i i₂ (Ne.symm hne) hi hj hb.symm with ⟨h1, _⟩ | ⟨_, _, h1, h2⟩
    · rw [hro] at h1; cases h1
    · have hdj : δ j := by
        rcases h2 with h2 | h2
        · exact absurd h2.1 hkd
        · exact h2.1
      refine ⟨?_, h1.symm⟩
      rcases hp.okd j i₂ hdj hj with h | ⟨_, h | ⟨_, h⟩⟩
      · exfalso
        rcases hp.far j i₂ hj h with h3 | h3
        · omega
        · rw [hr.next] at h3; omega
      · exact h
      · have := (hp.rel.kin j i₂ hj).1; omega
  have hdd := hr.dead ho (hd.trans halive.symm)
  have hps := forget_pstep π k i.blk D
  refine ⟨hr.mono ho hlow hs, ⟨fun j i₂ hj => ?_, fun j i₂ hj => hp.rel.kin j i₂ (forget_some hj).1, fun B cc hf => ?_, fun j i₂ hj hjr => hp.rel.fro j i₂ (forget_some hj).1 hjr, fun k₁ k₂ i₁ i₂ hne h1 h2 hb => ?_, fun j i₂ hj => ?_⟩, fun j i₂ hj => .inl (forget_some hj).1, fun j i₂ hj => ?_, fun j hj => .inl hj, fun j hj => ?_, fun j _ h1 h2 => absurd ((hdd j).1 h1) h2,
    fun j i₂ hj => .inr ⟨j, i₂, (forget_some hj).1, rfl⟩, fun j i₂ hj hjr => .inl ⟨j, i₂, (forget_some hj).1, hjr, rfl⟩, FrStep.same rfl, ?_⟩
  · rw [hr.ext hk]
    obtain ⟨h1, h2⟩ := forget_some hj
    by_cases e : j = k
    · subst e
      rw [hi] at h1; cases h1
      rw [if_pos rfl]
      exact ⟨q, rfl, hq⟩
    · rw [if_neg e]
      obtain ⟨x, hx, hy⟩ := hp.rel.obj j i₂ h1
      exact ⟨x, hx, hy.mono hps (by rw [hw, putObj_other (h2.resolve_left e)])⟩
  · obtain ⟨el, fz, h1⟩ := hp.rel.frz B cc hf
    exact ⟨el, fz, by rw [hw, putObj_other (fun e => by have h3 := hp.rel.fro k i hi hro; subst e; rw [show π.fr i.blk = some cc from hf] at h3; cases h3)]; exact h1⟩
  · rcases hp.rel.sep k₁ k₂ i₁ i₂ hne (forget_some h1).1 (forget_some h2).1 hb with h3 | ⟨h3, h4, h5, h6⟩
    · exact .inl h3
    · exact .inr ⟨h3, h4, h5, h6.imp (fun h => ⟨.inl h.1, h.2⟩) (fun h => ⟨.inl h.1, h.2⟩)⟩
  · obtain ⟨h1, h2⟩ := forget_some hj
    by_cases e : j = k
    · subst e
      rw [hi] at h1; cases h1
      exact ht
    · exact (hp.rel.typ j i₂ h1).world (by rw [hw, putObj_other (h2.resolve_left e)])
  · rcases forget_or (k := k) (B := i.blk) hj with h | ⟨h, h1, h2⟩
    · exact .inl h
    · exact .inr ⟨h, .inr ⟨h1, i₂, hj, h2⟩, by rw [(hz j i₂ h1 hj h2).2]; exact ⟨hlo, by rw [hr.next]; omega⟩⟩
  · rcases hj with h | ⟨h1, i₂, h2, h3⟩
    · exact .inl h
    · have hq := hz j i₂ h1 h2 h3
      have hkj := (hp.rel.kin j i₂ h2).1
      exact .inr ⟨(hdd j).2 hq.1, by omega⟩
  · rw [hw]
    refine ⟨rfl, rfl, rfl, by simp [putObj], fun B _ hu => putObj_other fun e => ?_⟩
    exact hu k i hi hro e.symm

/-- the alive block of a place that is related -/
theorem Pre.here (hp : Pre σ σ' π δ D H w) {k : Nat} {o : AObj} (ho : σ.obj k = some o) (halive : isDead o = false) (h : (∃ i, π k = some i) ∨ (π k = none ∧ D k)) : ∃ i, π k = some i ∧ ObjR π D i w o := by
  have hk : k < σ.next := by
    rcases Nat.lt_or_ge k σ.next with h | h
    · exact h
    · rw [hp.wf k h] at ho; cases ho
  rcases h with ⟨i, hi⟩ | ⟨_, hd⟩
  · obtain ⟨x, hx, hy⟩ := hp.rel.obj k i hi
    have : ext σ H k = σ.obj k := by unfold ext; rw [if_pos hk]
    rw [this, ho] at hx
    cases hx
    exact ⟨i, hi, hy⟩
  · rcases hp.dead k hd with ⟨x, hx, hy⟩ | h
    · rw [ho] at hx; cases hx; rw [halive] at hy; cases hy
    · have := hp.nle; omega

theorem flatten_window {cc : Array Value} {x off n : Nat} {vs : List Value} (h : off + vs.length ≤ n) (hn : x + n ≤ cc.size) :
    ((put1 cc (x + off) vs).toList.drop x).take n = ((cc.toList.drop x).take n).take off ++ vs ++ ((cc.toList.drop x).take n).drop (off + vs.length) := by
  have hsz : cc.toList.length = cc.size := rfl
  apply List.ext_getElem?
  intro j
  simp only [put1, List.getElem?_take, List.getElem?_drop, List.getElem?_append, List.length_append, List.length_take, List.length_drop]
  by_cases h1 : j < off
  · rw [if_pos (by omega), if_pos (by omega), if_pos (by omega), if_pos (by omega), if_pos (by omega), if_pos (by omega), if_pos (by omega), if_pos (by omega)]
  · by_cases h2 : j < off + vs.length
    · rw [if_pos (by omega), if_pos (by omega), if_neg (by omega), if_pos (by omega), if_neg (by omega)]
      congr 1
      omega
    · by_cases h3 : j < n
      · rw [if_pos h3, if_neg (by omega), if_neg (by omega), if_pos (by omega)]
        congr 1
        omega
      · rw [if_neg h3, if_neg (by omega), if_neg (by omega)]

/-- **cells are written** -/
theorem post_set {P : Program} {k off : Nat} {vs vs' : List Value} {a' : Addr} (hp : Pre σ σ' π δ D H w) (h : σ.setAt k off vs = some σ') (ha : AR π D ⟨k, off, none⟩ a') (hv : VRs π D vs vs')
    (h1 : ∀ v ∈ vs, oneA v = true) (h1' : ∀ v ∈ vs', v.oneCell' = true) : ∃ π' D' w', (storeCells a' vs').run P w = .ok () w' ∧ Post σ σ' π δ D H w π' D' w' := by
  obtain ⟨c, e, org, ho, hlen, rfl⟩ := setAt_eq h
  obtain ⟨i, hi, hobj⟩ := hp.here ho rfl (by
    rcases ha.2 with ⟨i, h1, _⟩ | h1
    · exact .inl ⟨i, h1⟩
    · exact .inr h1)
  have hobj0 := hobj
  obtain ⟨cc, elem, fz, hB, hsz, hle, h1c, hvs, hfz, hes, horg, hro, hl⟩ := hobj
  have haa : a' = ⟨i.blk, i.sh + off, none⟩ := by
    rcases ha.2 with ⟨j, h2, h3, h4⟩ | ⟨h2, _⟩
    · simp only at h2
      rw [hi] at h2; cases h2
      obtain ⟨b, o, s⟩ := a'
      have := ha.1
      simp only at this h3 h4
      subst this; subst h3; subst h4; rfl
    · simp only at h2; rw [hi] at h2; cases h2
  subst haa
  have hrun := run_storeCells (P := P) i.blk elem fz (i.sh + off) vs' 0 cc w hB h1' (by have := hv.1; omega) (fun y hy1 hy2 => hfz rfl y (by have := hv.1; omega))
  have hro' : i.ro = false := hro
  refine ⟨forget π k i.blk, forgotten π k i.blk D, _, hrun, ?_⟩
  have hcl : (c.take off ++ vs ++ c.drop (off + vs.length)).length = c.length := by simp; omega
  refine post_write hp (rewrite_set σ k _ _) ho hi hro' rfl rfl (Nat.min_le_right _ _) (by rw [horg]; exact Nat.min_le_left _ _)
    (.cells hcl (fun h => by cases h) (fun h => by cases h) (.inl (Nat.min_le_left _ _)) (.inr rfl)) rfl ?_ (fun t hrr ht => by
      obtain ⟨cc', fz', g1, g2⟩ := hp.rel.typ k i hi t hrr ht
      rw [hB] at g1; cases g1
      exact ⟨_, _, putObj_same (blk_lt hB), g2⟩)
  have hps := forget_pstep π k i.blk D
  refine ⟨put1 cc (i.sh + off + 0) vs', elem, fz, putObj_same (blk_lt hB), ?_, by rw [hcl]; exact hle, ?_, ?_, hfz, hes, horg, hro, by rw [hcl]; exact hl⟩
  · rw [put1_size (by have := hv.1; omega), hsz]
  · intro v hv2
    simp only [List.mem_append] at hv2
    rcases hv2 with (hv2 | hv2) | hv2
    · exact h1c v (List.mem_of_mem_take hv2)
    · exact h1 v hv2
    · exact h1c v (List.mem_of_mem_drop hv2)
  · rw [hcl, Nat.add_zero, flatten_window (by have := hv.1; omega) (by omega), ← hv.1]
    exact (((hvs.mono hps).take off).append (hv.mono hps)).append ((hvs.mono hps).drop _)
end
end Go.Abs

/- WHAT THE ABSTRACT MACHINE's OPERATIONS COMPUTE THAT LOOK AT NO MEMORY: the model's do the same, on the values that are theirs. -/
namespace Go.Abs

/-- a value without an address in it -/
def Const (v : Value) : Prop := ∀ π D, VR π D v v

/-- what the table says is so -/
structure TabTy (P : Program) (t : TypeId) (i : TI) : Prop where
  info : P.info? t = some i.info
  desc : P.underlying t = some i.desc
  size : i.size = i.info.size
  agg : i.agg = (match i.desc with | .struct _ | .array _ _ => true | _ => false)
  held : ∀ fs, i.desc = .struct fs → P.stoodInHeld t = i.held
  guard : P.eqGuardType P.depth t = i.guard
  zero : ∀ z, i.info.zero = some z → Const z
  small : Nat.ble bigN i.size = false

def TyOk (P : Program) (T : Tab) : Prop := ∀ t i, T.Y.get t = some i → TabTy P t i

section
variable {P : Program} {T : Tab} {π : PMap} {D : Nat → Prop}

theorem desc_eq {t : TypeId} {d : TypeDesc} (h : desc T t = some d) : ∃ i, T.Y.get t = some i ∧ i.desc = d := by
  obtain ⟨i, h1, h2⟩ := andThen_eq h
  cases h2
  exact ⟨i, h1, rfl⟩
theorem size_eq {t : TypeId} {n : Nat} (h : size T t = some n) : ∃ i, T.Y.get t = some i ∧ i.size = n := by
  obtain ⟨i, h1, h2⟩ := andThen_eq h
  cases h2
  exact ⟨i, h1, rfl⟩
theorem zero_eq {t : TypeId} {z : Value} (h : zero T t = some z) : ∃ i, T.Y.get t = some i ∧ i.info.zero = some z := andThen_eq h

theorem run_info (hT : TyOk P T) {t : TypeId} {i : TI} (h : T.Y.get t = some i) (w : World) : (typeInfo t).run P w = .ok i.info w := by
  simp [typeInfo, (hT t i h).info]
theorem run_size (hT : TyOk P T) {t : TypeId} {i : TI} (h : T.Y.get t = some i) (w : World) : (sizeOf t).run P w = .ok i.size w := by
  simp [sizeOf, run_info hT h, (hT t i h).size]
theorem run_size' (hT : TyOk P T) {t : TypeId} {n : Nat} (h : size T t = some n) (w : World) : (sizeOf t).run P w = .ok n w := by
  obtain ⟨i, h1, h2⟩ := size_eq h
  rw [run_size hT h1, h2]
theorem run_desc (hT : TyOk P T) {t : TypeId} {d : TypeDesc} (h : desc T t = some d) (w : World) : (underlying t).run P w = .ok d w := by
  obtain ⟨i, h1, h2⟩ := desc_eq h
  rw [run_underlying (hT t i h1).desc, h2]
theorem und_desc (hT : TyOk P T) {t : TypeId} {d : TypeDesc} (h : desc T t = some d) : P.underlying t = some d := by
  obtain ⟨i, h1, h2⟩ := desc_eq h
  rw [(hT t i h1).desc, h2]
theorem run_isAgg' (hT : TyOk P T) {t : TypeId} {i : TI} (h : T.Y.get t = some i) (w : World) : (isAgg t).run P w = .ok i.agg w := by
  simp only [isAgg, Sem.run_bind, run_underlying (hT t i h).desc, Result.andThen_ok, (hT t i h).agg]
  cases i.desc <;> rfl
theorem run_zero (hT : TyOk P T) {t : TypeId} {i : TI} (h : T.Y.get t = some i) {z : Value} (hz : i.info.zero = some z) (w : World) : (zeroValue t).run P w = .ok z w := by
  simp [zeroValue, run_info hT h, hz]
theorem zero_const (hT : TyOk P T) {t : TypeId} {i : TI} (h : T.Y.get t = some i) {z : Value} (hz : i.info.zero = some z) : Const z := (hT t i h).zero z hz

theorem oneCell_of_VR {v v' : Value} (h : VR π D v v') (h1 : oneA v = true) : v'.oneCell' = true := by
  cases h
  case tuple h2 _ _ => exact absurd ((show (false || isDatL _) = true from h1)) (by rw [h2]; simp)
  case data h2 => exact h2.one'
  all_goals first | rfl | exact h1 | cases h1
theorem oneCells {l l' : List Value} (h : VRs π D l l') (h1 : ∀ v ∈ l, oneA v = true) : ∀ v ∈ l', v.oneCell' = true := by
  intro v hv
  obtain ⟨i, hi, rfl⟩ := List.getElem_of_mem hv
  have hi' : i < l.length := by have := h.1; omega
  have := h.2 i l[i] l'[i] (by rw [List.getElem?_eq_getElem hi']) (by rw [List.getElem?_eq_getElem hi])
  exact oneCell_of_VR this (h1 _ (List.getElem_mem hi'))
theorem oneA_of {v : Value} (h : v.oneCell' = true) : oneA v = true := by unfold oneA; rw [h]; rfl

theorem VRs.of_agg {c : List Value} {v' : Value} (h : VR π D (.agg ⟨c⟩) v') : ∃ c', v' = .agg ⟨c'⟩ ∧ VRs π D c c' ∧ (∀ v ∈ c, oneA v = true) := by
  cases h with
  | agg hc h1 hcs => exact ⟨_, rfl, ⟨hc, hcs⟩, h1⟩
theorem VRs.agg {c c' : List Value} (h : VRs π D c c') (h1 : ∀ v ∈ c, oneA v = true) : VR π D (.agg ⟨c⟩) (.agg ⟨c'⟩) := .agg h.1 h1 h.2
theorem VRs.tuple {c c' : List Value} (h1 : isDatL c = false) (h : VRs π D c c') : VR π D (.tuple ⟨c⟩) (.tuple ⟨c'⟩) := .tuple h1 h.1 h.2

theorem tupElse_eq {α : Type} {x : Value} {f : List Value → Option α} {d : Option α} {v : α} (h : tupElse x f d = some v) : (∃ vs, x = .tuple vs ∧ f vs.toList = some v) ∨ d = some v := by
  cases x <;> first | exact .inl ⟨_, rfl, h⟩ | exact .inr h
theorem asA0_eq {v : Value} {l : List Value} (h : asA0 v = some l) : v = .agg ⟨l⟩ := by
  cases v <;> simp [asA0] at h
  subst h; rfl
theorem asT0_eq {v : Value} {l : List Value} (h : asT0 v = some l) : v = .tuple ⟨l⟩ := by
  cases v <;> simp [asT0] at h
  subst h; rfl
theorem datL_eq {vs : Array Value} {l : List Value} (h : datL vs.toList = some l) : Value.tuple vs = dat l := by
  obtain ⟨vs⟩ := vs
  match vs, h with
  | [v], h => rw [asA0_eq (show asA0 v = some l from h)]; rfl
theorem datPL_eq {vs : Array Value} {l : List Value} (h : datPL vs.toList = some l) : Value.tuple vs = datP l := by
  obtain ⟨vs⟩ := vs
  match vs, h with
  | [v], h => rw [asT0_eq (show asT0 v = some l from h)]; rfl

/-- what stands behind data -/
theorem VR.dat_rd {rows : List Value} {v' : Value} (h : VR π D (dat rows) v') : Rd π.fr (dat rows) v' := by
  generalize hd : dat rows = d at h
  cases h with
  | tuple h1 _ _ => unfold dat at hd; cases hd; cases h1
  | data h => exact h
  | dataP _ _ _ => unfold dat datP at hd; cases hd
  | any => unfold dat unk at hd; cases hd
  | _ => unfold dat at hd; cases hd
theorem Rd.dat_inv {fr : Nat → Option (List Value)} {rows : List Value} {v' : Value} (h : Rd fr (dat rows) v') : (rows = [] ∧ ∃ c, v' = .slice none 0 c) ∨
    ∃ cs cs' z c' a', v' = .slice (some a') rows.length c' ∧ RowsAre z rows cs ∧ rows.length ≤ c' ∧ (rows = [] ∨ (a'.spot = none ∧ ∃ cc, fr a'.block = some cc ∧ Win cc a'.off cs')) ∧ Rds fr cs cs' := by
  generalize hd : dat rows = d at h
  cases h with
  | @data rows2 cs cs' z c' a' hr hc hf hl hcs =>
    unfold dat at hd; cases hd
    exact .inr ⟨cs, cs', z, c', a', rfl, hr, hc, hf, hl, hcs⟩
  | data0 n c hn => subst hn; unfold dat at hd; cases hd; exact .inl ⟨rfl, c, rfl⟩
  | _ => unfold dat at hd; cases hd
theorem Rd.vr {v v' : Value} (h : Rd π.fr v v') : VR π D v v' := by
  cases h with
  | bool b => exact .bool b
  | int k n => exact .int k n
  | string s => exact .string s
  | ptr0 => exact .ptr0
  | sl0 n c hn => exact .sl0 n c hn
  | map0 => exact .map0
  | nilFunc => exact .nilFunc
  | nilIface => exact .nilIface
  | data hr hc hf hl hcs => exact .data (.data hr hc hf hl hcs)
  | data0 n c hn => exact .data (.data0 n c hn)
  | slz a a' hs => exact .slz a a' hs
theorem Rds.vrs {l l' : List Value} (h : Rds π.fr l l') : VRs π D l l' := ⟨h.1, fun i v v' h1 h2 => (h.2 i v v' h1 h2).vr⟩
theorem asDat_eq {v : Value} {l : List Value} (h : asDat v = some l) : v = dat l := by
  cases v <;> try (cases (show none = some l from h); done)
  exact datL_eq h
theorem VR.rd {v v' : Value} (h : VR π D v v') (hc : closed1 v = true) : Rd π.fr v v' := by
  unfold closed1 at hc
  rw [Bool.or_eq_true, Bool.or_eq_true] at hc
  rcases hc with (hc | hc) | hc
  · cases v <;> simp only [bare, reduceCtorEq] at hc
    case bool b => cases h; exact .bool b
    case int k n => cases h; exact .int k n
    case string s => cases h; exact .string s
    case nilIface => cases h; exact .nilIface
    case nilFunc => cases h; exact .nilFunc
    case pointer a => cases a <;> simp only [reduceCtorEq] at hc; cases h; exact .ptr0
    case slice a n c => cases a <;> simp only [reduceCtorEq] at hc; cases h with | sl0 _ _ hn => exact .sl0 n c hn
    case map a => cases a <;> simp only [reduceCtorEq] at hc; cases h; exact .map0
  · obtain ⟨l, hl⟩ := Option.isSome_iff_exists.1 hc
    rw [asDat_eq hl] at h ⊢
    exact h.dat_rd
  · obtain ⟨a, rfl, hs⟩ := noRoom_eq hc
    cases h with
    | sl n c hn _ _ => exact .slz _ _ hs
    | slz _ _ _ => exact .slz _ _ hs
    | slo n c c' hn hs2 _ => rw [hs] at hs2; cases hs2
theorem VRs.rds {l l' : List Value} (h : VRs π D l l') (hc : ∀ v ∈ l, closed1 v = true) : Rds π.fr l l' := ⟨h.1, fun i v v' h1 h2 => (h.2 i v v' h1 h2).rd (hc v (List.mem_of_getElem? h1))⟩
theorem VR.dat_inv {rows : List Value} {v' : Value} (h : VR π D (dat rows) v') : (rows = [] ∧ ∃ c, v' = .slice none 0 c) ∨
    ∃ cs cs' z c' a', v' = .slice (some a') rows.length c' ∧ RowsAre z rows cs ∧ rows.length ≤ c' ∧ (rows = [] ∨ (a'.spot = none ∧ ∃ cc, π.fr a'.block = some cc ∧ Win cc a'.off cs')) ∧ (∀ v ∈ cs, oneA v = true) ∧ VRs π D cs cs' ∧ Rds π.fr cs cs' := by
  rcases h.dat_rd.dat_inv with h | ⟨cs, cs', z, c', a', h1, h2, h3, h4, h5⟩
  · exact .inl h
  · exact .inr ⟨cs, cs', z, c', a', h1, h2, h3, h4, h5.oneA, h5.vrs, h5⟩
theorem VR.datp_inv {cs : List Value} {v' : Value} (h : VR π D (datP cs) v') :
    ∃ cs' a' cc, v' = .pointer (some a') ∧ a'.spot = none ∧ π.fr a'.block = some cc ∧ Win cc a'.off cs' ∧ (∀ v ∈ cs, oneA v = true) ∧ VRs π D cs cs' ∧ Rds π.fr cs cs' := by
  generalize hd : datP cs = d at h
  cases h with
  | tuple h1 _ _ => unfold datP at hd; cases hd; cases h1
  | data _ => unfold dat datP at hd; cases hd
  | @dataP cs2 cs' a' hs hf h1 =>
    unfold datP at hd; cases hd
    obtain ⟨cc, h3, h4⟩ := hf
    exact ⟨cs', a', cc, rfl, hs, h3, h4, h1.oneA, h1.vrs, h1⟩
  | any => unfold datP unk at hd; cases hd
  | _ => unfold datP at hd; cases hd

/-- the cells of a value -/
theorem sim_flat {v v' : Value} {vs : List Value} (h : flat v = some vs) (hv : VR π D v v') : VRs π D vs v'.cells.toList ∧ (∀ u ∈ vs, oneA u = true) := by
  cases hv
  case agg c c' hc h1 hcs => cases (show some c = some vs from h); exact ⟨⟨hc, hcs⟩, h1⟩
  case tuple c c' h1 hc hcs =>
    match c, h1, h with
    | [v], h1, h =>
      have h2 : flat1 v = some vs := h
      have h3 : isD1 v = false := h1
      cases v <;> first | (cases h3; done) | (cases h2; done)
    | [], _, h => cases (show none = some vs from h)
    | _ :: _ :: _, _, h => cases (show none = some vs from h)
  case any => cases (show none = some vs from h)
  case data rows hd =>
    cases (show some [dat rows] = some vs from h)
    refine ⟨?_, by simp [oneA, isDat, dat, isDatL, isD1]⟩
    rcases hd.dat_inv with ⟨_, c, rfl⟩ | ⟨_, _, _, _, _, rfl, _⟩
    · exact .one (.data hd)
    · exact .one (.data hd)
  case dataP cs cs' a' hs hf hd =>
    cases (show some [datP cs] = some vs from h)
    exact ⟨.one (.dataP hs hf hd), by simp [oneA, isDat, datP, isDatL, isD1]⟩
  all_goals simp only [flat, Option.some.injEq] at h
  all_goals (subst h; refine ⟨.one ?_, by simp [oneA, Value.oneCell']⟩)
  all_goals (first | exact .bool _ | exact .int _ _ | exact .float _ _ | exact .complex _ _ _ | exact .string _ | exact .ptr0 | (exact .ptr ‹_› ‹_›) | exact .sl0 _ _ ‹_› | (exact .sl _ _ ‹_› ‹_› ‹_›) | (exact .slz _ _ ‹_›) | (exact .slo _ _ _ ‹_› ‹_› ‹_›) | exact .map0 | (exact .map ‹_›) | (exact .func _ ‹_› ‹_› ‹_› ‹_›) | exact .nilFunc | (exact .iface _ ‹_›) | exact .nilIface)

theorem sub_VRs {l l' r : List Value} {off n : Nat} (h : sub l off n = some r) (hl : VRs π D l l') : VRs π D r ((l'.drop off).take n) ∧ ∀ v ∈ r, v ∈ l := by
  obtain ⟨_, rfl⟩ := sub_eq h
  exact ⟨(hl.drop off).take n, fun v hv => List.mem_of_mem_drop (List.mem_of_mem_take hv)⟩

theorem sim_part (hT : TyOk P T) {t : TypeId} {cs cs' : List Value} {off : Nat} {v : Value} (h : part T t cs off = some v) (hc : VRs π D cs cs') (h1 : ∀ u ∈ cs, oneA u = true) (w : World) :
    ∃ v', (Go.part t ⟨cs'⟩ off).run P w = .ok v' w ∧ VR π D v v' := by
  obtain ⟨i, hi, h2⟩ := andThen_eq h
  rw [iff_eq] at h2
  simp only [Go.part, Sem.run_bind, run_isAgg' hT hi, Result.andThen_ok]
  split at h2
  · rename_i ha
    obtain ⟨r, h3, h4⟩ := andThen_eq h2
    cases h4
    obtain ⟨h5, h6⟩ := sub_VRs h3 hc
    rw [ha]
    refine ⟨.agg ⟨(cs'.drop off).take i.size⟩, ?_, h5.agg fun u hu => h1 u (h6 u hu)⟩
    simp only [if_true, Sem.run_bind, run_size hT hi, Result.andThen_ok, Sem.run_pure]
    congr 2
    apply Array.ext'
    rw [Array.toList_extract]
    simp [List.extract_eq_take_drop]
  · rename_i ha
    rw [nthQ_eq] at h2
    obtain ⟨v', h3, h4⟩ := hc.get h2
    refine ⟨v', ?_, h4⟩
    simp only [ha]
    have : (⟨cs'⟩ : Array Value)[off]? = some v' := by simpa using h3
    rw [this]
    rfl

theorem asI_eq {v : Value} {k : IntKind} {n : Int} (h : asI v = some (k, n)) : v = .int k n := by
  cases v <;> simp [asI] at h
  obtain ⟨rfl, rfl⟩ := h; rfl
theorem asB_eq {v : Value} {b : Bool} (h : asB v = some b) : v = .bool b := by
  cases v <;> simp [asB] at h
  subst h; rfl
theorem asS_eq {v : Value} {l : List UInt8} (h : asS v = some l) : ∃ s, v = .string s ∧ s.data.toList = l := by
  cases v <;> simp [asS] at h
  subst h; exact ⟨_, rfl, rfl⟩
theorem asA_eq {v : Value} {l : List Value} (h : asA v = some l) : v = .agg ⟨l⟩ := by
  cases v <;> simp [asA] at h
  subst h; rfl
theorem asSl_eq {v : Value} {a : Option Addr} {n c : Nat} (h : asSl v = some (a, n, c)) : v = .slice a n c := by
  cases v <;> simp [asSl] at h
  obtain ⟨rfl, rfl, rfl⟩ := h; rfl
theorem asM_eq {v : Value} {r : Option Nat} (h : asM v = some r) : v = .map r := by
  cases v <;> simp [asM] at h
  subst h; rfl
theorem asPtr_eq {v : Value} {k off : Nat} (h : asPtr v = some (k, off)) : v = .pointer (some ⟨k, off, none⟩) := by
  cases v with
  | pointer a =>
    cases a with
    | none => simp [asPtr] at h
    | some a =>
      obtain ⟨b, o, s⟩ := a
      cases s <;> simp [asPtr, plain] at h
      obtain ⟨rfl, rfl⟩ := h; rfl
  | _ => simp [asPtr] at h

theorem VR.int_inv {k : IntKind} {n : Int} {v' : Value} (h : VR π D (.int k n) v') : v' = .int k n := by cases h; rfl
theorem VR.bool_inv {b : Bool} {v' : Value} (h : VR π D (.bool b) v') : v' = .bool b := by cases h; rfl
theorem VR.string_inv {s : ByteArray} {v' : Value} (h : VR π D (.string s) v') : v' = .string s := by cases h; rfl
theorem VR.ptr_inv {k off : Nat} {v' : Value} (h : VR π D (.pointer (some ⟨k, off, none⟩)) v') : ∃ a', v' = .pointer (some a') ∧ AR π D ⟨k, off, none⟩ a' := by
  cases h with
  | ptr hs ha => exact ⟨_, rfl, ha⟩

/-! ### numbers -/

theorem ofInt_toNat (k : IntKind) (x : Int) : (BitVec.ofInt k.bits x).toNat = toMod k x := by
  have h := toMod_eq k x
  rw [BitVec.toNat_ofInt]
  have h2 : ((2 ^ k.bits : Nat) : Int) = (2 ^ k.bits : Int) := by simp
  rw [h2, ← h]
  simp

theorem lt_pow (k : IntKind) (x : Int) : toMod k x < 2 ^ k.bits := by rw [← modOf_eq]; exact toMod_lt k x

theorem bits_ok {k : IntKind} {f : Nat → Nat → Nat} {x y : Int} (r : BitVec k.bits) (hr : r.toNat = f (toMod k x) (toMod k y)) : k.wrap r.toNat = ofMod k (f (toMod k x) (toMod k y)) := by
  rw [← hr, ofMod_eq]
  rw [modOf_eq]; exact r.isLt

theorem shiftQ_eq {k : IntKind} {x y : Int} {f : Nat → Option Value} {v : Value} (h : shiftQ k x y f = some v) : 0 ≤ y ∧ f (min y.toNat k.bits) = some v := by
  cases y with
  | negSucc m => cases (show none = some v from h)
  | ofNat n =>
    refine ⟨by simp, ?_⟩
    have h' : f (iff (Nat.ble n k.bits) n k.bits) = some v := h
    rw [iff_eq] at h'
    show f (min n k.bits) = some v
    rw [← h']
    by_cases hn : n ≤ k.bits
    · rw [if_pos ((ble_iff _ _).2 hn), Nat.min_eq_left hn]
    · rw [if_neg (fun h => hn ((ble_iff _ _).1 h)), Nat.min_eq_right (by omega)]

theorem sim_intOp {op : BinOp} {k k' : IntKind} {x y : Int} {v : Value} (h : intOp op k x y = some v) (hk : isShift op = true ∨ k = k') (t : TypeId) (w : World) : (Go.binOp op t (.int k x) (.int k' y)).run P w = .ok v w := by
  by_cases hs : isShift op = true
  · cases op <;> first | (cases hs; done) | skip
    all_goals
      simp only [intOp] at h
      obtain ⟨h1, h2⟩ := shiftQ_eq h
      simp only [Option.some.injEq] at h2
      subst h2
      simp only [Go.binOp, Op.shift, if_neg (Int.not_lt.2 h1), Sem.run_pure]
    · rw [wrapQ_eq]; congr 3
    · simp
  · obtain rfl := hk.resolve_left hs
    have hne : ∀ {a b : Sem Value}, (if k ≠ k then a else b) = b := fun {a b} => by simp
    cases op <;> first | (exact absurd rfl hs; done) | skip
    all_goals simp only [intOp, bitsOf, Option.some.injEq] at h
    case quo =>
      rw [iff_eq, eqQ_eq] at h
      split at h
      · cases h
      · rename_i hy
        have hy' : y ≠ 0 := by simpa using hy
        cases h
        simp only [Go.binOp, hne, Op.intDiv, if_neg hy', Sem.run_pure, wrapQ_eq]
    case rem =>
      rw [iff_eq, eqQ_eq] at h
      split at h
      · cases h
      · rename_i hy
        have hy' : y ≠ 0 := by simpa using hy
        cases h
        simp only [Go.binOp, hne, Op.intDiv, if_neg hy', Sem.run_pure]
    all_goals subst h
    all_goals simp only [Go.binOp, hne, Op.intArith, Op.intBits, Op.intCmp, Sem.run_pure, wrapQ_eq, eqQ_eq, leQ_eq]
    case add => rfl
    case sub => rfl
    case mul => rfl
    case and => rw [← bits_ok (BitVec.ofInt k.bits x &&& BitVec.ofInt k.bits y) (by rw [BitVec.toNat_and, ofInt_toNat, ofInt_toNat]; rfl)]
    case or => rw [← bits_ok (BitVec.ofInt k.bits x ||| BitVec.ofInt k.bits y) (by rw [BitVec.toNat_or, ofInt_toNat, ofInt_toNat]; rfl)]
    case xor => rw [← bits_ok (BitVec.ofInt k.bits x ^^^ BitVec.ofInt k.bits y) (by rw [BitVec.toNat_xor, ofInt_toNat, ofInt_toNat]; rfl)]
    case andNot =>
      rw [← bits_ok (BitVec.ofInt k.bits x &&& ~~~BitVec.ofInt k.bits y) (by
        rw [BitVec.toNat_and, BitVec.toNat_not, ofInt_toNat, ofInt_toNat, ← modOf_eq]; rfl)]
    case neq => congr 2
    case lss => congr 2; rw [Bool.eq_iff_iff]; simp
    case gtr => congr 2; rw [Bool.eq_iff_iff]; simp

/-! ### strings -/

theorem bytes_of {s : ByteArray} {l : List UInt8} (h : s.data.toList = l) : s = ⟨⟨l⟩⟩ := by obtain ⟨⟨x⟩⟩ := s; simp at h; subst h; rfl
theorem sz_of (l : List UInt8) : (ByteArray.mk ⟨l⟩).size = l.length := rfl
theorem toList_of (l : List UInt8) : (ByteArray.mk ⟨l⟩).toList = l := by rw [ByteArray.toList_eq]

theorem sim_strOp {op : BinOp} {x y : List UInt8} {v : Value} (h : strOp op x y = some v) (t : TypeId) (w : World) : (Go.binOp op t (.string ⟨⟨x⟩⟩) (.string ⟨⟨y⟩⟩)).run P w = .ok v w := by
  cases op <;> simp only [strOp, sameBytes, Option.some.injEq, reduceCtorEq] at h
  case add =>
    obtain ⟨h1, h2⟩ := iff_some h
    rw [ble_iff] at h1
    simp only [Option.some.injEq] at h2
    subst h2
    simp only [lenQ_eq] at h1
    have h1' : x.length + y.length ≤ 1000000000 := h1
    simp only [Go.binOp, Op.stringOp, sz_of]
    rw [if_neg (by simp only [IntKind.max, IntKind.bits, IntKind.signed, if_true]; omega)]
    simp only [Sem.run_pure]
    congr 2
  all_goals (subst h; simp only [Go.binOp, Op.stringOp, toList_of, Sem.run_pure])

/-! ### `==` -/

theorem isNilP_eq {v : Value} {b : Bool} (h : isNilP v = some b) : ∃ a, v = .pointer a ∧ a.isNone = b := by
  cases v <;> simp [isNilP] at h
  subst h; exact ⟨_, rfl, rfl⟩
theorem isNilI_eq {v : Value} {o : Option (TypeId × Value)} (h : isNilI v = some o) : (v = .nilIface ∧ o = none) ∨ ∃ t u, v = .iface t u ∧ o = some (t, u) := by
  cases v <;> simp [isNilI] at h
  · exact .inr ⟨_, _, rfl, h.symm⟩
  · exact .inl ⟨rfl, h.symm⟩
theorem isNilF_eq {v : Value} {b : Bool} (h : isNilF v = some b) : (v = .nilFunc ∧ b = true) ∨ ∃ fn f c, v = .func fn f c ∧ b = false := by
  cases v <;> simp [isNilF] at h
  · exact .inr ⟨_, _, _, rfl, h⟩
  · exact .inl ⟨rfl, h⟩
theorem eqNil_eq {a b c : Bool} (h : eqNil a b = some c) : (a = true ∧ b = c) ∨ (a = false ∧ b = true ∧ c = false) := by
  cases a <;> cases b <;> simp [eqNil] at h <;> simp [h]

theorem eqFields_run {d : Nat} (hT : TyOk P T) {f : TypeId → Value → Value → Option Bool}
    (hf : ∀ u a b r, f u a b = some r → ∀ a' b', VR π D a a' → VR π D b b' → ∀ w : World, (Op.equalIn d u a' b').run P w = .ok r w)
    {xs xs' ys ys' : List Value} (hx : VRs π D xs xs') (hy : VRs π D ys ys') (hx1 : ∀ u ∈ xs, oneA u = true) (hy1 : ∀ u ∈ ys, oneA u = true) (w : World) :
    ∀ (fs : List Field) (r : Bool), eqFields (eqPart T f xs ys) fs = some r → (Op.eqFields d ⟨xs'⟩ ⟨ys'⟩ fs).run P w = .ok r w
  | [], r, h => by simp only [eqFields, Option.some.injEq] at h; subst h; rfl
  | g :: fs, r, h => by
    simp only [eqFields] at h
    rw [iff_eq] at h
    simp only [Op.eqFields]
    split at h
    · rename_i hn
      rw [if_neg (by simpa using hn)]
      exact eqFields_run hT hf hx hy hx1 hy1 w fs r h
    · rename_i hn
      rw [if_pos (by simpa using hn)]
      obtain ⟨b, h1, h2⟩ := andThen_eq h
      obtain ⟨a1, h3, h4⟩ := andThen_eq h1
      obtain ⟨b1, h5, h6⟩ := andThen_eq h4
      obtain ⟨a2, h7, h8⟩ := sim_part hT h3 hx hx1 w
      obtain ⟨b2, h9, h10⟩ := sim_part hT h5 hy hy1 w
      simp only [Sem.run_bind, h7, h9, hf _ _ _ _ h6 _ _ h8 h10, Result.andThen_ok]
      rw [iff_eq] at h2
      cases b
      · simp only [Bool.false_eq_true, if_false, Option.some.injEq] at h2
        subst h2; rfl
      · simp only [if_true] at h2
        exact eqFields_run hT hf hx hy hx1 hy1 w fs r h2

/-- the loop of an array's comparison, as a recursion -/
def eqElems (d : Nat) (elem : TypeId) (n : Nat) (xs ys : Array Value) : Nat → Nat → Sem Bool
  | 0, _ => pure true
  | m + 1, i => do
    let a ← Go.part elem xs (i * n)
    let b ← Go.part elem ys (i * n)
    let r ← Op.equalIn d elem a b
    if (!r) = true then pure false else eqElems d elem n xs ys m (i + 1)

theorem run_equalIn_array {t elem : TypeId} {len n d : Nat} {xs ys : Array Value} (w : World) (ht : P.underlying t = some (.array len elem)) (hn : ∀ w, (sizeOf elem).run P w = .ok n w) :
    (Op.equalIn (d + 1) t (.agg xs) (.agg ys)).run P w = (eqElems d elem n xs ys len 0).run P w := by
  simp only [Op.equalIn, Sem.run_bind, run_underlying ht, Result.andThen_ok, hn]
  rw [Std.Legacy.Range.forIn_eq_forIn_range']
  simp only [Std.Legacy.Range.size, Nat.sub_zero, Nat.add_sub_cancel, Nat.div_one]
  generalize 0 = s
  clear ht
  induction len generalizing s w with
  | zero => simp [eqElems]
  | succ m ih =>
    simp only [List.range'_succ, List.forIn_cons, eqElems, Sem.run_bind]
    generalize (Go.part elem xs (s * n)).run P w = r1
    cases r1 with
    | ok a w1 =>
      simp only [Result.andThen_ok]
      generalize (Go.part elem ys (s * n)).run P w1 = r2
      cases r2 with
      | ok b w2 =>
        simp only [Result.andThen_ok]
        generalize (Op.equalIn d elem a b).run P w2 = r3
        cases r3 with
        | ok r w3 =>
          cases r
          · simp
          · simp only [Result.andThen_ok, Bool.not_true, Bool.false_eq_true, if_false, Sem.run_pure]
            exact ih w3 (s + 1)
        | halt x w3 => simp [Result.andThen]
      | halt x w2 => simp [Result.andThen]
    | halt x w1 => simp [Result.andThen]

theorem part_drop (hT : TyOk P T) {t : TypeId} {i : TI} (hi : T.Y.get t = some i) (l : List Value) (k : Nat) (w : World) : (Go.part t ⟨l.drop k⟩ 0).run P w = (Go.part t ⟨l⟩ k).run P w := by
  simp only [Go.part, Sem.run_bind, run_isAgg' hT hi, Result.andThen_ok]
  by_cases ha : i.agg = true
  · simp only [ha, if_true, Sem.run_bind, run_size hT hi, Result.andThen_ok, Sem.run_pure]
    congr 2
    apply Array.ext'
    simp [List.extract_eq_take_drop]
  · simp only [ha]
    have : (⟨l.drop k⟩ : Array Value)[0]? = (⟨l⟩ : Array Value)[k]? := by simp
    rw [this]
    rfl

theorem part_ty {t : TypeId} {cs : List Value} {off : Nat} {v : Value} (h : part T t cs off = some v) : ∃ i, T.Y.get t = some i := by
  obtain ⟨i, hi, _⟩ := andThen_eq h
  exact ⟨i, hi⟩

theorem eqArr_run {d : Nat} (hT : TyOk P T) {f : TypeId → Value → Value → Option Bool}
    (hf : ∀ u a b r, f u a b = some r → ∀ a' b', VR π D a a' → VR π D b b' → ∀ w : World, (Op.equalIn d u a' b').run P w = .ok r w)
    {elem : TypeId} {n : Nat} {xs' ys' : List Value} (w : World) :
    ∀ (m i : Nat) (xs ys : List Value) (r : Bool), VRs π D xs (xs'.drop (i * n)) → VRs π D ys (ys'.drop (i * n)) → (∀ u ∈ xs, oneA u = true) → (∀ u ∈ ys, oneA u = true) →
      eqArr (fun l r => eqPart T f l r elem 0) n m xs ys = some r → (eqElems d elem n ⟨xs'⟩ ⟨ys'⟩ m i).run P w = .ok r w
  | 0, i, xs, ys, r, _, _, _, _, h => by simp only [eqArr, Option.some.injEq] at h; subst h; rfl
  | m + 1, i, xs, ys, r, hx, hy, hx1, hy1, h => by
    simp only [eqArr] at h
    obtain ⟨b, h1, h2⟩ := andThen_eq h
    obtain ⟨a1, h3, h4⟩ := andThen_eq h1
    obtain ⟨b1, h5, h6⟩ := andThen_eq h4
    obtain ⟨j, hj⟩ := part_ty h3
    obtain ⟨a2, h7, h8⟩ := sim_part hT h3 hx hx1 w
    obtain ⟨b2, h9, h10⟩ := sim_part hT h5 hy hy1 w
    rw [part_drop hT hj] at h7 h9
    simp only [eqElems, Sem.run_bind, h7, h9, hf _ _ _ _ h6 _ _ h8 h10, Result.andThen_ok]
    rw [iff_eq] at h2
    cases b
    · simp only [Bool.false_eq_true, if_false, Option.some.injEq] at h2
      subst h2; rfl
    · simp only [if_true, dropQ_eq] at h2
      simp only [Bool.not_true, Bool.false_eq_true, if_false]
      refine eqArr_run hT hf w m (i + 1) _ _ r ?_ ?_ (fun u hu => hx1 u (List.mem_of_mem_drop hu)) (fun u hu => hy1 u (List.mem_of_mem_drop hu)) h2
      · have := hx.drop n; rw [List.drop_drop] at this; rwa [show (i + 1) * n = i * n + n from by rw [Nat.succ_mul]]
      · have := hy.drop n; rw [List.drop_drop] at this; rwa [show (i + 1) * n = i * n + n from by rw [Nat.succ_mul]]

theorem eqInts_run {d : Nat} {elem : TypeId} {k0 : IntKind} (he : P.underlying elem = some (.int k0)) (ha : ∀ w : World, (isAgg elem).run P w = .ok false w) {xs' ys' : List Value} (w : World) :
    ∀ (m i : Nat) (xs ys : List Value) (r : Bool), VRs π D xs (xs'.drop i) → VRs π D ys (ys'.drop i) → eqInts m xs ys = some r → (eqElems (d + 1) elem 1 ⟨xs'⟩ ⟨ys'⟩ m i).run P w = .ok r w
  | 0, i, xs, ys, r, _, _, h => by simp only [eqInts, Option.some.injEq] at h; subst h; rfl
  | m + 1, i, xs, ys, r, hx, hy, h => by
    simp only [eqInts] at h
    obtain ⟨x, h1, h⟩ := andThen_eq h
    obtain ⟨y, h2, h⟩ := andThen_eq h
    obtain ⟨k, a, h3, h⟩ := andThen2_eq h
    obtain ⟨k', b, h4, h⟩ := andThen2_eq h
    obtain rfl := asI_eq h3
    obtain rfl := asI_eq h4
    obtain ⟨h5, h⟩ := iff_some h
    obtain rfl := (sameKind_iff _ _).1 h5
    rw [nthQ_eq] at h1 h2
    obtain ⟨x', h6, h7⟩ := hx.get h1
    obtain ⟨y', h8, h9⟩ := hy.get h2
    obtain rfl := h7.int_inv
    obtain rfl := h9.int_inv
    rw [List.getElem?_drop, Nat.add_zero] at h6 h8
    have p1 : (Go.part elem ⟨xs'⟩ (i * 1)).run P w = .ok (.int k a) w := by
      simp only [Go.part, Sem.run_bind, ha, Result.andThen_ok, Bool.false_eq_true, if_false, Nat.mul_one]
      have : (⟨xs'⟩ : Array Value)[i]? = some (.int k a) := by simpa using h6
      rw [this]; rfl
    have p2 : (Go.part elem ⟨ys'⟩ (i * 1)).run P w = .ok (.int k b) w := by
      simp only [Go.part, Sem.run_bind, ha, Result.andThen_ok, Bool.false_eq_true, if_false, Nat.mul_one]
      have : (⟨ys'⟩ : Array Value)[i]? = some (.int k b) := by simpa using h8
      rw [this]; rfl
    simp only [eqElems, Sem.run_bind, p1, p2, Result.andThen_ok, run_equalIn_int w d elem k k0 a b he]
    rw [eqQ_eq, iff_eq] at h
    cases hab : (a == b)
    · rw [hab] at h
      simp only [Bool.false_eq_true, if_false, Option.some.injEq] at h
      subst h; rfl
    · rw [hab] at h
      simp only [if_true, dropQ_eq] at h
      simp only [Bool.not_true, Bool.false_eq_true, if_false]
      refine eqInts_run he ha w m (i + 1) _ _ r ?_ ?_ h
      · have := hx.drop 1; rwa [List.drop_drop] at this
      · have := hy.drop 1; rwa [List.drop_drop] at this

section leaves
variable (w : World) (d : Nat) {t : TypeId}
theorem re_ptr0 {e : TypeId} (h : P.underlying t = some (.pointer e)) (b : Option Addr) : (Op.equalIn (d + 1) t (.pointer none) (.pointer b)).run P w = .ok b.isNone w := by
  simp only [Op.equalIn, Sem.run_bind, run_underlying h, Result.andThen_ok, Sem.run_pure]
theorem re_ptr1 {e : TypeId} (h : P.underlying t = some (.pointer e)) (a : Addr) : (Op.equalIn (d + 1) t (.pointer (some a)) (.pointer none)).run P w = .ok false w := by
  simp only [Op.equalIn, Sem.run_bind, run_underlying h, Result.andThen_ok, Sem.run_pure]
theorem re_if00 {ms : Array (String × TypeId)} (h : P.underlying t = some (.interface ms)) : (Op.equalIn (d + 1) t .nilIface .nilIface).run P w = .ok true w := by
  simp only [Op.equalIn, Sem.run_bind, run_underlying h, Result.andThen_ok, Sem.run_pure]
theorem re_if01 {ms : Array (String × TypeId)} (h : P.underlying t = some (.interface ms)) (u : TypeId) (v : Value) : (Op.equalIn (d + 1) t .nilIface (.iface u v)).run P w = .ok false w := by
  simp only [Op.equalIn, Sem.run_bind, run_underlying h, Result.andThen_ok, Sem.run_pure]
theorem re_if10 {ms : Array (String × TypeId)} (h : P.underlying t = some (.interface ms)) (u : TypeId) (v : Value) : (Op.equalIn (d + 1) t (.iface u v) .nilIface).run P w = .ok false w := by
  simp only [Op.equalIn, Sem.run_bind, run_underlying h, Result.andThen_ok, Sem.run_pure]
theorem re_if11 {ms : Array (String × TypeId)} (h : P.underlying t = some (.interface ms)) {u u' : TypeId} (hu : u ≠ u') (v v' : Value) : (Op.equalIn (d + 1) t (.iface u v) (.iface u' v')).run P w = .ok false w := by
  simp only [Op.equalIn, Sem.run_bind, run_underlying h, Result.andThen_ok, Sem.run_pure, if_pos hu]
theorem re_ifs {ms : Array (String × TypeId)} (h : P.underlying t = some (.interface ms)) {u : TypeId} {i : TypeInfo} (hi : ∀ w : World, (typeInfo u).run P w = .ok i w) (hc : i.comparable = true) (v v' : Value) :
    (Op.equalIn (d + 1) t (.iface u v) (.iface u v')).run P w = (Op.equalIn d u v v').run P w := by
  simp only [Op.equalIn, Sem.run_bind, run_underlying h, Result.andThen_ok, ne_eq, not_true_eq_false, if_false, hi, hc, Bool.not_true, Bool.false_eq_true]
theorem re_sl0 {e : TypeId} (h : P.underlying t = some (.slice e)) (n c : Nat) (b : Option Addr) (n' c' : Nat) : (Op.equalIn (d + 1) t (.slice none n c) (.slice b n' c')).run P w = .ok b.isNone w := by
  simp only [Op.equalIn, Sem.run_bind, run_underlying h, Result.andThen_ok, Sem.run_pure]
theorem re_sl1 {e : TypeId} (h : P.underlying t = some (.slice e)) (a : Addr) (n c n' c' : Nat) : (Op.equalIn (d + 1) t (.slice (some a) n c) (.slice none n' c')).run P w = .ok false w := by
  simp only [Op.equalIn, Sem.run_bind, run_underlying h, Result.andThen_ok, Sem.run_pure]
theorem re_map0 {k e : TypeId} (h : P.underlying t = some (.map k e)) (b : Option Nat) : (Op.equalIn (d + 1) t (.map none) (.map b)).run P w = .ok b.isNone w := by
  simp only [Op.equalIn, Sem.run_bind, run_underlying h, Result.andThen_ok, Sem.run_pure]
theorem re_map1 {k e : TypeId} (h : P.underlying t = some (.map k e)) (a : Nat) : (Op.equalIn (d + 1) t (.map (some a)) (.map none)).run P w = .ok false w := by
  simp only [Op.equalIn, Sem.run_bind, run_underlying h, Result.andThen_ok, Sem.run_pure]
theorem re_f00 {p q : Array TypeId} {v : Bool} (h : P.underlying t = some (.func p q v)) : (Op.equalIn (d + 1) t .nilFunc .nilFunc).run P w = .ok true w := by
  simp only [Op.equalIn, Sem.run_bind, run_underlying h, Result.andThen_ok, Sem.run_pure]
theorem re_f01 {p q : Array TypeId} {v : Bool} (h : P.underlying t = some (.func p q v)) (fn : Fn) (f c : Array Value) : (Op.equalIn (d + 1) t .nilFunc (.func fn f c)).run P w = .ok false w := by
  simp only [Op.equalIn, Sem.run_bind, run_underlying h, Result.andThen_ok, Sem.run_pure]
theorem re_f10 {p q : Array TypeId} {v : Bool} (h : P.underlying t = some (.func p q v)) (fn : Fn) (f c : Array Value) : (Op.equalIn (d + 1) t (.func fn f c) .nilFunc).run P w = .ok false w := by
  simp only [Op.equalIn, Sem.run_bind, run_underlying h, Result.andThen_ok, Sem.run_pure]
end leaves

theorem VR.ptr_none {v' : Value} (h : VR π D (.pointer none) v') : v' = .pointer none := by cases h; rfl
theorem VR.ptr_some {a : Addr} {v' : Value} (h : VR π D (.pointer (some a)) v') : ∃ a', v' = .pointer (some a') := by cases h; exact ⟨_, rfl⟩
theorem VR.sl_none {n c : Nat} {v' : Value} (h : VR π D (.slice none n c) v') : v' = .slice none n c := by cases h; rfl
theorem VR.sl_some {a : Addr} {n c : Nat} {v' : Value} (h : VR π D (.slice (some a) n c) v') : ∃ a' c', v' = .slice (some a') n c' := by cases h <;> exact ⟨_, _, rfl⟩
theorem VR.sl_le {a : Option Addr} {n c : Nat} {v' : Value} (h : VR π D (.slice a n c) v') : n ≤ c := by cases h <;> omega
theorem nilSl_ok {x x' : Value} {b : Bool} (h : nilSl x = some b) (hx : VR π D x x') : ∃ a n c, x' = .slice a n c ∧ a.isNone = b := by
  cases x with
  | slice a n c =>
    cases (show some a.isNone = some b from h)
    cases a with
    | none => exact ⟨_, _, _, hx.sl_none, rfl⟩
    | some a => obtain ⟨a', c', h1⟩ := hx.sl_some; exact ⟨_, _, _, h1, rfl⟩
  | tuple vs =>
    obtain ⟨rows, h1, h2⟩ := andThen_eq (show andThen (datL vs.toList) nilRows = some b from h)
    rw [datL_eq h1] at hx
    cases rows with
    | nil => cases h2
    | cons r rows =>
      cases (show some false = some b from h2)
      rcases hx.dat_inv with ⟨h3, _⟩ | ⟨_, _, _, _, _, h3, _⟩
      · cases h3
      · exact ⟨_, _, _, h3, rfl⟩
  | _ => cases (show none = some b from h)
theorem VR.map_none {v' : Value} (h : VR π D (.map none) v') : v' = .map none := by cases h; rfl
theorem VR.map_some {a : Nat} {v' : Value} (h : VR π D (.map (some a)) v') : ∃ a', v' = .map (some a') := by cases h; exact ⟨_, rfl⟩
theorem VR.nilIface_inv {v' : Value} (h : VR π D .nilIface v') : v' = .nilIface := by cases h; rfl
theorem VR.iface_inv {t : TypeId} {u v' : Value} (h : VR π D (.iface t u) v') : ∃ u', v' = .iface t u' ∧ VR π D u u' := by cases h; exact ⟨_, rfl, ‹_›⟩
theorem VR.nilFunc_inv {v' : Value} (h : VR π D .nilFunc v') : v' = .nilFunc := by cases h; rfl
theorem VR.func_inv {fn : Fn} {f c : Array Value} {v' : Value} (h : VR π D (.func fn f c) v') : ∃ f' c', v' = .func fn f' c' ∧ VRs π D f.toList f'.toList ∧ VRs π D c.toList c'.toList := by
  cases h with
  | func _ hf hfs hc hcs => exact ⟨_, _, rfl, ⟨hf, hfs⟩, ⟨hc, hcs⟩⟩

theorem sim_eqV (hT : TyOk P T) : ∀ (d n : Nat) (t : TypeId) (x y : Value) (r : Bool), eqV T d t x y = some r → ∀ x' y', VR π D x x' → VR π D y y' → ∀ w : World, (Op.equalIn (d + n + 1) t x' y').run P w = .ok r w
  | 0, _, _, _, _, _, h => by cases h
  | d + 1, n, t, x, y, r, h => by
    intro x' y' hx hy w
    rw [show d + 1 + n + 1 = (d + n + 1) + 1 from by omega]
    simp only [eqV] at h
    obtain ⟨i, hi, h⟩ := andThen_eq h
    have hd := (hT t i hi).desc
    have ih := sim_eqV hT d n
    generalize hdd : i.desc = dd at h hd
    cases dd <;> simp only [eqD] at h
    case bool =>
      obtain ⟨a, h1, g⟩ := andThen_eq h
      obtain ⟨b, h2, hf⟩ := andThen_eq g
      clear h g
      cases hf
      obtain rfl := asB_eq h1; obtain rfl := asB_eq h2
      obtain rfl := hx.bool_inv; obtain rfl := hy.bool_inv
      exact run_equalIn_bool' w _ t a b hd
    case int k =>
      obtain ⟨k1, a, h1, g⟩ := andThen2_eq h
      obtain ⟨k2, b, h2, g2⟩ := andThen2_eq g
      obtain ⟨h3, hf⟩ := iff_some g2
      clear h g g2
      cases hf
      obtain rfl := asI_eq h1; obtain rfl := asI_eq h2
      obtain rfl := hx.int_inv; obtain rfl := hy.int_inv
      obtain rfl := (sameKind_iff _ _).1 h3
      rw [run_equalIn_int w _ t k1 k a b hd, eqQ_eq]
    case string =>
      obtain ⟨a, h1, g⟩ := andThen_eq h
      obtain ⟨b, h2, hf⟩ := andThen_eq g
      clear h g
      cases hf
      obtain ⟨s1, rfl, hs1⟩ := asS_eq h1; obtain ⟨s2, rfl, hs2⟩ := asS_eq h2
      obtain rfl := hx.string_inv; obtain rfl := hy.string_inv
      subst hs1; subst hs2
      rw [run_equalIn_string w _ t s1 s2 hd, ByteArray.toList_eq, ByteArray.toList_eq]; rfl
    case pointer e =>
      obtain ⟨a, h1, g⟩ := andThen_eq h
      obtain ⟨b, h2, hf⟩ := andThen_eq g
      clear h g
      obtain ⟨p, rfl, hp⟩ := isNilP_eq h1
      obtain ⟨q, rfl, hq⟩ := isNilP_eq h2
      rcases eqNil_eq hf with ⟨h3, h4⟩ | ⟨h3, h4, h5⟩
      · rw [h3] at hp
        rw [h4] at hq
        cases p <;> simp at hp
        obtain rfl := hx.ptr_none
        cases q with
        | none => obtain rfl := hy.ptr_none; rw [re_ptr0 w _ hd]; exact congrArg (fun b => Result.ok b w) hq
        | some q => obtain ⟨q', rfl⟩ := hy.ptr_some; rw [re_ptr0 w _ hd]; exact congrArg (fun b => Result.ok b w) hq
      · rw [h3] at hp; rw [h4] at hq
        cases p <;> simp at hp
        cases q <;> simp at hq
        obtain rfl := hy.ptr_none
        obtain ⟨q', rfl⟩ := hx.ptr_some
        rw [re_ptr1 w _ hd, h5]
    case interface ms =>
      obtain ⟨a, h1, g⟩ := andThen_eq h
      obtain ⟨b, h2, hf⟩ := andThen_eq g
      clear h g
      rcases isNilI_eq h1 with ⟨rfl, rfl⟩ | ⟨t1, u1, rfl, rfl⟩
      · obtain rfl := hx.nilIface_inv
        rcases isNilI_eq h2 with ⟨rfl, rfl⟩ | ⟨t2, u2, rfl, rfl⟩
        · obtain rfl := hy.nilIface_inv
          simp only [eqI, Option.some.injEq] at hf
          rw [re_if00 w _ hd, ← hf]; rfl
        · obtain ⟨u', rfl, _⟩ := hy.iface_inv
          simp only [eqI, Option.some.injEq] at hf
          rw [re_if01 w _ hd, ← hf]; rfl
      · obtain ⟨v1, rfl, hu1⟩ := hx.iface_inv
        rcases isNilI_eq h2 with ⟨rfl, rfl⟩ | ⟨t2, u2, rfl, rfl⟩
        · obtain rfl := hy.nilIface_inv
          simp only [eqI, Option.some.injEq] at hf
          rw [re_if10 w _ hd, ← hf]
        · obtain ⟨v2, rfl, hu2⟩ := hy.iface_inv
          simp only [eqI] at hf
          rw [iff_eq] at hf
          by_cases ht : t1 = t2
          · subst ht
            rw [if_pos ((beq_iff _ _).2 rfl)] at hf
            obtain ⟨j, hj, hf⟩ := andThen_eq hf
            obtain ⟨hc, hf⟩ := iff_some hf
            rw [re_ifs w _ hd (fun w => run_info hT hj w) hc]
            exact ih _ _ _ _ hf _ _ hu1 hu2 w
          · rw [if_neg (fun h => ht ((beq_iff _ _).1 h))] at hf
            rw [re_if11 w _ hd ht]
            cases hf; rfl
    case struct fields =>
      obtain ⟨h0, h⟩ : i.held = false ∧ (andThen (asA x) fun xs => andThen (asA y) fun ys => eqFields (eqPart T (eqV T d) xs ys) fields.toList) = some r := by
        unfold eqStruct at h
        rw [iff_eq] at h
        split at h
        · cases h
        · rename_i hh; exact ⟨by simpa using hh, h⟩
      obtain ⟨xs, h1, g⟩ := andThen_eq h
      obtain ⟨ys, h2, hg⟩ := andThen_eq g
      clear h g
      obtain rfl := asA_eq h1; obtain rfl := asA_eq h2
      obtain ⟨xs', rfl, hxs, hx1⟩ := VRs.of_agg hx
      obtain ⟨ys', rfl, hys, hy1⟩ := VRs.of_agg hy
      have hf : P.fieldsOf t = fields := by simp [Program.fieldsOf, hd]
      rw [run_equalIn_struct w (d + n + 1) t ⟨xs'⟩ ⟨ys'⟩ (by rw [hf]; exact hd) (by rw [(hT t i hi).held _ hdd, h0]), hf]
      exact eqFields_run hT (fun u a b r h a' b' ha hb w => ih u a b r h a' b' ha hb w) hxs hys hx1 hy1 w fields.toList r hg
    case array len elem =>
      unfold eqArray at h
      obtain ⟨xs, h1, g⟩ := andThen_eq h
      obtain ⟨ys, h2, g2⟩ := andThen_eq g
      obtain ⟨z, hz, hf⟩ := andThen_eq g2
      clear h g g2
      obtain rfl := asA_eq h1; obtain rfl := asA_eq h2
      obtain ⟨xs', rfl, hxs, hx1⟩ := VRs.of_agg hx
      obtain ⟨ys', rfl, hys, hy1⟩ := VRs.of_agg hy
      rw [run_equalIn_array w hd (fun w => run_size' hT hz w)]
      rw [iff_eq] at hf
      split at hf
      · rename_i hc
        rw [Bool.and_eq_true, beq_iff] at hc
        obtain ⟨hc1, rfl⟩ := hc
        unfold isIntT at hc1
        split at hc1
        · rename_i k0 hk0
          obtain ⟨de, hde, hk0⟩ := andThen_eq hk0
          obtain ⟨j, hj, hje⟩ := desc_eq hde
          have hde2 : de = .int k0 := by cases de <;> simp [intKind] at hk0; subst hk0; rfl
          subst hde2
          have hun := und_desc hT hde
          have hag : ∀ w : World, (isAgg elem).run P w = .ok false w := fun w => by
            rw [run_isAgg' hT hj, (hT _ _ hj).agg, hje]
          exact eqInts_run hun hag w len 0 xs ys r (by simpa using hxs) (by simpa using hys) hf
        · cases hc1
      · exact eqArr_run hT (fun u a b r h a' b' ha hb w => ih u a b r h a' b' ha hb w) w len 0 xs ys r (by simpa using hxs) (by simpa using hys) hx1 hy1 hf
    case slice e =>
      obtain ⟨a, h1, g⟩ := andThen_eq h
      obtain ⟨b, h2, hf⟩ := andThen_eq g
      clear h g
      obtain ⟨a', n1, c1, rfl, h1⟩ := nilSl_ok h1 hx
      obtain ⟨b', n2, c2, rfl, h2⟩ := nilSl_ok h2 hy
      subst h1; subst h2
      rcases eqNil_eq hf with ⟨h3, h4⟩ | ⟨h3, h4, h5⟩
      · cases a' <;> simp at h3
        rw [re_sl0 w _ hd, ← h4]
      · cases a' <;> simp at h3
        cases b' <;> simp at h4
        rw [re_sl1 w _ hd, h5]
    case map k e =>
      obtain ⟨a, h1, g⟩ := andThen_eq h
      obtain ⟨b, h2, hf⟩ := andThen_eq g
      clear h g
      obtain rfl := asM_eq h1; obtain rfl := asM_eq h2
      rcases eqNil_eq hf with ⟨h3, h4⟩ | ⟨h3, h4, h5⟩
      · cases a <;> simp at h3
        obtain rfl := hx.map_none
        cases b with
        | none => obtain rfl := hy.map_none; rw [re_map0 w _ hd, ← h4]
        | some b => obtain ⟨q', rfl⟩ := hy.map_some; rw [re_map0 w _ hd, ← h4]; rfl
      · cases a <;> simp at h3
        cases b <;> simp at h4
        obtain rfl := hy.map_none
        obtain ⟨q', rfl⟩ := hx.map_some
        rw [re_map1 w _ hd, h5]
    case func p q v =>
      obtain ⟨a, h1, g⟩ := andThen_eq h
      obtain ⟨b, h2, hf⟩ := andThen_eq g
      clear h g
      rcases isNilF_eq h1 with ⟨rfl, rfl⟩ | ⟨fn1, f1, c1, rfl, rfl⟩
      · obtain rfl := hx.nilFunc_inv
        rcases isNilF_eq h2 with ⟨rfl, rfl⟩ | ⟨fn2, f2, c2, rfl, rfl⟩
        · obtain rfl := hy.nilFunc_inv
          simp [eqNil] at hf
          rw [re_f00 w _ hd, hf]
        · obtain ⟨_, _, rfl, _⟩ := hy.func_inv
          simp [eqNil] at hf
          rw [re_f01 w _ hd, hf]
      · rcases isNilF_eq h2 with ⟨rfl, rfl⟩ | ⟨fn2, f2, c2, rfl, rfl⟩
        · obtain rfl := hy.nilFunc_inv
          obtain ⟨_, _, rfl, _⟩ := hx.func_inv
          simp [eqNil] at hf
          rw [re_f10 w _ hd, hf]
        · simp [eqNil] at hf
    all_goals cases h
end
end Go.Abs

/- THE ABSTRACT MACHINE's OPERATIONS, ONE BY ONE, HELD AGAINST THE MODEL's: those that look at no memory. -/
namespace Go.Abs

section
variable {P : Program} {T : Tab} {π : PMap} {D : Nat → Prop}

theorem iff_else {α : Type} {c : Bool} {a : Option α} {b : α} (h : iff c none a = some b) : c = false ∧ a = some b := by
  cases c with
  | true => simp at h
  | false => exact ⟨rfl, h⟩

/-- what an operation that leaves memory alone yields -/
theorem eqV_unk (d : Nat) (t : TypeId) (y : Value) : eqV T d t unk y = none := by
  cases d with
  | zero => rfl
  | succ d =>
    cases h : eqV T (d + 1) t unk y with
    | none => rfl
    | some r =>
      obtain ⟨i, _, h2⟩ := andThen_eq h
      cases hd : i.desc <;> rw [hd] at h2 <;> first | (cases h2; done) | skip
      rename_i fs
      cases hh : i.held <;> rw [hh] at h2 <;> cases h2

def Gives (P : Program) (π : PMap) (D : Nat → Prop) (v : Value) (s : Sem Value) : Prop := ∀ w : World, ∃ v', s.run P w = .ok v' w ∧ VR π D v v'

theorem sim_binV (hT : TyOk P T) {op : BinOp} {t : TypeId} {x y x' y' v : Value} (h : binV x T op t y = some v) (hx : VR π D x x') (hy : VR π D y y') : Gives P π D v (Go.binOp op t x' y') := by
  intro w
  have he : ∀ {x : Value}, binE T op t x y = some v → VR π D x x' → (∀ k n, x ≠ .int k n) → (∀ s, x ≠ .string s) → (∀ k b, x ≠ .float k b) → (∀ k a b, x ≠ .complex k a b) → ∃ v', (Go.binOp op t x' y').run P w = .ok v' w ∧ VR π D v v' := by
    intro x h hx n1 n2 n3 n4
    obtain ⟨b, h1, h⟩ := andThen_eq h
    obtain ⟨r, h2, h⟩ := andThen_eq h
    simp only [Option.some.injEq] at h
    subst h
    have hq := sim_eqV (π := π) (D := D) hT 10 9989 t x y r h2 x' y' hx hy w
    refine ⟨_, ?_, .bool _⟩
    cases op <;> simp [isNeq] at h1 <;> subst h1
    all_goals
      cases hx <;> first | (rw [eqV_unk] at h2; cases h2; done) | (exact absurd rfl (n1 _ _); done) | (exact absurd rfl (n2 _); done) | (exact absurd rfl (n3 _ _); done) | (exact absurd rfl (n4 _ _ _); done) | skip
    all_goals try
      (rename_i hrd
       rcases hrd.dat_inv with ⟨_, c, rfl⟩ | ⟨_, _, _, _, _, rfl, _⟩)
    all_goals
      simp only [Go.binOp, Sem.run_bind, Op.equal, Op.maxDepth]
      first | rw [show (10000 : Nat) = 10 + 9989 + 1 from rfl, hq] | skip
      first | rfl | (cases y' <;> simp only [Sem.run_bind, Op.equal, Op.maxDepth] <;> rw [show (10000 : Nat) = 10 + 9989 + 1 from rfl, hq] <;> rfl)
  cases x with
  | int k a =>
    have h0 : binI k a op y = some v := h
    clear h
    obtain ⟨k', b, h1, h3⟩ := andThen2_eq h0
    obtain ⟨h2, h⟩ := iff_some h3
    clear h0 h3
    obtain rfl := asI_eq h1
    obtain rfl := hx.int_inv
    obtain rfl := hy.int_inv
    rw [Bool.or_eq_true, sameKind_iff] at h2
    have hv : ∃ k n, v = .int k n ∨ ∃ b, v = .bool b := by
      cases op <;> simp only [intOp, bitsOf, Option.some.injEq] at h
      case quo => obtain ⟨_, h⟩ := iff_else h; cases h; exact ⟨_, _, .inl rfl⟩
      case rem => obtain ⟨_, h⟩ := iff_else h; cases h; exact ⟨_, _, .inl rfl⟩
      case shl => obtain ⟨_, h⟩ := shiftQ_eq h; cases h; exact ⟨_, _, .inl rfl⟩
      case shr => obtain ⟨_, h⟩ := shiftQ_eq h; cases h; exact ⟨_, _, .inl rfl⟩
      all_goals (subst h; first | exact ⟨_, _, .inl rfl⟩ | exact ⟨.i64, 0, .inr ⟨_, rfl⟩⟩)
    refine ⟨v, sim_intOp h h2 t w, ?_⟩
    obtain ⟨k, n, rfl | ⟨b, rfl⟩⟩ := hv
    · exact .int k n
    · exact .bool b
  | string a =>
    have h0 : binS a.data.toList op y = some v := h
    clear h
    obtain ⟨b, h1, h⟩ := andThen_eq h0
    clear h0
    obtain ⟨s, rfl, rfl⟩ := asS_eq h1
    obtain rfl := hx.string_inv
    obtain rfl := hy.string_inv
    refine ⟨v, ?_, ?_⟩
    · have := sim_strOp (P := P) h t w
      rwa [← bytes_of (s := a) rfl, ← bytes_of (s := s) rfl] at this
    · cases op <;> simp only [strOp, sameBytes, Option.some.injEq, reduceCtorEq] at h
      case add => obtain ⟨_, h⟩ := iff_some h; cases h; exact .string _
      all_goals (subst h; exact .bool _)
  | float k b => cases h
  | complex k a b => cases h
  | _ => exact he h hx (fun _ _ => by simp) (fun _ => by simp) (fun _ _ => by simp) (fun _ _ _ => by simp)

theorem sim_unV {op : UnOp} {x x' v : Value} (h : unV op x = some v) (hx : VR π D x x') : Gives P π D v (Op.unary op x') := by
  intro w
  cases op <;> simp only [unV] at h
  case neg =>
    obtain ⟨k, n, h1, h⟩ := andThen2_eq h
    obtain rfl := asI_eq h1
    obtain rfl := hx.int_inv
    cases h
    refine ⟨_, ?_, .int _ _⟩
    simp only [Op.unary, Op.intArith, Sem.run_pure, wrapQ_eq]
    congr 2
    show k.wrap (0 - n) = k.wrap (Int.neg n)
    rw [Int.zero_sub]; rfl
  case not =>
    obtain ⟨b, h1, h⟩ := andThen_eq h
    obtain rfl := asB_eq h1
    obtain rfl := hx.bool_inv
    cases h
    exact ⟨_, rfl, .bool _⟩
  case xor =>
    obtain ⟨k, n, h1, h⟩ := andThen2_eq h
    obtain rfl := asI_eq h1
    obtain rfl := hx.int_inv
    cases h
    refine ⟨_, ?_, .int _ _⟩
    simp only [Op.unary, Op.intBits, Sem.run_pure]
    congr 2
    have hall : BitVec.ofInt k.bits (if k.signed then -1 else k.max) = BitVec.allOnes k.bits := by cases k <;> rfl
    rw [hall, BitVec.allOnes_xor, ← ofMod_eq, BitVec.toNat_not, ofInt_toNat, ← modOf_eq]
    · rfl
    · rw [modOf_eq]; exact (~~~BitVec.ofInt k.bits n).isLt
  all_goals cases h

theorem sim_guard (hT : TyOk P T) {op : BinOp} {t : TypeId} {x y : Operand} {a a' b' : Value} (h : iff (needsGuard op) (guarded T t x y a) true = true) (ha : VR π D a a') (w : World) :
    (eqGuard op t x y a' b').run P w = .ok () w := by
  by_cases hop : op = .eql ∨ op = .neq
  · have hg : guarded T t x y a = true := by rcases hop with rfl | rfl <;> exact h
    cases ha <;> (try (rcases hop with rfl | rfl <;> cases b' <;> simp [eqGuard]; done))
    · -- nilIface
      simp only [guarded, Bool.or_eq_true] at hg
      rcases hop with rfl | rfl <;> cases b' <;> first | (simp [eqGuard]; done) | (cases x <;> cases y <;> simp [isConst] at hg <;> simp [eqGuard])
    · -- agg
      simp only [guarded] at hg
      split at hg
      · rename_i i hi
        have hm : P.eqGuardType P.depth t = false := by rw [(hT t i hi).guard]; simpa using hg
        rcases hop with rfl | rfl <;> cases b' <;> first | (simp [eqGuard]; done) | exact run_eqGuard_agg w _ t x y _ _ hm
      · cases hg
    · -- data
      rename_i hrd
      rcases hrd.dat_inv with ⟨_, c, rfl⟩ | ⟨_, _, _, _, _, rfl, _⟩ <;> rcases hop with rfl | rfl <;> cases b' <;> simp [eqGuard]
    · cases hg
  · cases op <;> simp at hop <;> simp [eqGuard]

/-! ### places, parts -/

theorem fieldOf_eq {t : TypeId} {f : Nat} {g : Field} (h : fieldOf T t f = some g) : ∃ fs : Array Field, desc T t = some (.struct fs) ∧ fs[f]? = some g := by
  obtain ⟨d, h1, e1⟩ := andThen_eq h
  obtain ⟨l, h2, e2⟩ := andThen_eq e1
  cases d <;> simp [structOf] at h2
  subst h2
  rw [nthQ_eq] at e2
  exact ⟨_, h1, by simpa using e2⟩

theorem sim_field (hT : TyOk P T) {t : TypeId} {x x' v : Value} {f : Nat} (h : fieldV T t x f = some v) (hx : VR π D x x') : Gives P π D v (Instr.field t x' f) := by
  intro w
  obtain ⟨cs, h1, e1⟩ := andThen_eq h
  obtain ⟨g, h2, e2⟩ := andThen_eq e1
  obtain rfl := asA_eq h1
  obtain ⟨fs, h3, h4⟩ := fieldOf_eq h2
  obtain ⟨cs', rfl, hcs, hc1⟩ := VRs.of_agg hx
  obtain ⟨v', h5, h6⟩ := sim_part hT e2 hcs hc1 w
  refine ⟨v', ?_, h6⟩
  simp only [Instr.field, Sem.run_bind, run_desc hT h3, Result.andThen_ok, h4, asAgg, Sem.run_pure]
  exact h5

theorem Addr.add_plain (B x n : Nat) : (Addr.mk B x none).add n = ⟨B, x + n, none⟩ := by
  unfold Addr.add; split
  · rename_i h; subst h; rfl
  · rfl

theorem AR.shift {k off : Nat} {a' : Addr} (h : AR π D ⟨k, off, none⟩ a') (n : Nat) : AR π D ⟨k, off + n, none⟩ (a'.add n) := by
  obtain ⟨b, o, s⟩ := a'
  obtain ⟨hs, h⟩ := h
  simp only at hs
  subst hs
  rw [Addr.add_plain]
  refine ⟨rfl, ?_⟩
  rcases h with ⟨i, h1, h2, h3⟩ | h
  · exact .inl ⟨i, h1, h2, by simp only at h3 ⊢; omega⟩
  · exact .inr h

/-- a place within data -/
theorem sim_datAt {off z : Nat} {cs : List Value} {v x' : Value} (h : datAt off z cs = some v) (hx : VR π D (datP cs) x') : ∃ a', x' = .pointer (some a') ∧ VR π D v (.pointer (some (a'.add off))) := by
  obtain ⟨h1, h2⟩ := iff_some h
  cases h2
  rw [ble_iff, lenQ_eq] at h1
  have h1' : off + z ≤ cs.length := h1
  obtain ⟨cs', a', cc, rfl, hs, hf, hw, ho, hv, hrd⟩ := hx.datp_inv
  refine ⟨a', rfl, ?_⟩
  obtain ⟨b, o, sp⟩ := a'
  simp only at hs
  subst hs
  rw [Addr.add_plain, dropQ_eq]
  have hl := hv.1
  refine .dataP rfl ⟨cc, hf, ?_⟩ (hrd.drop off)
  obtain ⟨w1, w2⟩ := hw
  simp only at w1 w2
  refine ⟨by simp only [List.length_drop]; omega, ?_⟩
  have : cs'.drop off = ((cc.drop o).take cs'.length).drop off := by rw [w2]
  rw [this, List.drop_take, List.drop_drop, List.length_take, List.length_drop]
  congr 1
  · omega
theorem sim_fieldAddr (hT : TyOk P T) {t : TypeId} {x x' v : Value} {f : Nat} (h : fieldAddrV T t x f = some v) (hx : VR π D x x') : Gives P π D v (Instr.fieldAt t x' f) := by
  intro w
  rcases tupElse_eq h with ⟨vs, rfl, h⟩ | h
  · obtain ⟨cs, h1, e1⟩ := andThen_eq h
    obtain ⟨g, h2, e2⟩ := andThen_eq e1
    obtain ⟨z, h3, e3⟩ := andThen_eq e2
    obtain ⟨h4, e4⟩ := iff_else e3
    rw [datPL_eq h1] at hx
    obtain ⟨fs, h5, h6⟩ := fieldOf_eq h2
    obtain ⟨a', rfl, hv⟩ := sim_datAt e4 hx
    refine ⟨_, ?_, hv⟩
    have hz : z ≠ 0 := fun e => by subst e; cases h4
    simp only [Instr.fieldAt, Sem.run_bind, run_desc hT h5, Result.andThen_ok, h6, Instr.sureAddr, Sem.run_pure, fieldPlace, run_size' hT h3, if_neg hz]
  obtain ⟨k, off, h1, e1⟩ := andThen2_eq h
  obtain ⟨g, h2, e2⟩ := andThen_eq e1
  obtain ⟨z, h3, e3⟩ := andThen_eq e2
  obtain ⟨h4, e4⟩ := iff_else e3
  obtain rfl := asPtr_eq h1
  obtain ⟨fs, h5, h6⟩ := fieldOf_eq h2
  obtain ⟨a', rfl, ha⟩ := hx.ptr_inv
  cases e4
  refine ⟨.pointer (some (a'.add g.offset)), ?_, .ptr rfl (ha.shift g.offset)⟩
  have hz : z ≠ 0 := fun e => by subst e; cases h4
  simp only [Instr.fieldAt, Sem.run_bind, run_desc hT h5, Result.andThen_ok, h6, Instr.sureAddr, Sem.run_pure, fieldPlace, run_size' hT h3, if_neg hz]

/-! ### data's rows -/
theorem drop_app {α : Type} {c d : List α} {z m : Nat} (h : c.length = z) : (c ++ d).drop (z + m) = d.drop m := by
  rw [List.drop_append, List.drop_of_length_le (by omega), List.nil_append]
  congr 1; omega
theorem rowsCells_cons {z : Nat} {r : Value} {rows cs : List Value} (h : rowsCells z (r :: rows) = some cs) : ∃ c d, r = .agg ⟨c⟩ ∧ c.length = z ∧ rowsCells z rows = some d ∧ cs = c ++ d := by
  obtain ⟨c, h1, h2⟩ := andThen_eq (show andThen (asA r) (fun c => iff (Nat.beq (lenQ c) z) (andThen (rowsCells z rows) fun d => some (appQ c d)) none) = some cs from h)
  obtain ⟨h3, h4⟩ := iff_some h2
  obtain ⟨d, h5, h6⟩ := andThen_eq h4
  cases h6
  rw [beq_iff, lenQ_eq] at h3
  exact ⟨c, d, asA_eq h1, h3, h5, appQ_eq _ _⟩
theorem rowsCells_mk {z : Nat} {c rows d : List Value} (h1 : c.length = z) (h2 : rowsCells z rows = some d) : rowsCells z (.agg ⟨c⟩ :: rows) = some (c ++ d) := by
  show andThen (asA (.agg ⟨c⟩)) (fun c => iff (Nat.beq (lenQ c) z) (andThen (rowsCells z rows) fun d => some (appQ c d)) none) = some (c ++ d)
  show iff (Nat.beq (lenQ c) z) (andThen (rowsCells z rows) fun d => some (appQ c d)) none = some (c ++ d)
  rw [iff_eq, if_pos (by rw [beq_iff, lenQ_eq]; exact h1), h2]
  show some (appQ c d) = _
  rw [appQ_eq]
theorem rowsCells_len {z : Nat} : ∀ {rows cs : List Value}, rowsCells z rows = some cs → cs.length = rows.length * z
  | [], cs, h => by cases (show some [] = some cs from h); simp
  | r :: rows, cs, h => by
    obtain ⟨c, d, _, h2, h3, rfl⟩ := rowsCells_cons h
    rw [List.length_append, h2, rowsCells_len h3, List.length_cons, Nat.succ_mul]; omega
theorem rowsCells_get {z : Nat} : ∀ {rows cs : List Value} {j : Nat} {r : Value}, rowsCells z rows = some cs → rows[j]? = some r → r = .agg ⟨(cs.drop (j * z)).take z⟩
  | [], cs, j, r, _, h => by simp at h
  | r :: rows, cs, j, r', h, hj => by
    obtain ⟨c, d, rfl, h2, h3, rfl⟩ := rowsCells_cons h
    cases j with
    | zero =>
      simp only [List.getElem?_cons_zero, Option.some.injEq] at hj
      subst hj
      rw [Nat.zero_mul, List.drop_zero, List.take_append_of_le_length (by omega), List.take_of_length_le (by omega)]
    | succ j =>
      refine (rowsCells_get (j := j) h3 (by simpa using hj)).trans ?_
      rw [Nat.succ_mul, Nat.add_comm (j * z) z, drop_app h2]
theorem rowsCells_same {z z2 : Nat} : ∀ {rows cs cs2 : List Value}, rowsCells z rows = some cs → rowsCells z2 rows = some cs2 → cs = cs2
  | [], cs, cs2, h, h2 => by cases (show some [] = some cs from h); cases (show some [] = some cs2 from h2); rfl
  | r :: rows, cs, cs2, h, h2 => by
    obtain ⟨c, d, h3, _, h4, rfl⟩ := rowsCells_cons h
    obtain ⟨c2, d2, h5, _, h6, rfl⟩ := rowsCells_cons h2
    rw [h3] at h5
    cases h5
    rw [rowsCells_same h4 h6]
theorem rowsCells_part {z : Nat} : ∀ {rows cs : List Value} (l n : Nat), rowsCells z rows = some cs → rowsCells z ((rows.drop l).take n) = some ((cs.drop (l * z)).take (n * z))
  | [], cs, l, n, h => by cases (show some [] = some cs from h); simp; rfl
  | r :: rows, cs, l, n, h => by
    obtain ⟨c, d, rfl, h2, h3, rfl⟩ := rowsCells_cons h
    cases l with
    | zero =>
      cases n with
      | zero => simp; rfl
      | succ n =>
        have ih := rowsCells_part 0 n h3
        simp only [Nat.zero_mul, List.drop_zero] at ih ⊢
        rw [List.take_succ_cons, rowsCells_mk h2 ih, Nat.succ_mul, List.take_append, List.take_of_length_le (l := c) (by omega), h2, Nat.add_sub_cancel]
    | succ l =>
      have ih := rowsCells_part l n h3
      rw [List.drop_succ_cons, ih, Nat.succ_mul, Nat.add_comm (l * z) z, drop_app h2]
theorem chunks_ok {z : Nat} : ∀ {n : Nat} {l rows : List Value}, chunks z n l = some rows → rows.length = n ∧ n * z ≤ l.length ∧ rowsCells z rows = some (l.take (n * z))
  | 0, l, rows, h => by cases (show some [] = some rows from h); simp; rfl
  | n + 1, l, rows, h => by
    obtain ⟨c, h1, h2⟩ := andThen_eq (show andThen (takeO z l) (fun c => andThen (chunks z n (dropQ z l)) fun r => some (.agg ⟨c⟩ :: r)) = some rows from h)
    obtain ⟨r, h3, h4⟩ := andThen_eq h2
    cases h4
    rw [dropQ_eq] at h3
    obtain ⟨h5, h6, h7⟩ := chunks_ok h3
    obtain ⟨h8, rfl⟩ := takeO_eq z h1
    rw [List.length_drop] at h6
    refine ⟨by simp [h5], by rw [Nat.succ_mul]; omega, ?_⟩
    rw [rowsCells_mk (by simp; omega) h7]
    congr 1
    rw [Nat.succ_mul, Nat.add_comm, List.take_add]
theorem Win.sub {cc cs : List Value} {off : Nat} (h : Win cc off cs) (m k : Nat) (hk : m + k ≤ cs.length) : Win cc (off + m) ((cs.drop m).take k) := by
  obtain ⟨h1, h2⟩ := h
  have hl : ((cs.drop m).take k).length = k := by simp; omega
  refine ⟨by rw [hl]; omega, ?_⟩
  rw [hl]
  have : cs.drop m = ((cc.drop off).take cs.length).drop m := by rw [h2]
  rw [this, List.drop_take, List.take_take, List.drop_drop]
  congr 1
  omega
theorem sim_rowAt {z j : Nat} {rows : List Value} {v x' : Value} (h : rowAt z rows j = some v) (hx : VR π D (dat rows) x') : ∃ a' c', x' = .slice (some a') rows.length c' ∧ VR π D v (.pointer (some (a'.add (j * z)))) := by
  obtain ⟨r, h1, h2⟩ := andThen_eq h
  obtain ⟨c, h3, h4⟩ := andThen_eq h2
  obtain ⟨h5, h6⟩ := iff_some h4
  cases h6
  rw [beq_iff, lenQ_eq] at h5
  rw [nthQ_eq] at h1
  obtain rfl := asA_eq h3
  have hj := (List.getElem?_eq_some_iff.1 h1).1
  rcases hx.dat_inv with ⟨rfl, _⟩ | ⟨cs, cs', z2, c', a', rfl, hr, hc, hf, ho, hv, hrd⟩
  · simp at hj
  · refine ⟨a', c', rfl, ?_⟩
    have hg := rowsCells_get hr h1
    cases hg
    have hlen := rowsCells_len hr
    have hz : z2 = z := by
      have h7 : (j + 1) * z2 ≤ rows.length * z2 := Nat.mul_le_mul_right z2 hj
      rw [Nat.succ_mul] at h7
      simp only [List.length_take, List.length_drop] at h5
      omega
    subst hz
    rcases hf with rfl | ⟨hs, cc, hf, hw⟩
    · simp at hj
    · have h7 : (j + 1) * z2 ≤ rows.length * z2 := Nat.mul_le_mul_right z2 hj
      rw [Nat.succ_mul] at h7
      obtain ⟨b, o, sp⟩ := a'
      simp only at hs
      subst hs
      rw [Addr.add_plain]
      exact .dataP rfl ⟨cc, hf, hw.sub (j * z2) z2 (by have := hv.1; omega)⟩ ((hrd.drop (j * z2)).take z2)
theorem asSl_VR {a : Option Addr} {n c : Nat} {v' : Value} (h : VR π D (.slice a n c) v') : ∃ a' c', v' = .slice a' n c' := by
  cases h <;> exact ⟨_, _, rfl⟩

/-- a place within a slice -/
theorem slice_base {a : Addr} {n c : Nat} {v' : Value} (h : VR π D (.slice (some a) n c) v') (hn : 0 < n) : ∃ a' c', v' = .slice (some a') n c' ∧ AR π D ⟨a.block, a.off, none⟩ a' := by
  cases h with
  | sl _ _ hn hs ha => obtain ⟨b, o, s⟩ := a; simp only at hs; subst hs; exact ⟨_, _, rfl, ha⟩
  | slz => omega
  | slo _ _ c' hn hs ha =>
    refine ⟨_, _, rfl, ha.1, ?_⟩
    rcases ha.2.2 with ⟨i, h1, h2, h3, h5⟩ | h
    · rcases h5 with h5 | h5
      · exact .inl ⟨i, h1, h2, h5.1⟩
      · omega
    · exact .inr h

theorem sim_indexAddr (hT : TyOk P T) {t : TypeId} {x x' ix ix' v : Value} (h : indexAddrV T t x ix = some v) (hx : VR π D x x') (hi : VR π D ix ix') : Gives P π D v (Instr.indexAt t x' ix') := by
  intro w
  obtain ⟨k, i, h1, e1⟩ := andThen2_eq h
  obtain ⟨d, h2, e2⟩ := andThen_eq e1
  obtain rfl := asI_eq h1
  obtain rfl := hi.int_inv
  cases d <;> simp only [indexAddrD] at e2 <;> try (cases e2; done)
  · rename_i e
    rcases tupElse_eq e2 with ⟨vs, rfl, e2⟩ | e2
    · obtain ⟨rows, h3, e3⟩ := andThen_eq e2
      obtain ⟨z, h4, e4⟩ := andThen_eq e3
      obtain ⟨j, h5, e5⟩ := andThen_eq e4
      rw [datL_eq h3] at hx
      rw [lenQ_eq] at h5
      obtain ⟨g1, g2, rfl⟩ := inRange_eq h5
      obtain ⟨a', c', rfl, hv⟩ := sim_rowAt e5 hx
      refine ⟨.pointer (some (a'.add (i.toNat * z))), ?_, hv⟩
      simp only [Instr.indexAt, Sem.run_bind, asIntOf, Sem.run_pure, Result.andThen_ok, run_desc hT h2]
      rw [if_pos ⟨g1, g2⟩]
      simp only [Sem.run_bind, run_size' hT h4, Result.andThen_ok, Sem.run_pure]
    obtain ⟨a, n, c, h3, e3⟩ := andThen3_eq e2
    obtain ⟨a, rfl, e4⟩ := andThen_eq e3
    obtain ⟨z, h4, e5⟩ := andThen_eq e4
    obtain ⟨j, h5, e6⟩ := andThen_eq e5
    obtain rfl := asSl_eq h3
    obtain ⟨g1, g2, rfl⟩ := inRange_eq h5
    obtain ⟨a', c', rfl, ha⟩ := slice_base hx (by omega)
    cases e6
    refine ⟨.pointer (some (a'.add (i.toNat * z))), ?_, .ptr rfl (ha.shift _)⟩
    simp only [Instr.indexAt, Sem.run_bind, asIntOf, Sem.run_pure, Result.andThen_ok, run_desc hT h2]
    rw [if_pos ⟨g1, g2⟩]
    simp only [Sem.run_bind, run_size' hT h4, Result.andThen_ok, Sem.run_pure]
  · rename_i len e
    rcases tupElse_eq e2 with ⟨vs, rfl, e2⟩ | e2
    · obtain ⟨cs, h3, e3⟩ := andThen_eq e2
      obtain ⟨z, h4, e4⟩ := andThen_eq e3
      obtain ⟨j, h5, e5⟩ := andThen_eq e4
      rw [datPL_eq h3] at hx
      obtain ⟨g1, g2, rfl⟩ := inRange_eq h5
      obtain ⟨a', rfl, hv⟩ := sim_datAt e5 hx
      refine ⟨.pointer (some (a'.add (i.toNat * z))), ?_, hv⟩
      simp only [Instr.indexAt, Sem.run_bind, asIntOf, Sem.run_pure, Result.andThen_ok, run_desc hT h2, Instr.sureAddr]
      rw [if_pos ⟨g1, g2⟩]
      simp only [Sem.run_bind, run_size' hT h4, Result.andThen_ok, Sem.run_pure]
    obtain ⟨b, off, h3, e7⟩ := andThen2_eq e2
    obtain ⟨z, h4, e8⟩ := andThen_eq e7
    obtain ⟨j, h5, e9⟩ := andThen_eq e8
    obtain rfl := asPtr_eq h3
    obtain ⟨g1, g2, rfl⟩ := inRange_eq h5
    obtain ⟨a', rfl, ha⟩ := hx.ptr_inv
    cases e9
    refine ⟨.pointer (some (a'.add (i.toNat * z))), ?_, .ptr rfl (ha.shift _)⟩
    simp only [Instr.indexAt, Sem.run_bind, asIntOf, Sem.run_pure, Result.andThen_ok, run_desc hT h2, Instr.sureAddr]
    rw [if_pos ⟨g1, g2⟩]
    simp only [Sem.run_bind, run_size' hT h4, Result.andThen_ok, Sem.run_pure]

theorem sim_index (hT : TyOk P T) {t : TypeId} {x x' ix ix' v : Value} (h : indexV T t x ix = some v) (hx : VR π D x x') (hi : VR π D ix ix') : Gives P π D v (Instr.index t x' ix') := by
  intro w
  obtain ⟨k, i, h1, e1⟩ := andThen2_eq h
  obtain ⟨d, h2, e2⟩ := andThen_eq e1
  obtain rfl := asI_eq h1
  obtain rfl := hi.int_inv
  cases d <;> simp only [indexD] at e2 <;> try (cases e2; done)
  · obtain ⟨s, h3, e3⟩ := andThen_eq e2
    obtain ⟨j, h4, e4⟩ := andThen_eq e3
    obtain ⟨b, h5, e5⟩ := andThen_eq e4
    obtain ⟨str, hstr, hl⟩ := asS_eq h3
    subst hstr
    subst hl
    obtain rfl := hx.string_inv
    obtain ⟨g1, g2, rfl⟩ := inRange_eq h4
    cases e5
    rw [nthQ_eq] at h5
    refine ⟨.int .u8 b.toNat, ?_, .int _ _⟩
    have hg : str[i.toNat]? = some b := by
      obtain ⟨⟨l⟩⟩ := str
      simp only at h5
      have hlt := (List.getElem?_eq_some_iff.1 h5).1
      have hb := (List.getElem?_eq_some_iff.1 h5).2
      rw [getElem?_pos (ByteArray.mk ⟨l⟩) i.toNat (show i.toNat < (ByteArray.mk ⟨l⟩).size from hlt)]
      exact congrArg some hb
    simp only [Instr.index, Sem.run_bind, asIntOf, Sem.run_pure, Result.andThen_ok, run_desc hT h2, if_pos g1, hg]
  · rename_i len e
    obtain ⟨cs, h3, e6⟩ := andThen_eq e2
    obtain ⟨z, h4, e7⟩ := andThen_eq e6
    obtain ⟨j, h5, e8⟩ := andThen_eq e7
    obtain rfl := asA_eq h3
    obtain ⟨g1, g2, rfl⟩ := inRange_eq h5
    obtain ⟨cs', rfl, hcs, hc1⟩ := VRs.of_agg hx
    obtain ⟨v', h6, h7⟩ := sim_part hT e8 hcs hc1 w
    refine ⟨v', ?_, h7⟩
    simp only [Instr.index, Sem.run_bind, asIntOf, Sem.run_pure, Result.andThen_ok, run_desc hT h2]
    rw [if_pos ⟨g1, g2⟩]
    simp only [Sem.run_bind, run_size' hT h4, Result.andThen_ok]
    exact h6

/-! ### slices of slices, of strings, of arrays -/

theorem bound_eq {dflt most n : Nat} {v : Option Value} (h : bound dflt most v = some n) : (v = none ∧ n = dflt) ∨ ∃ k i, v = some (.int k i) ∧ 0 ≤ i ∧ i ≤ most ∧ n = i.toNat := by
  cases v with
  | none => simp only [bound, Option.some.injEq] at h; exact .inl ⟨rfl, h.symm⟩
  | some v =>
    obtain ⟨k, i, h1, e1⟩ := andThen2_eq (show andThen2 (asI v) (fun _ i => upTo i most) = some n from h)
    obtain rfl := asI_eq h1
    exact .inr ⟨k, i, rfl, upTo_eq e1⟩

/-- operands that may lack -/
def VRo (π : PMap) (D : Nat → Prop) (a b : Option Value) : Prop :=
  match a, b with
  | none, none => True
  | some x, some y => VR π D x y
  | _, _ => False

theorem VRo.int {k : IntKind} {i : Int} {b : Option Value} (h : VRo π D (some (.int k i)) b) : b = some (.int k i) := by
  cases b with
  | none => cases h
  | some b => exact congrArg some (VR.int_inv h)
theorem VRo.none {b : Option Value} (h : VRo π D none b) : b = none := by
  cases b with
  | none => rfl
  | some b => cases h

theorem run_bound {most : Nat} {k : IntKind} {i : Int} (h1 : 0 ≤ i) (h2 : i ≤ most) (code : BoundsCode) (w : World) : (Instr.sliceBound (.int k i) most code).run P w = .ok i.toNat w := by
  simp only [Instr.sliceBound, Sem.run_bind, asIntOf, Sem.run_pure, Result.andThen_ok, if_pos (And.intro h1 h2)]

theorem bounds3_len {len cap l h' m : Nat} {lo hi mx : Option Value} (h : bounds3 len cap lo hi mx = some (l, h', m)) (hlc : len ≤ cap) : l ≤ h' ∧ h' ≤ m ∧ m ≤ cap ∧ (mx = none → m = cap) := by
  obtain ⟨h0, e1⟩ := iff_else h
  obtain ⟨m1, h1, e2⟩ := andThen_eq e1
  obtain ⟨h2, h3, e3⟩ := andThen_eq e2
  obtain ⟨l1, h4, e4⟩ := andThen_eq e3
  cases e4
  have g1 : m ≤ cap ∧ (mx = none → m = cap) := by
    rcases bound_eq h1 with ⟨a, b⟩ | ⟨k, i, a, b, c, d⟩
    · exact ⟨by omega, fun _ => b⟩
    · exact ⟨by omega, fun e => by rw [a] at e; cases e⟩
  have g2 : h' ≤ m := by
    rcases bound_eq h3 with ⟨a, b⟩ | ⟨k, i, a, b, c, d⟩
    · subst a
      cases mx with
      | none => have := g1.2 rfl; omega
      | some _ => simp at h0
    · omega
  have g3 : l ≤ h' := by
    rcases bound_eq h4 with ⟨a, b⟩ | ⟨k, i, a, b, c, d⟩ <;> omega
  exact ⟨g3, g2, g1.1, g1.2⟩

/-- the room that counts -/
def effM (mx : Option Value) (c m : Nat) : Nat := match mx with | none => c | some _ => m

/-- the bounds are the model's; where the model has more room, and no max is given, its m is that room -/
theorem run_bounds {isSl : Bool} {len cap cap' l h' m : Nat} {lo hi mx lo' hi' mx' : Option Value} (h : bounds3 len cap lo hi mx = some (l, h', m)) (hc : cap ≤ cap') (h1 : VRo π D lo lo') (h2 : VRo π D hi hi') (h3 : VRo π D mx mx') (w : World) :
    (Instr.sliceBounds isSl len cap' lo' hi' mx').run P w = .ok (l, h', effM mx cap' m) w := by
  obtain ⟨h0, e1⟩ := iff_else h
  obtain ⟨m1, g1, e2⟩ := andThen_eq e1
  obtain ⟨h4, g2, e3⟩ := andThen_eq e2
  obtain ⟨l1, g3, e4⟩ := andThen_eq e3
  cases e4
  have r3 : ∀ code, (lo' = none ∧ l = 0) ∨ ∃ v, lo' = some v ∧ ∀ w, (Instr.sliceBound v h' code).run P w = .ok l w := by
    intro code
    rcases bound_eq g3 with ⟨a, b⟩ | ⟨k, i, a, b, c, d⟩
    · subst a; exact .inl ⟨h1.none, b⟩
    · subst a; subst d; exact .inr ⟨_, h1.int, fun w => run_bound b c code w⟩
  cases mx with
  | none =>
    obtain rfl := h3.none
    rcases bound_eq g1 with ⟨_, b⟩ | ⟨k, i, a, _⟩
    · subst b
      rcases bound_eq g2 with ⟨a, b⟩ | ⟨k, i, a, b, c, d⟩
      · subst a; obtain rfl := h2.none; subst b
        rcases r3 .sliceB with ⟨rfl, rfl⟩ | ⟨v, rfl, hv⟩
        · rfl
        · simp only [Instr.sliceBounds, Sem.run_bind, Sem.run_pure, Result.andThen_ok, Option.isSome_none, Bool.false_eq_true, if_false, hv, effM]
      · subst a; obtain rfl := h2.int; subst d
        have hb : ∀ code w, (Instr.sliceBound (.int k i) cap' code).run P w = .ok i.toNat w := fun code w => run_bound (P := P) b (show i ≤ (cap' : Int) by omega) code w
        rcases r3 .sliceB with ⟨rfl, rfl⟩ | ⟨v, rfl, hv⟩
        · simp only [Instr.sliceBounds, Sem.run_bind, Sem.run_pure, Result.andThen_ok, hb, effM]
        · simp only [Instr.sliceBounds, Sem.run_bind, Sem.run_pure, Result.andThen_ok, Option.isSome_none, Bool.false_eq_true, if_false, hb, hv, effM]
    · cases a
  | some mv =>
    rcases bound_eq g1 with ⟨a, _⟩ | ⟨k, i, a, b, c, d⟩
    · cases a
    · cases a
      obtain rfl := h3.int
      subst d
      rcases bound_eq g2 with ⟨a2, _⟩ | ⟨k2, i2, a2, b2, c2, d2⟩
      · subst a2; simp at h0
      · subst a2; obtain rfl := h2.int; subst d2
        have hb : ∀ code w, (Instr.sliceBound (.int k i) cap' code).run P w = .ok i.toNat w := fun code w => run_bound (P := P) b (show i ≤ (cap' : Int) by omega) code w
        have hb2 : ∀ code w, (Instr.sliceBound (.int k2 i2) i.toNat code).run P w = .ok i2.toNat w := fun code w => run_bound (P := P) b2 c2 code w
        rcases r3 .slice3C with ⟨rfl, rfl⟩ | ⟨v, rfl, hv⟩
        · simp only [Instr.sliceBounds, hb, hb2, Sem.run_pure, Sem.run_bind, Result.andThen_ok, effM]
        · simp only [Instr.sliceBounds, hb, hb2, hv, Sem.run_pure, Sem.run_bind, Result.andThen_ok, Option.isSome_some, if_true, effM]

theorem cut_addr (k off z l m : Nat) : (if m = l then (⟨k, off, none⟩ : Addr) else (Addr.mk k off none).add (l * z)) = ⟨k, iff (Nat.beq m l) off (Nat.add off (Nat.mul l z)), none⟩ := by
  rw [iff_eq]
  by_cases h : m = l
  · rw [if_pos h, if_pos ((beq_iff _ _).2 h)]
  · rw [if_neg h, if_neg (fun h' => h ((beq_iff _ _).1 h')), Addr.add_plain]; rfl

theorem AR.cut {k off : Nat} {a' : Addr} (h : AR π D ⟨k, off, none⟩ a') (z l m : Nat) : AR π D ⟨k, iff (Nat.beq m l) off (Nat.add off (Nat.mul l z)), none⟩ (if m = l then a' else a'.add (l * z)) := by
  rw [iff_eq]
  by_cases h1 : m = l
  · rw [if_pos h1, if_pos ((beq_iff _ _).2 h1)]; exact h
  · rw [if_neg h1, if_neg (fun h' => h1 ((beq_iff _ _).1 h'))]; exact h.shift (l * z)

theorem run_substr (l : List UInt8) (a b : Nat) : (ByteArray.mk ⟨l⟩).extract a b = ⟨⟨(l.drop a).take (b - a)⟩⟩ := by
  apply ByteArray.ext
  rw [ByteArray.data_extract]
  apply Array.ext'
  simp [List.extract_eq_take_drop]

theorem sim_cutAt {z l h' m len cap : Nat} {mx : Option Value} {a : Option Addr} {v x' : Value} (h : cutAt mx z l h' m a = some v) (hx : VR π D (.slice a len cap) x')
    (hl : l ≤ h') (hh : h' ≤ m) (hm : m ≤ cap) (hmx : mx = none → m = cap) :
    ∃ a' cap', x' = .slice a' len cap' ∧ cap ≤ cap' ∧ VR π D v (.slice (if effM mx cap' m = l then a' else a'.map (·.add (l * z))) (h' - l) (effM mx cap' m - l)) := by
  cases a with
  | none =>
    obtain rfl := hx.sl_none
    cases h
    have hm' : effM mx cap m = m := by cases mx with
      | none => exact (hmx rfl).symm
      | some _ => rfl
    refine ⟨none, cap, rfl, Nat.le_refl _, ?_⟩
    simp only [hm', Option.map_none, ite_self]
    exact .sl0 _ _ (Nat.sub_le_sub_right hh l)
  | some a =>
    obtain ⟨k, off, sp⟩ := a
    cases sp with
    | none =>
      cases h
      cases hx with
      | sl _ _ hn hs ha =>
        rename_i a'
        have hm' : effM mx cap m = m := by cases mx with
          | none => exact (hmx rfl).symm
          | some _ => rfl
        refine ⟨some a', cap, rfl, Nat.le_refl _, ?_⟩
        simp only [hm']
        have := ha.cut z l m
        unfold cut
        split
        · rename_i he; rw [if_pos he] at this; exact .sl _ _ (Nat.sub_le_sub_right hh l) rfl this
        · rename_i he; rw [if_neg he] at this; exact .sl _ _ (Nat.sub_le_sub_right hh l) rfl this
      | slz a a' hs =>
        have : l = 0 := by omega
        have : h' = 0 := by omega
        have : m = 0 := by omega
        subst_vars
        refine ⟨some a', 0, rfl, Nat.le_refl _, ?_⟩
        cases mx <;> exact .slz _ _ rfl
      | slo _ _ _ _ hs _ => cases hs
    | some s =>
      obtain ⟨h1, h2⟩ := iff_some h
      rw [beq_iff] at h1
      subst h1
      cases h2
      cases hx with
      | sl _ _ _ hs _ => cases hs
      | slz _ _ hs => cases hs
      | slo _ _ c' hn hs ha =>
        rename_i a' s'
        simp only [Option.some.injEq] at hs
        subst hs
        obtain ⟨hsp, hcc, ha⟩ := ha
        refine ⟨some a', c', rfl, hcc, ?_⟩
        cases mx with
        | none =>
          have hm' := hmx rfl
          subst hm'
          rw [show effM none c' m = c' from rfl]
          simp only [Option.isSome_none, iff_false, Nat.sub_eq, Nat.add_eq, Nat.mul_eq]
          rcases ha with ⟨i, g1, g2, g3, g5⟩ | ⟨g1, g2⟩
          · by_cases he : c' = l
            · rw [if_pos he]
              exact .slo (s := s) _ _ _ (by omega) rfl ⟨hsp, by omega, .inl ⟨i, g1, g2, g3, .inr ⟨by omega, by omega, by omega⟩⟩⟩
            · rw [if_neg he]
              obtain ⟨b, o, sp⟩ := a'
              simp only at hsp g2
              subst hsp
              simp only [Option.map_some, Addr.add_plain]
              rcases g5 with ⟨g6, g7⟩ | ⟨_, _, g8⟩
              · refine .slo (s := s) _ _ _ (by omega) rfl ⟨rfl, by omega, .inl ⟨i, g1, g2, g3, .inl ⟨?_, ?_⟩⟩⟩
                · simp only at g6 ⊢
                  rw [g6]; omega
                · simp only at g7 ⊢
                  have : (c' - l) * s + l * s = c' * s := by rw [← Nat.add_mul]; congr 1; omega
                  omega
              · omega
          · have hsp2 : (a'.add (l * s)).spot = none := by unfold Addr.add; split <;> first | exact hsp | rfl
            by_cases he : c' = l
            · rw [if_pos he]; exact .slo (s := s) _ _ _ (by omega) rfl ⟨hsp, by omega, .inr ⟨g1, g2⟩⟩
            · rw [if_neg he]; exact .slo (s := s) _ _ _ (by omega) rfl ⟨hsp2, by omega, .inr ⟨g1, g2⟩⟩
        | some mv =>
          rw [show effM (some mv) c' m = m from rfl]
          simp only [Option.isSome_some, iff_true]
          rcases ha with ⟨i, g1, g2, g3, g5⟩ | ⟨g1, g2⟩
          · rcases g5 with ⟨g6, g7⟩ | ⟨g6, g7, g8⟩
            · have har : AR π D ⟨k, off, none⟩ a' := ⟨hsp, .inl ⟨i, g1, g2, g6⟩⟩
              have := har.cut s l m
              unfold cut
              split
              · rename_i he; rw [if_pos he] at this; exact .sl _ _ (Nat.sub_le_sub_right hh l) rfl this
              · rename_i he; rw [if_neg he] at this; exact .sl _ _ (Nat.sub_le_sub_right hh l) rfl this
            · have e1 : l = 0 := by omega
              have e2 : h' = 0 := by omega
              have e3 : m = 0 := by omega
              subst e1; subst e2; subst e3
              rw [if_pos rfl]
              exact .slz _ _ rfl
          · have hsp2 : (a'.add (l * s)).spot = none := by unfold Addr.add; split <;> first | exact hsp | rfl
            unfold cut
            split
            · exact .sl _ _ (Nat.sub_le_sub_right hh l) rfl ⟨hsp, .inr ⟨g1, g2⟩⟩
            · exact .sl _ _ (Nat.sub_le_sub_right hh l) rfl ⟨hsp2, .inr ⟨g1, g2⟩⟩

theorem rowZ_eq {z z2 : Nat} {rows cs : List Value} (h : rowZ z rows = true) (hr : RowsAre z2 rows cs) : rows = [] ∨ z2 = z := by
  cases rows with
  | nil => exact .inl rfl
  | cons r rows =>
    obtain ⟨c, d, rfl, h2, _⟩ := rowsCells_cons hr
    have : Nat.beq (lenQ c) z = true := h
    rw [beq_iff, lenQ_eq] at this
    exact .inr (h2.symm.trans this)
theorem sim_cutDat {z l h' m : Nat} {rows : List Value} {lo hi mx : Option Value} {x' v : Value} (hz : rowZ z rows = true) (hb : bounds3 rows.length rows.length lo hi mx = some (l, h', m)) (h : cutDat mx rows l h' m = some v) (hx : VR π D (dat rows) x') :
    ∃ a' c', x' = .slice a' rows.length c' ∧ rows.length ≤ c' ∧ VR π D v (.slice (if effM mx c' m = l then a' else a'.map (·.add (l * z))) (h' - l) (effM mx c' m - l)) := by
  obtain ⟨b1, b2, b3, b4⟩ := bounds3_len hb (Nat.le_refl _)
  unfold cutDat at h
  rw [iff_eq] at h
  rcases hx.dat_inv with ⟨rfl, c, rfl⟩ | ⟨cs, cs', z2, c', a', rfl, hr, hc, hf, ho, hv, hrd⟩
  · simp only [List.length_nil] at b3
    have e1 : m = 0 := by omega
    have e2 : h' = 0 := by omega
    have e3 : l = 0 := by omega
    subst e1; subst e2; subst e3
    refine ⟨none, c, rfl, Nat.zero_le _, ?_⟩
    have : v = dat [] := by
      split at h
      · cases h; rfl
      · cases h; rfl
    subst this
    have h5 : (if effM mx c 0 = 0 then none else (none : Option Addr).map (·.add (0 * z))) = none := by split <;> rfl
    rw [h5]
    exact .data (.data0 _ _ rfl)
  · refine ⟨some a', c', rfl, hc, ?_⟩
    split at h
    · rename_i hm
      obtain ⟨h6, h7⟩ := iff_some h
      rw [Tr.isZ_iff] at h6
      subst h6
      have e2 : h' = 0 := by omega
      have e3 : l = 0 := by omega
      subst e2; subst e3
      have : effM mx c' 0 = 0 := by cases mx with | none => cases hm | some _ => rfl
      rw [this, if_pos rfl]
      cases rows with
      | nil => cases h7; exact .data (Rd.nil _ _)
      | cons r rows => cases h7; exact .slz _ _ rfl
    · rename_i hm
      have hmx : mx = none := by cases mx with | none => rfl | some _ => exact absurd rfl hm
      subst hmx
      rw [show effM none c' m = c' from rfl]
      obtain ⟨r, h6, h7⟩ := andThen_eq h
      cases h7
      obtain ⟨h8, rfl⟩ := sub_eq h6
      by_cases hl : h' = l
      · subst hl
        rw [Nat.sub_eq, Nat.sub_self, List.take_zero]
        have key : ∀ a2 : Addr, VR π D (dat []) (.slice (some a2) 0 (c' - h')) := fun a2 => .data (Rd.nil _ _)
        by_cases he : c' = h'
        · rw [if_pos he]; exact key _
        · rw [if_neg he]; exact key _
      · rw [if_neg (by omega)]
        have hlen : ((rows.drop l).take (Nat.sub h' l)).length = h' - l := by simp only [Nat.sub_eq, List.length_take, List.length_drop]; omega
        rcases rowZ_eq hz hr with rfl | rfl
        · simp only [List.length_nil] at b3; omega
        rcases hf with rfl | ⟨hs, cc, hf, hw⟩
        · simp only [List.length_nil] at b3; omega
        have hp := rowsCells_part l (h' - l) hr
        have hcl := rowsCells_len hr
        have hle : l * z2 + (h' - l) * z2 ≤ cs'.length := by
          rw [← hv.1, hcl, ← Nat.add_mul]; exact Nat.mul_le_mul_right _ (by omega)
        obtain ⟨b, o, sp⟩ := a'
        simp only at hs
        subst hs
        have hv2 := (hrd.drop (l * z2)).take ((h' - l) * z2)
        have := Rd.data (fr := π.fr) (c' := c' - l) (a' := (Addr.mk b o none).add (l * z2)) hp (by rw [← Nat.sub_eq, hlen]; omega) (.inr ⟨by rw [Addr.add_plain], cc, by rw [Addr.add_plain]; exact hf, by rw [Addr.add_plain]; exact hw.sub _ _ hle⟩) hv2.1 hv2.2
        rw [← Nat.sub_eq, hlen] at this
        exact .data this
theorem sim_slice (hT : TyOk P T) {t : TypeId} {x x' v : Value} {lo hi mx lo' hi' mx' : Option Value} (h : sliceV T t x lo hi mx = some v) (hx : VR π D x x') (h1 : VRo π D lo lo') (h2 : VRo π D hi hi') (h3 : VRo π D mx mx') : Gives P π D v (Instr.sliceAt t x' lo' hi' mx') := by
  intro w
  obtain ⟨d, e1, e2⟩ := andThen_eq h
  cases d <;> simp only [sliceD] at e2 <;> try (cases e2; done)
  · obtain ⟨l, g1, g2⟩ := andThen_eq e2
    obtain ⟨g3, g4⟩ := iff_else g2
    obtain ⟨a, b, c, g5, g6⟩ := andThen3_eq g4
    obtain ⟨s, hs, hl⟩ := asS_eq g1
    subst hs; subst hl
    obtain rfl := hx.string_inv
    cases g6
    cases mx with
    | some _ => cases g3
    | none =>
      obtain rfl := h3.none
      rw [lenQ_eq] at g5
      have hb := run_bounds (P := P) (isSl := false) g5 (Nat.le_refl _) h1 h2 (mx' := none) trivial w
      obtain ⟨⟨bs⟩⟩ := s
      refine ⟨_, ?_, .string _⟩
      simp only [Instr.sliceAt, Sem.run_bind, run_desc hT e1, Result.andThen_ok, Instr.slice, Option.isSome_none, Bool.false_eq_true, if_false]
      have hsz : (ByteArray.mk ⟨bs⟩).size = bs.length := rfl
      simp only [hsz]
      have hb' : (Instr.sliceBounds false bs.length bs.length lo' hi' none).run P w = .ok (a, b, bs.length) w := hb
      simp only [hb', Result.andThen_ok, Sem.run_pure, run_substr]
      rfl
  · rename_i e
    rcases tupElse_eq e2 with ⟨vs, rfl, e2⟩ | e2
    · obtain ⟨rows, g1, g2⟩ := andThen_eq e2
      obtain ⟨z, g3, g4⟩ := andThen_eq g2
      obtain ⟨gz, g4⟩ := iff_some g4
      obtain ⟨l, hh, m, g5, g6⟩ := andThen3_eq g4
      rw [datL_eq g1] at hx
      rw [lenQ_eq] at g5
      obtain ⟨a', c', rfl, hc, hv⟩ := sim_cutDat gz g5 g6 hx
      refine ⟨_, ?_, hv⟩
      simp only [Instr.sliceAt, Instr.slice, Sem.run_bind, run_desc hT e1, Result.andThen_ok, run_bounds g5 hc h1 h2 h3, run_size' hT g3, Sem.run_pure]
    obtain ⟨a, len, cap, g1, g2⟩ := andThen3_eq e2
    obtain ⟨z, g3, g4⟩ := andThen_eq g2
    obtain ⟨l, hh, m, g5, g6⟩ := andThen3_eq g4
    obtain rfl := asSl_eq g1
    obtain ⟨b1, b2, b3, b4⟩ := bounds3_len g5 hx.sl_le
    obtain ⟨a', cap', rfl, hc, hv⟩ := sim_cutAt g6 hx b1 b2 b3 b4
    refine ⟨_, ?_, hv⟩
    simp only [Instr.sliceAt, Instr.slice, Sem.run_bind, run_desc hT e1, Result.andThen_ok, run_bounds g5 hc h1 h2 h3, run_size' hT g3, Sem.run_pure]
  · rename_i n e
    rcases tupElse_eq e2 with ⟨vs, rfl, e2⟩ | e2
    · obtain ⟨cs, g1, g2⟩ := andThen_eq e2
      obtain ⟨z, g3, g4⟩ := andThen_eq g2
      obtain ⟨gm, g4⟩ := iff_else g4
      obtain ⟨l, hh, m, g5, g6⟩ := andThen3_eq g4
      obtain ⟨rows, g7, g8⟩ := andThen_eq g6
      cases g8
      have hmx : mx = none := by cases mx with | none => rfl | some _ => cases gm
      subst hmx
      obtain rfl := h3.none
      rw [datPL_eq g1] at hx
      obtain ⟨b1, b2, b3, b4⟩ := bounds3_len g5 (Nat.le_refl _)
      have hb := run_bounds (P := P) (isSl := false) g5 (Nat.le_refl _) h1 h2 (mx' := none) trivial w
      rw [show effM none n m = n from rfl] at hb
      obtain ⟨cs', a', cc, rfl, hs, hf, hw, ho, hv, hrd⟩ := hx.datp_inv
      refine ⟨.slice (some (if n = l then a' else a'.add (l * z))) (hh - l) (n - l), ?_, ?_⟩
      · simp only [Instr.sliceAt, Sem.run_bind, run_desc hT e1, Result.andThen_ok, Instr.sureAddr, Sem.run_pure, hb, run_size' hT g3]
      · rw [dropQ_eq] at g7
        obtain ⟨c1, c2, c3⟩ := chunks_ok g7
        have c1' : rows.length = hh - l := c1
        have c2' : (hh - l) * z ≤ cs.length - l * z := by rw [List.length_drop] at c2; exact c2
        obtain ⟨b, o, sp⟩ := a'
        simp only at hs
        subst hs
        rw [← c1']
        by_cases hl : hh = l
        · have : rows = [] := List.eq_nil_of_length_eq_zero (by omega)
          subst this
          exact .data (Rd.nil _ _)
        · rw [if_neg (by omega), Addr.add_plain]
          have hv2 := (hrd.drop (l * z)).take ((hh - l) * z)
          by_cases hz : l * z ≤ cs.length
          · exact .data (.data c3 (by rw [c1']; omega) (.inr ⟨rfl, cc, hf, hw.sub (l * z) ((hh - l) * z) (by have := hv.1; omega)⟩) hv2.1 hv2.2)
          · have h0 : (hh - l) * z = 0 := by omega
            have h1z : z = 0 := by rcases Nat.mul_eq_zero.1 h0 with h | h <;> omega
            subst h1z
            simp at hz
    obtain ⟨k, off, g1, g2⟩ := andThen2_eq e2
    obtain ⟨z, g3, g4⟩ := andThen_eq g2
    obtain ⟨l, hh, m, g5, g6⟩ := andThen3_eq g4
    obtain rfl := asPtr_eq g1
    obtain ⟨a', rfl, ha⟩ := hx.ptr_inv
    obtain ⟨b1, b2, b3, b4⟩ := bounds3_len g5 (Nat.le_refl _)
    cases g6
    have hm' : effM mx n m = m := by cases mx with
      | none => exact (b4 rfl).symm
      | some _ => rfl
    have hb := run_bounds (P := P) (isSl := false) g5 (Nat.le_refl _) h1 h2 h3 w
    rw [hm'] at hb
    refine ⟨.slice (some (if m = l then a' else a'.add (l * z))) (hh - l) (m - l), ?_, .sl _ _ (Nat.sub_le_sub_right b2 l) rfl (ha.cut z l m)⟩
    simp only [Instr.sliceAt, Sem.run_bind, run_desc hT e1, Result.andThen_ok, Instr.sureAddr, Sem.run_pure, hb, run_size' hT g3]

/-! ### nil checks, interface values, tuples, aggregates -/

theorem sim_nilChk {x x' v : Value} (h : nilChk x = some v) (hx : VR π D x x') : VR π D v x' ∧ (∀ fn f c, x' = .func fn f c → ∃ g, fn = .func g) ∧ x' ≠ .pointer none ∧ x' ≠ .nilIface ∧ x' ≠ .nilFunc := by
  cases hx <;> simp only [nilChk, reduceCtorEq, Option.some.injEq] at h
  case any => cases h
  case data => cases h
  case dataP cs cs' a' hs hf hd =>
    have : v = datP cs := by cases (show some (datP cs) = some v from h); rfl
    subst this
    exact ⟨.dataP hs hf hd, by simp, by simp, by simp, by simp⟩
  case tuple c c' h1 _ _ =>
    obtain ⟨l, h2, h3⟩ := andThen_eq (show andThen (datPL c) (fun cs => some (datP cs)) = some v from h)
    match c, h1, h2 with
    | [u], h1, h2 => cases asT0_eq (show asT0 u = some l from h2); cases h1
  case func fn f c f' c' hf hfs hc hcs =>
    obtain ⟨h1, h2⟩ := iff_some h
    cases h2
    refine ⟨.func fn hf hfs hc hcs, fun fn2 f2 c2 he => ?_, by simp, by simp, by simp⟩
    cases he
    cases fn <;> simp [plainFn] at h1
    exact ⟨_, rfl⟩
  case ptr hs ha => subst h; exact ⟨.ptr hs ha, by simp, by simp, by simp, by simp⟩
  case sl0 hn => subst h; exact ⟨.sl0 _ _ hn, by simp, by simp, by simp, by simp⟩
  case sl hn hs ha => subst h; exact ⟨.sl _ _ hn hs ha, by simp, by simp, by simp, by simp⟩
  case slz hs => subst h; exact ⟨.slz _ _ hs, by simp, by simp, by simp, by simp⟩
  case slo hn hs ha => subst h; exact ⟨.slo _ _ _ hn hs ha, by simp, by simp, by simp, by simp⟩
  case map0 => subst h; exact ⟨.map0, by simp, by simp, by simp, by simp⟩
  case map hr => subst h; exact ⟨.map hr, by simp, by simp, by simp, by simp⟩
  case iface t _ _ hu => subst h; exact ⟨.iface t hu, by simp, by simp, by simp, by simp⟩

theorem sim_iface (hT : TyOk P T) {t : TypeId} {d : TypeDesc} (hd : desc T t = some d) (hi : isIface d = false) (x' : Value) (w : World) : (Instr.makeInterface t x').run P w = .ok (.iface t x') w := by
  simp only [Instr.makeInterface, Sem.run_bind, run_desc hT hd, Result.andThen_ok]
  cases d <;> first | rfl | cases hi

theorem sim_extract {i : Nat} {x x' v : Value} (h : compV i x = some v) (hx : VR π D x x') : Gives P π D v (Instr.extract x' i) := by
  intro w
  cases hx
  case any => cases h
  case data => cases h
  case dataP => cases h
  all_goals simp only [compV, reduceCtorEq] at h
  rename_i c c' h1 hc hcs
  have h : c[i]? = some v := by
    revert h
    match c with
    | [] => intro h; cases h
    | [a] => cases a <;> first | exact id | (intro h; cases h)
    | _ :: _ :: _ => exact id
  obtain ⟨v', h1, h2⟩ := VRs.get (π := π) (D := D) ⟨hc, hcs⟩ h
  refine ⟨v', ?_, h2⟩
  simp only [Instr.extract]
  have : (⟨c'⟩ : Array Value)[i]? = some v' := by simpa using h1
  rw [this]; rfl

theorem zcells_eq (hT : TyOk P T) {t : TypeId} {i : TI} (hi : T.Y.get t = some i) {z : List Value} (h : zcells i = some z) : ∃ zv, i.info.zero = some zv ∧ zv.cells = ⟨zv.cells.toList⟩ ∧ z.length = i.size ∧ (∀ u ∈ z, oneA u = true) ∧ ∀ π D, VRs π D z zv.cells.toList := by
  obtain ⟨zv, h1, e1⟩ := andThen_eq h
  obtain ⟨cs, h2, e2⟩ := andThen_eq e1
  obtain ⟨h3, e3⟩ := iff_some e2
  cases e3
  rw [beq_iff, lenQ_eq] at h3
  have hc := fun π D => sim_flat h2 (zero_const hT hi h1 π D)
  exact ⟨zv, h1, rfl, h3, (hc ⟨fun _ => none, fun _ => none⟩ (fun _ => False)).2, fun π D => (hc π D).1⟩

theorem fillArr (cs : Array Value) (off : Nat) : ∀ (vs : List Value) (k : Nat), off + k + vs.length ≤ cs.size → (vs.zipIdx k).foldl (fun (cs : Array Value) (x : Value × Nat) => cs.setIfInBounds (off + x.2) x.1) cs = put1 cs (off + k) vs := by
  intro vs
  induction vs generalizing cs with
  | nil => intro k _; simp [put1]
  | cons v vs ih =>
    intro k hr
    have hsz : cs.toList.length = cs.size := rfl
    simp only [List.length_cons] at hr
    rw [List.zipIdx_cons, List.foldl_cons, ih _ _ (by simp; omega)]
    simp only [put1]
    congr 1
    rw [Array.toList_setIfInBounds, List.length_cons, show off + (k + 1) = (off + k) + 1 from by omega, show off + k + 1 + vs.length = off + k + (vs.length + 1) from by omega,
      List.take_set, List.drop_set, if_pos (by omega), List.take_succ_eq_append_getElem (by omega), List.set_append, if_neg (by simp; omega)]
    simp only [List.length_take, List.append_assoc]
    congr 1
    rw [show off + k - min (off + k) cs.toList.length = 0 from by omega]
    rfl

theorem fill_sim {place : Nat → Option (Nat × Nat)} : ∀ (ps : List (Nat × Value)) (ps' : List (Nat × Value)) (cs : List Value) (cs' : Array Value) (r : List Value), fill place ps cs = some r → VRs π D cs cs'.toList → (∀ u ∈ cs, oneA u = true) →
    ps.length = ps'.length → (∀ (j : Nat) p p', ps[j]? = some p → ps'[j]? = some p' → p.1 = p'.1 ∧ VR π D p.2 p'.2) →
    ∃ r', Instr.fill place cs' ps' = some r' ∧ VRs π D r r'.toList ∧ (∀ u ∈ r, oneA u = true)
  | [], ps', cs, cs', r, h, hc, h1, hl, _ => by
    simp only [fill, Option.some.injEq] at h
    subst h
    have : ps' = [] := List.eq_nil_of_length_eq_zero hl.symm
    subst this
    exact ⟨cs', rfl, hc, h1⟩
  | p :: ps, ps', cs, cs', r, h, hc, h1, hl, hp => by
    cases ps' with
    | nil => simp at hl
    | cons p' ps' =>
      obtain ⟨i, v⟩ := p
      obtain ⟨i', v'⟩ := p'
      obtain ⟨hi, hv⟩ := hp 0 _ _ rfl rfl
      simp only at hi hv
      subst hi
      simp only [fill] at h
      obtain ⟨off, size, g1, e1⟩ := andThen2_eq h
      obtain ⟨vs, g2, e2⟩ := andThen_eq e1
      obtain ⟨g3, e3⟩ := iff_some e2
      obtain ⟨c2, g4, e4⟩ := andThen_eq e3
      obtain ⟨g5, rfl⟩ := splice_eq _ _ g4
      rw [beq_iff, lenQ_eq] at g3
      obtain ⟨hv1, hv2⟩ := sim_flat g2 hv
      have hlen := hv1.1
      have hcl := hc.1
      have hsz : cs'.toList.length = cs'.size := rfl
      have hvl : v'.cells.toList.length = v'.cells.size := rfl
      have hput : VRs π D (cs.take off ++ vs ++ cs.drop (off + vs.length)) (put1 cs' off v'.cells.toList).toList := by
        simp only [put1]
        rw [← hlen]
        exact ((hc.take off).append hv1).append (hc.drop _)
      have hone : ∀ u ∈ cs.take off ++ vs ++ cs.drop (off + vs.length), oneA u = true := by
        intro u hu
        simp only [List.mem_append] at hu
        rcases hu with (hu | hu) | hu
        · exact h1 u (List.mem_of_mem_take hu)
        · exact hv2 u hu
        · exact h1 u (List.mem_of_mem_drop hu)
      obtain ⟨r', g6, g7, g8⟩ := fill_sim ps ps' _ _ r e4 hput hone (by simpa using hl) (fun j p p' a b => hp (j + 1) p p' a b)
      refine ⟨r', ?_, g7, g8⟩
      simp only [Instr.fill, g1]
      rw [if_neg (by simp; omega)]
      have hf := fillArr cs' off v'.cells.toList 0 (by omega)
      rw [Nat.add_zero] at hf
      rw [← Array.foldl_toList, Array.toList_zipIdx, hf]
      exact g6

theorem places_eq (hT : TyOk P T) : ∀ (fs : List Field) (ps : List (Nat × Nat)), places T fs = some ps → ∀ w : World, (fs.mapM fun (f : Field) => (do pure (f.offset, ← sizeOf f.type) : Sem (Nat × Nat))).run P w = .ok ps w
  | [], ps, h => fun w => by simp only [places, Option.some.injEq] at h; subst h; rfl
  | f :: fs, ps, h => fun w => by
    simp only [places] at h
    obtain ⟨s, g1, e1⟩ := andThen_eq h
    obtain ⟨r, g2, e2⟩ := andThen_eq e1
    cases e2
    simp only [List.mapM_cons, Sem.run_bind, run_size' hT g1, Result.andThen_ok, Sem.run_pure, places_eq hT fs r g2 w]

theorem parts_sim {ρ ρ' : Operand → Value} (ps : Array (Nat × Operand)) (h : ∀ x ∈ ps.toList.map (·.2), VR π D (ρ x) (ρ' x)) :
    (parts ρ ps.toList).length = (ps.map fun (i, x) => (i, ρ' x)).toList.length ∧ ∀ (j : Nat) p p', (parts ρ ps.toList)[j]? = some p → (ps.map fun (i, x) => (i, ρ' x)).toList[j]? = some p' → p.1 = p'.1 ∧ VR π D p.2 p'.2 := by
  unfold parts
  rw [mapQ_eq, Array.toList_map]
  refine ⟨by simp, fun j p p' h1 h2 => ?_⟩
  rw [List.getElem?_map] at h1 h2
  cases hq : ps.toList[j]? with
  | none => rw [hq] at h1; cases h1
  | some q =>
    rw [hq] at h1 h2
    cases h1; cases h2
    exact ⟨rfl, h q.2 (List.mem_map.2 ⟨q, List.mem_of_getElem? hq, rfl⟩)⟩

theorem sim_build (hT : TyOk P T) {t : TypeId} {ps : List (Nat × Value)} {ps' : Array (Nat × Value)} {v : Value} (h : build T t ps = some v)
    (hl : ps.length = ps'.toList.length) (hp : ∀ (j : Nat) p p', ps[j]? = some p → ps'.toList[j]? = some p' → p.1 = p'.1 ∧ VR π D p.2 p'.2) : Gives P π D v (Instr.build t ps') := by
  intro w
  obtain ⟨i, hi, e1⟩ := andThen_eq h
  obtain ⟨z, hz, e2⟩ := andThen_eq e1
  obtain ⟨zv, g1, _, g3, g4, g5⟩ := zcells_eq hT hi hz
  have hd := (hT t i hi).desc
  generalize hdd : i.desc = dd at e2 hd
  cases dd <;> simp only [buildIn] at e2 <;> try (cases e2; done)
  · rename_i len elem
    obtain ⟨s, g6, e3⟩ := andThen_eq e2
    obtain ⟨cs, g7, e4⟩ := andThen_eq e3
    cases e4
    obtain ⟨r', g8, g9, g10⟩ := fill_sim ps ps'.toList z zv.cells cs g7 (g5 π D) g4 hl hp
    refine ⟨.agg ⟨r'.toList⟩, ?_, g9.agg g10⟩
    simp only [Instr.build, Sem.run_bind, run_zero hT hi g1, Result.andThen_ok, run_underlying hd, run_size' hT g6]
    have : (fun (i : Nat) => some (Nat.mul i s, s)) = (fun i => some (i * s, s)) := rfl
    rw [this] at g8
    rw [g8]
    rfl
  · rename_i fields
    obtain ⟨pl, g6, e3⟩ := andThen_eq e2
    obtain ⟨cs, g7, e4⟩ := andThen_eq e3
    cases e4
    have hpl : (fun i => nthQ i pl) = (fun i => pl[i]?) := funext fun i => nthQ_eq i pl
    rw [hpl] at g7
    obtain ⟨r', g8, g9, g10⟩ := fill_sim ps ps'.toList z zv.cells cs g7 (g5 π D) g4 hl hp
    refine ⟨.agg ⟨r'.toList⟩, ?_, g9.agg g10⟩
    have hm := places_eq hT fields.toList pl g6 w
    have hm2 : (fields.mapM fun (f : Field) => (do pure (f.offset, ← sizeOf f.type) : Sem (Nat × Nat))).run P w = .ok pl.toArray w := by
      rw [Array.mapM_eq_mapM_toList, Sem.run_map, hm]; rfl
    simp only [Instr.build, Sem.run_bind, run_zero hT hi g1, Result.andThen_ok, run_underlying hd, hm2]
    have : (fun (x : Nat) => pl.toArray[x]?) = (fun i => pl[i]?) := funext fun i => by simp
    rw [this, g8]
    rfl
end
end Go.Abs

/- THE ABSTRACT MACHINE's OPERATIONS, ONE BY ONE, HELD AGAINST THE MODEL's: those that look at memory, or make some. -/
namespace Go.Abs

section
variable {P : Program} {T : Tab} {σ σ' : ASt} {π : PMap} {δ D : Nat → Prop} {H : Nat → Option AObj} {w : World}

theorem row_eq {k : Nat} {c : List Value} (h : σ.row k = some c) : ∃ e org ro, σ.obj k = some (.cells c e org ro false) := by
  obtain ⟨o, h1, h2⟩ := andThen_eq h
  obtain ⟨e, org, ro, rfl⟩ := rowOf_eq h2
  exact ⟨e, org, ro, h1⟩

theorem AR.known {k off : Nat} {a' : Addr} (h : AR π D ⟨k, off, none⟩ a') : (∃ i, π k = some i) ∨ (π k = none ∧ D k) := by
  rcases h.2 with ⟨i, h1, _⟩ | h1
  · exact .inl ⟨i, h1⟩
  · exact .inr h1
theorem AR.at {k off : Nat} {a' : Addr} {i : PI} (h : AR π D ⟨k, off, none⟩ a') (hi : π k = some i) : a' = ⟨i.blk, i.sh + off, none⟩ := by
  rcases h.2 with ⟨j, h2, h3, h4⟩ | ⟨h2, _⟩
  · simp only at h2
    rw [hi] at h2; cases h2
    obtain ⟨b, o, s⟩ := a'
    have := h.1
    simp only at this h3 h4
    subst this; subst h3; subst h4; rfl
  · simp only at h2; rw [hi] at h2; cases h2

/-- the cells of an alive block, as the model has them -/
theorem Pre.cells (hp : Pre σ σ' π δ D H w) {k off : Nat} {c : List Value} {a' : Addr} (h : σ.row k = some c) (ha : AR π D ⟨k, off, none⟩ a') :
    ∃ B x cc elem fz, a' = ⟨B, x + off, none⟩ ∧ w.heap[B]? = some (.cells cc elem fz) ∧ x + c.length ≤ cc.size ∧ (∀ v ∈ c, oneA v = true) ∧ VRs π D c ((cc.toList.drop x).take c.length) := by
  obtain ⟨e, org, ro, ho⟩ := row_eq h
  obtain ⟨i, hi, cc, elem, fz, h1, h2, h3, h4, h5, _⟩ := hp.here ho rfl ha.known
  exact ⟨i.blk, i.sh, cc, elem, fz, ha.at hi, h1, by omega, h4, h5⟩

theorem window_sub {cc : Array Value} {x n off m : Nat} (h : off + m ≤ n) : (((cc.toList.drop x).take n).drop off).take m = (cc.toList.drop (x + off)).take m := by
  rw [List.drop_take, List.take_take, List.drop_drop, Nat.min_eq_left (by omega)]

theorem sim_cells (hp : Pre σ σ' π δ D H w) {k off n : Nat} {r : List Value} {a' : Addr} (h : σ.cellsAt k off n = some r) (ha : AR π D ⟨k, off, none⟩ a') :
    ∃ r', (loadCells a' n).run P w = .ok ⟨r'⟩ w ∧ VRs π D r r' ∧ (∀ v ∈ r, oneA v = true) ∧ r.length = n := by
  obtain ⟨c, h1, e1⟩ := andThen_eq h
  obtain ⟨B, x, cc, elem, fz, rfl, hB, hle, h1c, hvs⟩ := hp.cells h1 ha
  obtain ⟨h2, rfl⟩ := sub_eq e1
  by_cases hn : n = 0
  · subst hn
    exact ⟨[], by simp [loadCells, loadCellsFrom], by simpa using VRs.nil, by simp, by simp⟩
  · have h3 := h2.resolve_left hn
    refine ⟨(cc.toList.drop (x + off)).take n, run_loadCells hB (by omega), ?_, fun v hv => h1c v (List.mem_of_mem_drop (List.mem_of_mem_take hv)), by simp; omega⟩
    have := (hvs.drop off).take n
    rwa [window_sub (by omega)] at this

theorem sim_load (hT : TyOk P T) (hp : Pre σ σ' π δ D H w) {t : TypeId} {k off : Nat} {v : Value} {a' : Addr} (h : loadV T σ t k off = some v) (ha : AR π D ⟨k, off, none⟩ a') :
    ∃ v', (loadVar t a').run P w = .ok v' w ∧ VR π D v v' := by
  obtain ⟨c, h1, e1⟩ := andThen_eq h
  obtain ⟨i, hi, e2⟩ := andThen_eq e1
  rw [iff_eq] at e2
  by_cases ha2 : i.agg = true
  · rw [if_pos ha2] at e2
    obtain ⟨r, h2, e3⟩ := andThen_eq e2
    cases e3
    have hc : σ.cellsAt k off i.size = some r := by
      show andThen (σ.row k) _ = _
      rw [h1]; exact h2
    obtain ⟨r', h3, h4, h5, _⟩ := sim_cells (P := P) hp hc ha
    refine ⟨.agg ⟨r'⟩, ?_, h4.agg h5⟩
    simp only [loadVar, Sem.run_bind, run_isAgg' hT hi, ha2, Result.andThen_ok, if_true, run_size hT hi, h3, Sem.run_pure]
  · rw [if_neg ha2] at e2
    rw [nthQ_eq] at e2
    obtain ⟨B, x, cc, elem, fz, rfl, hB, hle, h1c, hvs⟩ := hp.cells h1 ha
    obtain ⟨v', h3, h4⟩ := hvs.get e2
    refine ⟨v', ?_, h4⟩
    have hlt := (List.getElem?_eq_some_iff.1 e2).1
    rw [List.getElem?_take, if_pos hlt, List.getElem?_drop] at h3
    have hc : w.cell? ⟨B, x + off, none⟩ = some v' := by
      simp only [World.cell?, hB, Option.isSome_none, Bool.false_eq_true, if_false]
      rw [← Array.getElem?_toList]; exact h3
    simp only [loadVar, Sem.run_bind, run_isAgg' hT hi, Result.andThen_ok, ha2, Bool.false_eq_true, if_false, run_load, hc]

/-- a load out of data -/
theorem sim_loadP (hT : TyOk P T) (hp : Pre σ σ' π δ D H w) {t : TypeId} {cs : List Value} {v x' : Value} (h : part T t cs 0 = some v) (hx : VR π D (datP cs) x') :
    ∃ a', x' = .pointer (some a') ∧ ∃ v', (loadVar t a').run P w = .ok v' w ∧ VR π D v v' := by
  obtain ⟨cs', a', cc, rfl, hs, hf, ⟨hw1, hw2⟩, ho, hv, _⟩ := hx.datp_inv
  refine ⟨a', rfl, ?_⟩
  obtain ⟨b, x, sp⟩ := a'
  simp only at hs
  subst hs
  simp only at hf hw1 hw2
  obtain ⟨elem, fz, hB⟩ := hp.rel.frz b cc hf
  obtain ⟨i, hi, e2⟩ := andThen_eq h
  rw [iff_eq] at e2
  have hl := hv.1
  by_cases ha2 : i.agg = true
  · rw [if_pos ha2] at e2
    obtain ⟨r, h2, e3⟩ := andThen_eq e2
    cases e3
    obtain ⟨h3, rfl⟩ := sub_eq h2
    rw [List.drop_zero] at *
    have hle : i.size ≤ cs.length ∨ i.size = 0 := by omega
    have hrun : (loadCells ⟨b, x, none⟩ i.size).run P w = .ok ⟨cs'.take i.size⟩ w := by
      rcases hle with hle | hle
      · rw [run_loadCells hB (by show x + i.size ≤ cc.length; omega)]
        congr 2
        show (cc.drop x).take i.size = _
        rw [← hw2, List.take_take]
        congr 1; omega
      · rw [hle]; simp [loadCells, loadCellsFrom]
    refine ⟨.agg ⟨cs'.take i.size⟩, ?_, (hv.take i.size).agg fun u hu => ho u (List.mem_of_mem_take hu)⟩
    simp only [loadVar, Sem.run_bind, run_isAgg' hT hi, ha2, Result.andThen_ok, if_true, run_size hT hi, hrun, Sem.run_pure]
  · rw [if_neg ha2] at e2
    rw [nthQ_eq] at e2
    obtain ⟨v', h3, h4⟩ := hv.get e2
    refine ⟨v', ?_, h4⟩
    have hlt := (List.getElem?_eq_some_iff.1 h3).1
    rw [← hw2, List.getElem?_take, if_pos (by rw [hw2] at *; omega), List.getElem?_drop, Nat.add_zero] at h3
    have hc : w.cell? ⟨b, x, none⟩ = some v' := by
      simp only [World.cell?, hB, Option.isSome_none, Bool.false_eq_true, if_false]
      rw [← Array.getElem?_toList]; exact h3
    simp only [loadVar, Sem.run_bind, run_isAgg' hT hi, Result.andThen_ok, ha2, Bool.false_eq_true, if_false, run_load, hc]

/-- what an operation yields that may change memory -/
def Does (P : Program) (σ σ' : ASt) (π : PMap) (δ D : Nat → Prop) (H : Nat → Option AObj) (w : World) (v : Value) (s : Sem Value) : Prop :=
  ∃ v' π' D' w', s.run P w = .ok v' w' ∧ VR π' D' v v' ∧ Post σ σ' π δ D H w π' D' w'
def DoesU (P : Program) (σ σ' : ASt) (π : PMap) (δ D : Nat → Prop) (H : Nat → Option AObj) (w : World) (s : Sem Unit) : Prop :=
  ∃ π' D' w', s.run P w = .ok () w' ∧ Post σ σ' π δ D H w π' D' w'

theorem Gives.does {v : Value} {s : Sem Value} (h : Gives P π D v s) (hp : Pre σ σ π δ D H w) : Does P σ σ π δ D H w v s := by
  obtain ⟨v', h1, h2⟩ := h w
  exact ⟨v', π, D, w, h1, h2, .refl hp⟩

theorem sim_store (hT : TyOk P T) (hp : Pre σ σ' π δ D H w) {t : TypeId} {p p' x x' : Value} (h : storeV T t p x σ = some σ') (hpp : VR π D p p') (hx : VR π D x x') : DoesU P σ σ' π δ D H w (Instr.storeAt t p' x') := by
  obtain ⟨k, off, h1, e1⟩ := andThen2_eq h
  obtain ⟨z, h2, e2⟩ := andThen_eq e1
  obtain ⟨vs, h3, e3⟩ := andThen_eq e2
  obtain ⟨h4, e4⟩ := iff_some e3
  rw [beq_iff, lenQ_eq] at h4
  obtain rfl := asPtr_eq h1
  obtain ⟨a', rfl, ha⟩ := hpp.ptr_inv
  obtain ⟨hv, ho⟩ := sim_flat h3 hx
  obtain ⟨π', D', w', h5, h6⟩ := post_set (P := P) hp e4 ha hv ho (oneCells hv ho)
  refine ⟨π', D', w', ?_, h6⟩
  have hsz : x'.cells.size = z := by
    have h1 := hv.1
    have h2 : x'.cells.toList.length = x'.cells.size := rfl
    omega
  simp only [Instr.storeAt, Sem.run_bind, Instr.sureAddr, Sem.run_pure, Result.andThen_ok, storeVar, run_size' hT h2, hsz, ne_eq, not_true_eq_false, if_false, h5]

/-- a new row -/
theorem post_row {c : List Value} {cc : Array Value} {elem : TypeId} (hp : Pre σ (σ.newRow c) π δ D H w) (hc : VRs π D c cc.toList) (h1 : ∀ v ∈ c, oneA v = true) :
    ∃ π', Post σ (σ.newRow c) π δ D H w π' D (w.alloc (.cells cc elem)) ∧ AR π' D ⟨σ.next, 0, none⟩ ⟨w.heap.size, 0, none⟩ := by
  have hsz : cc.toList.length = cc.size := rfl
  have hl := hc.1
  refine ⟨_, post_new (i := ⟨w.heap.size, 0, cc.size, none, σ.next, false, c.length⟩) hp rfl ?_ ⟨Nat.le_refl _, fun _ => rfl⟩ (.inl rfl) (.none rfl), rfl, .inl ⟨_, if_pos rfl, rfl, by simp⟩⟩
  refine ⟨cc, elem, (0, 0), by rw [heap_alloc, if_pos rfl], rfl, by simp only; omega, h1, ?_, fun _ x _ h => by simp only at h; omega, rfl, rfl, rfl, rfl⟩
  simp only [List.drop_zero]
  rw [List.take_of_length_le (by omega)]
  exact hc

/-- a new row of a known type -/
theorem post_typed {c : List Value} {cc : Array Value} {t : TypeId} (hp : Pre σ (σ.new (.cells c (some (wholeC t)) σ.next false false)) π δ D H w) (hc : VRs π D c cc.toList) (h1 : ∀ v ∈ c, oneA v = true) :
    ∃ π', Post σ (σ.new (.cells c (some (wholeC t)) σ.next false false)) π δ D H w π' D (w.alloc (.cells cc t)) ∧ AR π' D ⟨σ.next, 0, none⟩ ⟨w.heap.size, 0, none⟩ := by
  have hsz : cc.toList.length = cc.size := rfl
  have hl := hc.1
  refine ⟨_, post_new (i := ⟨w.heap.size, 0, cc.size, some (wholeC t), σ.next, false, c.length⟩) hp rfl ?_ ⟨Nat.le_refl _, fun h => by cases h⟩ (.inl rfl) (fun u _ hu => ?_), rfl, .inl ⟨_, if_pos rfl, rfl, by simp⟩⟩
  · refine ⟨cc, t, (0, 0), by rw [heap_alloc, if_pos rfl], rfl, by simp only; omega, h1, ?_, fun _ x _ h => by simp only at h; omega, rfl, rfl, rfl, rfl⟩
    simp only [List.drop_zero]
    rw [List.take_of_length_le (by omega)]
    exact hc
  · rw [show typedQ (some (wholeC t)) = some (2 * t) from typedQ_add (2 * t)] at hu
    cases hu
    exact ⟨cc, (0, 0), by rw [heap_alloc, if_pos rfl, half_two], fun _ => ⟨rfl, by simp only; omega⟩⟩
theorem sim_newTyped {t : TypeId} {c : List Value} {x' v : Value} (h : newTyped σ t c = some (v, σ')) (hp : Pre σ σ' π δ D H w) (hc : VRs π D c x'.cells.toList) (h1 : ∀ v ∈ c, oneA v = true) :
    Does P σ σ' π δ D H w v (do pure (.pointer (some (← Go.newVar t x')))) := by
  simp only [newTyped, Option.some.injEq, Prod.mk.injEq] at h
  obtain ⟨rfl, rfl⟩ := h
  obtain ⟨π', h2, h3⟩ := post_typed (t := t) hp hc h1
  exact ⟨_, π', D, _, rfl, .ptr rfl h3, h2⟩
theorem sim_newVar {t : TypeId} {c : List Value} {x' : Value} (hp : Pre σ (σ.newRow c) π δ D H w) (hc : VRs π D c x'.cells.toList) (h1 : ∀ v ∈ c, oneA v = true) :
    Does P σ (σ.newRow c) π δ D H w (.pointer (some ⟨σ.next, 0, none⟩)) (do pure (.pointer (some (← Go.newVar t x')))) := by
  obtain ⟨π', h2, h3⟩ := post_row (elem := t) hp hc h1
  exact ⟨_, π', D, _, rfl, .ptr rfl h3, h2⟩

theorem newVar_eq {c : List Value} {v : Value} (h : newVar σ c = some (v, σ')) : v = .pointer (some ⟨σ.next, 0, none⟩) ∧ σ' = σ.newRow c := by
  simp only [newVar, Option.some.injEq, Prod.mk.injEq] at h
  exact ⟨h.1.symm, h.2.symm⟩

theorem sim_alloc (hT : TyOk P T) {t : TypeId} {ρ : Operand → Value} {v : Value} (h : doAlloc T t ρ σ = some (v, σ')) (hp : Pre σ σ' π δ D H w) : Does P σ σ' π δ D H w v (Instr.alloc t true (.tuple #[])) := by
  obtain ⟨i, hi, e1⟩ := andThen_eq h
  obtain ⟨z, hz, e2⟩ := andThen_eq e1
  obtain ⟨zv, g1, _, g3, g4, g5⟩ := zcells_eq hT hi hz
  obtain ⟨v', π', D', w', h1, h2, h3⟩ : Does P σ σ' π δ D H w v (do pure (.pointer (some (← Go.newVar t zv)))) := by
    rw [iff_eq] at e2
    split at e2
    · exact sim_newTyped e2 hp (g5 π D) g4
    · obtain ⟨rfl, rfl⟩ := newVar_eq e2
      exact sim_newVar hp (g5 π D) g4
  refine ⟨v', π', D', w', ?_, h2, h3⟩
  simp only [Instr.alloc, Sem.run_bind, run_zero hT hi g1, Result.andThen_ok] at h1 ⊢
  exact h1

theorem sim_box {t : TypeId} {x : Operand} {ρ : Operand → Value} {x' v : Value} (h : doBox x ρ σ = some (v, σ')) (hx : VR π D (ρ x) x') (hp : Pre σ σ' π δ D H w) : Does P σ σ' π δ D H w v (Instr.box t x') := by
  obtain ⟨c, hc, e1⟩ := andThen_eq h
  obtain ⟨rfl, rfl⟩ := newVar_eq e1
  obtain ⟨h1, h2⟩ := sim_flat hc hx
  exact sim_newVar (P := P) (t := t) hp h1 h2

theorem newSlice_eq {len cap : Nat} {c : List Value} {v : Value} (h : newSlice σ len cap c = some (v, σ')) : v = .slice (some ⟨σ.next, 0, none⟩) len cap ∧ σ' = σ.newRow c := by
  simp only [newSlice, Option.some.injEq, Prod.mk.injEq] at h
  exact ⟨h.1.symm, h.2.symm⟩

theorem newSliceQ_eq {len cap : Nat} {c : List Value} {q : Option Nat} {v : Value} (h : newSliceQ σ len cap c q = some (v, σ')) : v = .slice (some ⟨σ.next, 0, none⟩) len cap ∧ σ' = σ.new (.cells c q σ.next false false) := by
  simp only [newSliceQ, Option.some.injEq, Prod.mk.injEq] at h
  exact ⟨h.1.symm, h.2.symm⟩
/-- a new row, told as it may be -/
theorem post_rowQ {c : List Value} {cc : Array Value} {elem : TypeId} {q : Option Nat} (hq : ∀ x, typedQ q = some x → odd x = true ∧ half x = elem) (hp : Pre σ (σ.new (.cells c q σ.next false false)) π δ D H w) (hc : VRs π D c cc.toList) (h1 : ∀ v ∈ c, oneA v = true) :
    ∃ π', Post σ (σ.new (.cells c q σ.next false false)) π δ D H w π' D (w.alloc (.cells cc elem)) ∧ AR π' D ⟨σ.next, 0, none⟩ ⟨w.heap.size, 0, none⟩ := by
  have hsz : cc.toList.length = cc.size := rfl
  have hl := hc.1
  refine ⟨_, post_new (i := ⟨w.heap.size, 0, cc.size, q, σ.next, false, c.length⟩) hp rfl ?_ ⟨Nat.le_refl _, fun _ => rfl⟩ (.inl rfl) (fun x _ hx => ?_), rfl, .inl ⟨_, if_pos rfl, rfl, by simp⟩⟩
  · refine ⟨cc, elem, (0, 0), by rw [heap_alloc, if_pos rfl], rfl, by simp only; omega, h1, ?_, fun _ x _ h => by simp only at h; omega, rfl, rfl, rfl, rfl⟩
    simp only [List.drop_zero]
    rw [List.take_of_length_le (by omega)]
    exact hc
  · obtain ⟨g1, g2⟩ := hq x hx
    exact ⟨cc, (0, 0), by rw [heap_alloc, if_pos rfl, g2], fun h => by rw [g1] at h; cases h⟩
theorem sim_newSliceQ {elem : TypeId} {len cap : Nat} {c : List Value} {cc : Array Value} {q : Option Nat} (hq : ∀ x, typedQ q = some x → odd x = true ∧ half x = elem) (hp : Pre σ (σ.new (.cells c q σ.next false false)) π δ D H w) (hc : VRs π D c cc.toList) (h1 : ∀ v ∈ c, oneA v = true) (hn : len ≤ cap) :
    Does P σ (σ.new (.cells c q σ.next false false)) π δ D H w (.slice (some ⟨σ.next, 0, none⟩) len cap) (do pure (.slice (some ⟨← newObj (.cells cc elem), 0, none⟩) len cap)) := by
  obtain ⟨π', h2, h3⟩ := post_rowQ (elem := elem) hq hp hc h1
  exact ⟨_, π', D, _, rfl, .sl len cap hn rfl h3, h2⟩
theorem sim_newSlice {elem : TypeId} {len cap : Nat} {c : List Value} {cc : Array Value} (hp : Pre σ (σ.newRow c) π δ D H w) (hc : VRs π D c cc.toList) (h1 : ∀ v ∈ c, oneA v = true) (hlc : len ≤ cap) :
    Does P σ (σ.newRow c) π δ D H w (.slice (some ⟨σ.next, 0, none⟩) len cap) (do pure (.slice (some (← Go.newRow elem cc)) len cap)) := by
  obtain ⟨π', h2, h3⟩ := post_row (elem := elem) hp hc h1
  exact ⟨_, π', D, _, rfl, .sl _ _ hlc rfl h3, h2⟩

theorem zeros_eq (z : List Value) : ∀ n, zeros z n = (List.replicate n z).flatten
  | 0 => rfl
  | n + 1 => by rw [zeros, appQ_eq, zeros_eq z n, List.replicate_succ, List.flatten_cons]

theorem rep_get (z : List Value) (n i : Nat) (h : i < n * z.length) : (List.replicate n z).flatten[i]? = z[i % z.length]? := by
  induction n generalizing i with
  | zero => simp at h
  | succ n ih =>
    rw [List.replicate_succ, List.flatten_cons]
    by_cases hi : i < z.length
    · rw [List.getElem?_append_left hi, Nat.mod_eq_of_lt hi]
    · rw [List.getElem?_append_right (by omega), ih _ (by rw [Nat.succ_mul] at h; omega), ← Nat.mod_eq_sub_mod (a := i) (by omega)]

theorem rep_range (z : Array Value) (n : Nat) : ((Array.range (n * z.size)).map (z[· % z.size]!)).toList = (List.replicate n z.toList).flatten := by
  have hsz : z.toList.length = z.size := rfl
  apply List.ext_getElem?
  intro i
  by_cases hi : i < n * z.size
  · rw [rep_get _ _ _ (by rw [hsz]; exact hi), Array.toList_map, List.getElem?_map, Array.toList_range, List.getElem?_range hi]
    have hz : 0 < z.size := by
      rcases Nat.eq_zero_or_pos z.size with h | h
      · rw [h] at hi; simp at hi
      · exact h
    have hm : i % z.size < z.size := Nat.mod_lt _ hz
    simp only [Option.map_some]
    rw [hsz, List.getElem?_eq_getElem (by rw [hsz]; exact hm)]
    congr 1
    rw [getElem!_pos z _ hm]
    rfl
  · rw [List.getElem?_eq_none (by simp; omega), List.getElem?_eq_none]
    rw [List.length_flatten, List.map_replicate, List.sum_replicate_nat]
    rw [hsz]; omega

theorem zeros_mem {z : List Value} {n : Nat} (h : ∀ u ∈ z, oneA u = true) : ∀ u ∈ zeros z n, oneA u = true := by
  intro u hu
  rw [zeros_eq] at hu
  obtain ⟨l, hl, hu⟩ := List.mem_flatten.1 hu
  obtain ⟨_, e⟩ := List.mem_replicate.1 hl
  exact h u (e ▸ hu)

theorem sliceElem_eq {d : TypeDesc} {e : TypeId} (h : sliceElem d = some e) : d = .slice e := by
  cases d <;> simp [sliceElem] at h; subst h; rfl

theorem zeroRow (n s : Nat) (zc : Array Value) (hs : zc.size = s) : (if n * s = 0 then (#[] : Array Value) else zc).size = (if n * s = 0 then 0 else s) := by
  split <;> simp [hs]

theorem sim_buildSlice (hT : TyOk P T) {t : TypeId} {len : Nat} {ps : List (Nat × Value)} {ps' : Array (Nat × Value)} {v : Value} (h : buildSlice T t len ps σ = some (v, σ'))
    (hl : ps.length = ps'.toList.length) (hps : ∀ (j : Nat) p p', ps[j]? = some p → ps'.toList[j]? = some p' → p.1 = p'.1 ∧ VR π D p.2 p'.2) (hp : Pre σ σ' π δ D H w) : Does P σ σ' π δ D H w v (Instr.buildSlice t len ps') := by
  obtain ⟨d, hd, e1⟩ := andThen_eq h
  obtain ⟨elem, he, e2⟩ := andThen_eq e1
  obtain ⟨i, hi, e3⟩ := andThen_eq e2
  obtain ⟨z, hz, e4⟩ := andThen_eq e3
  obtain ⟨hb, e5⟩ := iff_some e4
  obtain ⟨cs, hf, e6⟩ := andThen_eq e5
  obtain ⟨rfl, rfl⟩ := newSlice_eq e6
  obtain rfl := sliceElem_eq he
  rw [ble_iff] at hb
  have hb' : len * i.size ≤ 1000000 := hb
  obtain ⟨zv, g1, _, g3, g4, g5⟩ := zcells_eq hT hi hz
  have hzl := (g5 π D).1
  have hzs : zv.cells.toList.length = zv.cells.size := rfl
  have hrow : VRs π D (zeros z len) ((Array.range (len * i.size)).map fun j => (if len * i.size = 0 then (#[] : Array Value) else zv.cells)[j % (if len * i.size = 0 then (#[] : Array Value) else zv.cells).size]!).toList := by
    by_cases h0 : len * i.size = 0
    · rw [zeros_eq, h0]
      have : (List.replicate len z).flatten = [] := by
        apply List.eq_nil_of_length_eq_zero
        rw [List.length_flatten, List.map_replicate, List.sum_replicate_nat, g3, h0]
      rw [this]
      simpa using VRs.nil
    · rw [if_neg h0, zeros_eq]
      have := rep_range zv.cells len
      rw [show zv.cells.size = i.size from by omega] at this ⊢
      rw [this]
      exact (g5 π D).flatten_replicate len
  obtain ⟨r', g8, g9, g10⟩ := fill_sim ps ps'.toList _ _ cs hf hrow (zeros_mem g4) hl hps
  obtain ⟨v', π', D', w', h1, h2, h3⟩ := sim_newSlice (P := P) (elem := elem) (cc := r') hp g9 g10 (Nat.le_refl len)
  refine ⟨v', π', D', w', ?_, h2, h3⟩
  have hfn : (fun (j : Nat) => some (Nat.mul j i.size, i.size)) = (fun j => some (j * i.size, i.size)) := rfl
  rw [hfn] at g8
  simp only [Instr.buildSlice, Sem.run_bind, run_desc hT hd, Result.andThen_ok, run_size hT hi]
  rw [if_neg (by omega)]
  by_cases h0 : len * i.size = 0
  · simp only [if_pos h0] at g8 ⊢
    simp only [Sem.run_bind, Sem.run_pure, Result.andThen_ok, g8] at h1 ⊢
    exact h1
  · simp only [if_neg h0] at g8 ⊢
    simp only [Sem.run_bind, Sem.run_pure, Result.andThen_ok, g8, run_zero hT hi g1] at h1 ⊢
    exact h1
end
end Go.Abs
