/- What the card of ReportBack leans on, part 1: written with few blanks and short names by a program out of longer texts. Conditions: those of each lemma. -/
import GoSem.Step
import Derived.Laws.World
import Derived.Laws.Rows
set_option maxRecDepth 100000
set_option linter.unusedVariables false
set_option linter.unusedSimpArgs false
noncomputable section
namespace Go.az
def iff{α:Type}(c:Bool)(a b:α):α:= @Bool.rec (fun _=>α) b a c
def andThen{α β:Type}(o:Option α)(f:α→Option β):Option β:= @Option.rec α (fun _=>Option β) none f o
def ak{α β γ:Type}(o:Option (α×β))(f:α→β→Option γ):Option γ:= @Option.rec (α×β) (fun _=>Option γ) none (fun p=>f p.1 p.2) o
def au{α β γ δ:Type}(o:Option (α×β×γ))(f:α→β→γ→Option δ):Option δ:= @Option.rec (α×β×γ) (fun _=>Option δ) none (fun p=>f p.1 p.2.1 p.2.2) o
inductive Tr(α:Type):Type where
 |leaf:Tr α
 |node (l:Tr α) (v:Option α) (r:Tr α):Tr α
def half(n:Nat):Nat:=Nat.div n (nat_lit 2)
def Rm(n:Nat):Bool:=Nat.beq (Nat.mod n (nat_lit 2)) (nat_lit 1)
def dS(n:Nat):Bool:=Nat.beq n (nat_lit 0)
namespace Tr
variable {α:Type}
def get(t:Tr α):Nat→Option α:=
 @Tr.rec α (fun _=>Nat→Option α) (fun _=>none) (fun _ v _ gl gr n=>iff (dS n) v (iff (Rm n) (gl (half n)) (gr (Nat.pred (half n))))) t
def single(f:Nat):Nat→α→Tr α:=
 @Nat.rec (fun _=>Nat→α→Tr α) (fun _ v=> .node .leaf (some v) .leaf)
  (fun _ ih n v=>iff (dS n) (.node .leaf (some v) .leaf) (iff (Rm n) (.node (ih (half n) v) none .leaf) (.node .leaf none (ih (Nat.pred (half n)) v)))) f
def set(t:Tr α):Nat→α→Tr α:=
 @Tr.rec α (fun _=>Nat→α→Tr α) (fun n v=>single n n v)
  (fun l x r sl sr n v=>iff (dS n) (.node l (some v) r) (iff (Rm n) (.node (sl (half n) v) x r) (.node l x (sr (Nat.pred (half n)) v)))) t
end Tr
structure TI where
 info:TypeInfo
 desc:TypeDesc
 size:Nat
 agg:Bool
 held:Bool
 guard:Bool
structure ew where
 F:Tr Func
 Y:Tr TI
inductive aN where
 |cells (c:List Value) (s4:Option Nat) (aA:Nat) (ro dead:Bool)
 |map (es:List MapEntry) (clock:Nat)
 |iter (s:List UInt8) (pos:Nat)
structure aD where
 heap:Tr aN
 next:Nat
 low:Nat
 bp:Nat
abbrev Env:=Tr Value
abbrev gk:=Option (Value×aD)
def I4:Value:= .tuple #[.nilFunc]
def fM(o:Option Value):Value:= @Option.rec Value (fun _=>Value) I4 (fun v=>v) o
def UT:Operand→Env→Value
 | .tmp t=>fun e=>fM (e.get t)
 | .const v=>fun _=>v
 | .global g=>fun _=> .pointer (some ⟨g,0,none⟩)
 | .func f=>fun _=> .func (.func f) #[] #[]
def env(e:Env)(x:Operand):Value:=UT x e
def dV(rows:List Value):Value:= .tuple ⟨[.agg ⟨rows⟩]⟩
def fv(cs:List Value):Value:= .tuple ⟨[.tuple ⟨cs⟩]⟩
def I5:Value→Bool
 | .agg _=>true
 | .tuple _=>true
 |_=>false
def Nw:Value→Option (List Value)
 | .agg cs=>some cs.toList
 |_=>none
def I6:Value→Option (List Value)
 | .tuple cs=>some cs.toList
 |_=>none
def Qy:Value→Option (List Value)
 | .agg r=>some [dV r.toList]
 | .tuple r=>some [fv r.toList]
 |_=>none
def nQ:List Value→Option (List Value)
 | [v]=>Nw v
 |_=>none
def tP:List Value→Option (List Value)
 | [v]=>I6 v
 |_=>none
def dF:List Value→Bool
 | [v]=>I5 v
 |_=>false
def I7:Value→Option (List Value)
 | .tuple vs=>nQ vs.toList
 |_=>none
def I8:Value→Bool
 | .tuple vs=>dF vs.toList
 |_=>false
def Nx:List Value→Option (List Value)
 | [v]=>Qy v
 |_=>none
def gZ{α:Type}(x:Value)(f:List Value→Option α)(d:Option α):Option α:=
 match x with
 | .tuple vs=>f vs.toList
 |_=>d
def flat:Value→Option (List Value)
 | .agg cs=>some cs.toList
 | .tuple vs=>Nx vs.toList
 |v=>some [v]
def plain:Addr→Option (Nat×Nat)
 |⟨k,off,none⟩=>some (k,off)
 |⟨_,_,some _⟩=>none
def fN:Value→Option (Nat×Nat)
 | .pointer (some a)=>plain a
 |_=>none
def mK:Value→Option (IntKind×Int)
 | .int k n=>some (k,n)
 |_=>none
def sd:Value→Option Bool
 | .bool b=>some b
 |_=>none
def qD:Value→Option (List UInt8)
 | .string s=>some s.data.toList
 |_=>none
def wO:Value→Option (List Value)
 | .agg cs=>some cs.toList
 |_=>none
def qE:Value→Option (Option Addr×Nat×Nat)
 | .slice a n c=>some (a,n,c)
 |_=>none
def I0:Value→Option (Option Nat)
 | .map r=>some r
 |_=>none
def yQ:IntKind→Nat
 | .i8=>nat_lit 0| .i16=>nat_lit 1| .i32=>nat_lit 2| .i64=>nat_lit 3| .u8=>nat_lit 4| .u16=>nat_lit 5| .u32=>nat_lit 6| .u64=>nat_lit 7
def sameKind(j k:IntKind):Bool:=Nat.beq (yQ j) (yQ k)
def lp:IntKind→Nat
 | .i8=>nat_lit 127| .i16=>nat_lit 32767| .i32=>nat_lit 2147483647| .i64=>nat_lit 9223372036854775807
 | .u8=>nat_lit 255| .u16=>nat_lit 65535| .u32=>nat_lit 4294967295| .u64=>nat_lit 18446744073709551615
def bJ:IntKind→Nat
 | .i8=>nat_lit 256| .i16=>nat_lit 65536| .i32=>nat_lit 4294967296| .i64=>nat_lit 18446744073709551616
 | .u8=>nat_lit 256| .u16=>nat_lit 65536| .u32=>nat_lit 4294967296| .u64=>nat_lit 18446744073709551616
def tc:IntKind→Bool
 | .i8| .i16| .i32| .i64=>true
 | .u8| .u16| .u32| .u64=>false
def fO(k:IntKind)(m:Nat):Int:=iff (Nat.ble m (lp k)) (Int.ofNat m) (Int.negSucc (Nat.pred (Nat.sub (bJ k) m)))
def eU(k:IntKind)(n:Int):Nat:=
 @Int.rec (fun _=>Nat) (fun m=>iff (Nat.blt m (bJ k)) m (Nat.mod m (bJ k))) (fun m=>Nat.sub (bJ k) (Nat.succ (Nat.mod m (bJ k)))) n
def aP(k:IntKind)(n:Int):Int:=
 @Int.rec (fun _=>Int) (fun m=>iff (Nat.ble m (lp k)) (Int.ofNat m) (fO k (Nat.mod m (bJ k))))
  (fun m=>iff (and (tc k) (Nat.ble m (lp k))) (Int.negSucc m) (fO k (Nat.sub (bJ k) (Nat.succ (Nat.mod m (bJ k)))))) n
def cB(x y:Int):Bool:=
 @Int.rec (fun _=>Bool) (fun m=> @Int.rec (fun _=>Bool) (fun n=>Nat.beq m n) (fun _=>false) y) (fun m=> @Int.rec (fun _=>Bool) (fun _=>false) (fun n=>Nat.beq m n) y) x
def bD(x y:Int):Bool:=
 @Int.rec (fun _=>Bool) (fun m=> @Int.rec (fun _=>Bool) (fun n=>Nat.ble m n) (fun _=>false) y) (fun m=> @Int.rec (fun _=>Bool) (fun _=>true) (fun n=>Nat.ble n m) y) x
def an(i:Int)(len:Nat):Option Nat:= @Int.rec (fun _=>Option Nat) (fun m=>iff (Nat.blt m len) (some m) none) (fun _=>none) i
def oQ(i:Int)(most:Nat):Option Nat:= @Int.rec (fun _=>Option Nat) (fun m=>iff (Nat.ble m most) (some m) none) (fun _=>none) i
def aY{α:Type}(l:List α):Nat:= @List.rec α (fun _=>Nat) (nat_lit 0) (fun _ _ n=>Nat.succ n) l
def jT(n:Nat):List Value→List Value:= @Nat.rec (fun _=>List Value→List Value) (fun l=>l) (fun _ ih l=> @List.rec Value (fun _=>List Value) [] (fun _ t _=>ih t) l) n
def gL(l m:List Value):List Value:= @List.rec Value (fun _=>List Value) m (fun a _ ih=>a::ih) l
def aU{α:Type}(n:Nat):List α→Option α:= @Nat.rec (fun _=>List α→Option α) (fun l=> @List.rec α (fun _=>Option α) none (fun a _ _=>some a) l) (fun _ ih l=> @List.rec α (fun _=>Option α) none (fun _ t _=>ih t) l) n
def lq(n:Nat):List Value→Option (List Value):=
 @Nat.rec (fun _=>List Value→Option (List Value)) (fun _=>some []) (fun _ ih l=> @List.rec Value (fun _=>Option (List Value)) none (fun a t _=>andThen (ih t) fun r=>some (a::r)) l) n
def sub(l:List Value)(off n:Nat):Option (List Value):=lq n (jT off l)
def over(vs:List Value):List Value→Option (List Value):=
 @List.rec Value (fun _=>List Value→Option (List Value)) (fun l=>some l) (fun v _ ih l=> @List.rec Value (fun _=>Option (List Value)) none (fun _ t _=>andThen (ih t) fun r=>some (v::r)) l) vs
def splice(vs:List Value)(off:Nat):List Value→Option (List Value):=
 @Nat.rec (fun _=>List Value→Option (List Value)) (over vs) (fun _ ih l=> @List.rec Value (fun _=>Option (List Value)) none (fun a t _=>andThen (ih t) fun r=>some (a::r)) l) off
def nq{α β:Type}(f:α→β)(l:List α):List β:= @List.rec α (fun _=>List β) [] (fun a _ ih=>f a::ih) l
def aW(z:Nat)(rows:List Value):Option (List Value):=
 @List.rec Value (fun _=>Option (List Value)) (some []) (fun r _ ih=>andThen (wO r) fun c=>iff (Nat.beq (aY c) z) (andThen ih fun d=>some (gL c d)) none) rows
def chunks(z:Nat):Nat→List Value→Option (List Value):=
 fun n=> @Nat.rec (fun _=>List Value→Option (List Value)) (fun _=>some []) (fun _ ih l=>andThen (lq z l) fun c=>andThen (ih (jT z l)) fun r=>some (.agg ⟨c⟩::r)) n
def rowOf:aN→Option (List Value)
 | .cells c _ _ _ false=>some c
 |_=>none
def rowsOf:aN→Option (List Value×Option Nat×Nat)
 | .cells c e aA false false=>some (c,e,aA)
 |_=>none
def entriesOf:aN→Option (List MapEntry×Nat)
 | .map es clock=>some (es,clock)
 |_=>none
def Dk:aN→Option (List UInt8×Nat)
 | .iter s pos=>some (s,pos)
 |_=>none
def jh(a b:Nat):Nat:=iff (Nat.ble a b) a b
namespace aD
def obj(σ:aD)(k:Nat):Option aN:=σ.heap.get k
def row(σ:aD)(k:Nat):Option (List Value):=andThen (σ.obj k) rowOf
def new(σ:aD)(o:aN):aD:=⟨σ.heap.set σ.next o,Nat.succ σ.next,σ.low,σ.bp⟩
def newRow(σ:aD)(c:List Value):aD:=σ.new (.cells c none σ.next false false)
def db(σ:aD)(k off n:Nat):Option (List Value):=andThen (σ.row k) fun c=>sub c off n
def lower(σ:aD)(n:Nat):Nat:=jh n σ.low
def setAt(σ:aD)(k off:Nat)(vs:List Value):Option aD:=
 au (andThen (σ.obj k) rowsOf) fun c e aA=>andThen (splice vs off c) fun c'=>some ⟨σ.heap.set k (.cells c' e aA false false),σ.next,σ.lower aA,σ.bp⟩
def kill(σ:aD)(k n:Nat):Option (Nat×Nat×aD):=
 au (andThen (σ.obj k) rowsOf) fun c e aA=>iff (Nat.beq (aY c) n) (andThen e fun z=>some (z,aA,⟨σ.heap.set k (.cells c (some z) aA false true),σ.next,σ.low,jh k σ.bp⟩)) none
def dG(σ:aD)(r:Nat)(es:List MapEntry)(clock:Nat):aD:=⟨σ.heap.set r (.map es clock),σ.next,σ.lower r,σ.bp⟩
end aD
def val(σ:aD)(o:Option Value):gk:=andThen o fun v=>some (v,σ)
def unit(o:Option aD):gk:=andThen o fun s=>some (undef,s)
section
variable (T:ew)
def ty(t:TypeId):Option TI:=T.Y.get t
def desc(t:TypeId):Option TypeDesc:=andThen (ty T t) fun i=>some i.desc
def size(t:TypeId):Option Nat:=andThen (ty T t) fun i=>some i.size
def zero(t:TypeId):Option Value:=andThen (ty T t) fun i=>i.info.zero
def isIface:TypeDesc→Bool| .interface _=>true|_=>false
def intKind:TypeDesc→Option IntKind| .int k=>some k|_=>none
def bL:TypeDesc→Option TypeId| .slice e=>some e|_=>none
def yR:TypeDesc→Option (TypeId×TypeId)| .map k e=>some (k,e)|_=>none
def Qz:TypeDesc→Option (Nat×TypeId)| .array n e=>some (n,e)|_=>none
def structOf:TypeDesc→Option (List Field)| .struct fs=>some fs.toList|_=>none
def A3:TypeDesc→Bool| .pointer _=>true|_=>false
def Ny(o:Option (List Value)):Option Value:=andThen o fun r=>some (.agg ⟨r⟩)
def part(t:TypeId)(cs:List Value)(off:Nat):Option Value:=
 andThen (ty T t) fun i=>iff i.agg (Ny (sub cs off i.size)) (aU off cs)
def jU(σ:aD)(t:TypeId)(k off:Nat):Option Value:=andThen (σ.row k) fun c=>part T t c off
def fill(place:Nat→Option (Nat×Nat)):List (Nat×Value)→List Value→Option (List Value)
 | [],cells=>some cells
 |p::rest,cells=>ak (place p.1) fun off size=>andThen (flat p.2) fun vs=>iff (Nat.beq (aY vs) size) (andThen (splice vs off cells) (fill place rest)) none
def places:List Field→Option (List (Nat×Nat))
 | []=>some []
 |f::fs=>andThen (size T f.type) fun s=>andThen (places fs) fun r=>some ((f.offset,s)::r)
def dY(i:TI):Option (List Value):=andThen i.info.zero fun z=>andThen (flat z) fun cs=>iff (Nat.beq (aY cs) i.size) (some cs) none
def Ff(z:List Value)(parts:List (Nat×Value)):TypeDesc→Option Value
 | .struct fields=>andThen (places T fields.toList) fun ps=>Ny (fill (fun i=>aU i ps) parts z)
 | .array _ elem=>andThen (size T elem) fun s=>Ny (fill (fun i=>some (Nat.mul i s,s)) parts z)
 |_=>none
def build(t:TypeId)(parts:List (Nat×Value)):Option Value:=
 andThen (ty T t) fun i=>andThen (dY i) fun z=>Ff T z parts i.desc
def fD(z:List Value):Nat→List Value
 |0=>[]
 |n+1=>gL z (fD z n)
def lP(σ:aD)(len cap:Nat)(cs:List Value):gk:=some (.slice (some ⟨σ.next,0,none⟩) len cap,σ.newRow cs)
def buildSlice(t:TypeId)(len:Nat)(parts:List (Nat×Value))(σ:aD):gk:=
 andThen (desc T t) fun d=>andThen (bL d) fun elem=>andThen (ty T elem) fun i=>andThen (dY i) fun z=>
  iff (Nat.ble (Nat.mul len i.size) (nat_lit 1000000))
   (andThen (fill (fun j=>some (Nat.mul j i.size,i.size)) parts (fD z len)) fun cs=>lP σ len len cs) none
def sf(f:List Value→List Value→Option Bool)(sz:Nat):Nat→List Value→List Value→Option Bool
 |0,_,_=>some true
 |n+1,xs,ys=>andThen (f xs ys) fun b=>iff b (sf f sz n (jT sz xs) (jT sz ys)) (some false)
def eqFields(f:TypeId→Nat→Option Bool):List Field→Option Bool
 | []=>some true
 |x::fs=>iff (x.name== "_") (eqFields f fs) (andThen (f x.type x.offset) fun b=>iff b (eqFields f fs) (some false))
def lQ:Nat→List Value→List Value→Option Bool
 |0,_,_=>some true
 |n+1,xs,ys=>andThen (aU 0 xs) fun x=>andThen (aU 0 ys) fun y=>ak (mK x) fun k a=>ak (mK y) fun k' b=>
   iff (sameKind k k') (iff (cB a b) (lQ n (jT 1 xs) (jT 1 ys)) (some false)) none
def yS:Value→Option Bool
 | .pointer a=>some a.isNone
 |_=>none
def qF:Value→Option (Option (TypeId×Value))
 | .nilIface=>some none
 | .iface t v=>some (some (t,v))
 |_=>none
def yT:Value→Option Bool
 | .nilFunc=>some true
 | .func .. =>some false
 |_=>none
def aQ(a b:List UInt8):Bool:=a==b
def nC(a b:Bool):Option Bool:=iff a (some b) (iff b (some false) none)
def UU(f:TypeId→Value→Value→Option Bool)(a b:Option (TypeId×Value)):Option Bool:=
 match a,b with
 |none,b=>some b.isNone
 |some _,none=>some false
 |some x,some y=>iff (Nat.beq x.1 y.1) (andThen (ty T x.1) fun j=>iff j.info.comparable (f x.1 x.2 y.2) none) (some false)
def Z2(x y:Value):Option Bool:=andThen (sd x) fun a=>andThen (sd y) fun b=>some (a==b)
def Zo(x y:Value):Option Bool:=ak (mK x) fun k a=>ak (mK y) fun k' b=>iff (sameKind k k') (some (cB a b)) none
def Z3(x y:Value):Option Bool:=andThen (qD x) fun a=>andThen (qD y) fun b=>some (aQ a b)
def Z4(x y:Value):Option Bool:=andThen (yS x) fun a=>andThen (yS y) fun b=>nC a b
def XQ(f:TypeId→Value→Value→Option Bool)(x y:Value):Option Bool:=andThen (qF x) fun a=>andThen (qF y) fun b=>UU T f a b
def fw(f:TypeId→Value→Value→Option Bool)(xs ys:List Value)(u:TypeId)(off:Nat):Option Bool:=
 andThen (part T u xs off) fun a=>andThen (part T u ys off) fun b=>f u a b
def oR(f:TypeId→Value→Value→Option Bool)(held:Bool)(fields:List Field)(x y:Value):Option Bool:=
 iff held none (andThen (wO x) fun xs=>andThen (wO y) fun ys=>eqFields (fw T f xs ys) fields)
def yU(t:TypeId):Bool:=match andThen (desc T t) intKind with|some _=>true|none=>false
def yV(f:TypeId→Value→Value→Option Bool)(len:Nat)(elem:TypeId)(x y:Value):Option Bool:=
 andThen (wO x) fun xs=>andThen (wO y) fun ys=>andThen (size T elem) fun z=>
  iff (and (yU T elem) (Nat.beq z 1)) (lQ len xs ys) (sf (fun l r=>fw T f l r elem 0) z len xs ys)
def Fg:List Value→Option Bool
 | []=>none
 |_::_=>some false
def I9:Value→Option Bool
 | .slice a _ _=>some a.isNone
 | .tuple vs=>andThen (nQ vs.toList) Fg
 |_=>none
def XR(x y:Value):Option Bool:=andThen (I9 x) fun a=>andThen (I9 y) fun b=>nC a b
def Z5(x y:Value):Option Bool:=andThen (I0 x) fun a=>andThen (I0 y) fun b=>nC a.isNone b.isNone
def Z6(x y:Value):Option Bool:=andThen (yT x) fun a=>andThen (yT y) fun b=>nC a b
def XT:TypeDesc→ew→(TypeId→Value→Value→Option Bool)→Bool→Value→Value→Option Bool
 | .bool=>fun _ _ _=>Z2
 | .int _=>fun _ _ _=>Zo
 | .string=>fun _ _ _=>Z3
 | .pointer _=>fun _ _ _=>Z4
 | .interface _=>fun T f _=>XQ T f
 | .struct fields=>fun T f held=>oR T f held fields.toList
 | .array len elem=>fun T f _=>yV T f len elem
 | .slice _=>fun _ _ _=>XR
 | .map _ _=>fun _ _ _=>Z5
 | .func _ _ _=>fun _ _ _=>Z6
 |_=>fun _ _ _ _ _=>none
def wR:Nat→TypeId→Value→Value→Option Bool
 |0,_,_,_=>none
 |d+1,t,x,y=>andThen (ty T t) fun i=>XT i.desc T (wR d) i.held x y
def isConst:Operand→Bool
 | .const _=>true
 |_=>false
def guarded(t:TypeId)(x y:Operand):Value→Bool
 | .nilIface=>or (isConst x) (isConst y)
 | .agg _=>match ty T t with|some i=>not i.guard|none=>false
 | .tuple vs=>dF vs.toList
 |_=>true
def bitsOf(k:IntKind)(f:Nat→Nat→Nat)(x y:Int):Option Value:=some (.int k (fO k (f (eU k x) (eU k y))))
def Nz(k:IntKind)(a b:Nat):Nat:=Nat.land a (Nat.sub (Nat.pred (bJ k)) b)
def yW(k:IntKind)(_x:Int)(y:Int)(f:Nat→Option Value):Option Value:=
 @Int.rec (fun _=>Option Value) (fun n=>f (iff (Nat.ble n k.bits) n k.bits)) (fun _=>none) y
def A4:BinOp→IntKind→Int→Int→Option Value
 | .add=>fun k x y=>some (.int k (aP k (Int.add x y)))
 | .sub=>fun k x y=>some (.int k (aP k (Int.sub x y)))
 | .mul=>fun k x y=>some (.int k (aP k (Int.mul x y)))
 | .quo=>fun k x y=>iff (cB y (Int.ofNat 0)) none (some (.int k (aP k (x.tdiv y))))
 | .rem=>fun k x y=>iff (cB y (Int.ofNat 0)) none (some (.int k (x.tmod y)))
 | .and=>fun k=>bitsOf k Nat.land
 | .or=>fun k=>bitsOf k Nat.lor
 | .xor=>fun k=>bitsOf k Nat.xor
 | .andNot=>fun k=>bitsOf k (Nz k)
 | .eql=>fun _ x y=>some (.bool (cB x y))
 | .neq=>fun _ x y=>some (.bool (not (cB x y)))
 | .lss=>fun _ x y=>some (.bool (not (bD y x)))
 | .leq=>fun _ x y=>some (.bool (bD x y))
 | .gtr=>fun _ x y=>some (.bool (not (bD x y)))
 | .geq=>fun _ x y=>some (.bool (bD y x))
 | .shl=>fun k x y=>yW k x y fun n=>some (.int k (aP k (Int.mul x (Int.ofNat (Nat.pow 2 n)))))
 | .shr=>fun k x y=>yW k x y fun n=>some (.int k (x.fdiv (Int.ofNat (Nat.pow 2 n))))
def Fh:BinOp→List UInt8→List UInt8→Option Value
 | .add=>fun x y=>iff (Nat.ble (Nat.add (aY x) (aY y)) (nat_lit 1000000000)) (some (.string ⟨⟨x++y⟩⟩)) none
 | .eql=>fun x y=>some (.bool (aQ x y))
 | .neq=>fun x y=>some (.bool (not (aQ x y)))
 | .lss=>fun x y=>some (.bool (Op.bytesLess x y))
 | .leq=>fun x y=>some (.bool (or (Op.bytesLess x y) (aQ x y)))
 | .gtr=>fun x y=>some (.bool (not (or (Op.bytesLess x y) (aQ x y))))
 | .geq=>fun x y=>some (.bool (not (Op.bytesLess x y)))
 |_=>fun _ _=>none
def yX:BinOp→Bool
 | .shl| .shr=>true
 |_=>false
def A5:BinOp→Option Bool
 | .eql=>some false
 | .neq=>some true
 |_=>none
def Rn(op:BinOp)(t:TypeId)(x y:Value):Option Value:=
 andThen (A5 op) fun n=>andThen (wR T 10 t x y) fun b=>some (.bool (iff n (not b) b))
def UW(k:IntKind)(a:Int)(op:BinOp)(y:Value):Option Value:=
 ak (mK y) fun k' b=>iff (or (yX op) (sameKind k k')) (A4 op k a b) none
def UX(a:List UInt8)(op:BinOp)(y:Value):Option Value:=andThen (qD y) fun b=>Fh op a b
def Dl:Value→ew→BinOp→TypeId→Value→Option Value
 | .int k a=>fun _ op _=>UW k a op
 | .string a=>fun _ op _=>UX a.data.toList op
 | .float _ _=>fun _ _ _ _=>none
 | .complex _ _ _=>fun _ _ _ _=>none
 |x=>fun T op t y=>Rn T op t x y
def UY(x:Value):Option Value:=ak (mK x) fun k n=>some (.int k (aP k (Int.neg n)))
def UZ(x:Value):Option Value:=ak (mK x) fun k n=>some (.int k (fO k (Nat.sub (Nat.pred (bJ k)) (eU k n))))
def U0(x:Value):Option Value:=andThen (sd x) fun b=>some (.bool (not b))
def XU:UnOp→Value→Option Value
 | .neg=>UY
 | .xor=>UZ
 | .not=>U0
 |_=>fun _=>none
def byteOf:Value→Option UInt8
 | .int .u8 n=>some (UInt8.ofNat n.toNat)
 |_=>none
def bytesOf:List Value→Option (List UInt8)
 | []=>some []
 |v::vs=>andThen (byteOf v) fun b=>andThen (bytesOf vs) fun r=>some (b::r)
def byteCells(l:List UInt8):List Value:=nq (fun b=> .int .u8 (Int.ofNat b.toNat)) l
def qG(t:TypeId):Bool:=
 match andThen (desc T t) intKind with
 |some .u8=>true
 |_=>false
def bM(σ:aD)(len:Nat)(cs:List Value)(z aA:Nat):gk:=
 some (.slice (some ⟨σ.next,0,some z⟩) len len,σ.new (.cells cs (some z) aA false false))
def td(σ:aD)(ds:TypeDesc):Value→gk
 | .string s=>some (.string s,σ)
 | .int _ n=>some (.string (Utf8.encode n),σ)
 | .slice a len _=>andThen (bL ds) fun e=>iff (qG T e)
   (match a with
   |none=>some (.string .empty,σ)
   |some a=>andThen (σ.db a.block a.off len) fun cs=>andThen (bytesOf cs) fun l=>some (.string ⟨⟨l⟩⟩,σ))
   none
 | .tuple vs=>andThen (bL ds) fun e=>iff (qG T e) (andThen (nQ vs.toList) fun rows=>andThen (aW 1 rows) fun cs=>andThen (bytesOf cs) fun l=>some (.string ⟨⟨l⟩⟩,σ)) none
 |_=>none
def Ja(ds:TypeDesc)(x:Value)(σ:aD):TypeDesc→gk
 | .int k=>ak (mK x) fun _ n=>some (.int k (aP k n),σ)
 | .string=>td T σ ds x
 | .slice e=>andThen (qD x) fun s=>iff (qG T e) (bM σ (aY s) (byteCells s) 1 σ.next) none
 |_=>none
def tQ(src dst:TypeId)(x:Value)(σ:aD):gk:=
 andThen (desc T src) fun ds=>andThen (desc T dst) fun dd=>Ja T ds x σ dd
def bound(dflt most:Nat):Option Value→Option Nat
 |none=>some dflt
 |some v=>ak (mK v) fun _ i=>oQ i most
def eE(len cap:Nat)(lo hi mx:Option Value):Option (Nat×Nat×Nat):=
 iff (and mx.isSome hi.isNone) none
 (andThen (bound cap cap mx) fun m=>andThen (bound len m hi) fun h=>andThen (bound 0 h lo) fun l=>some (l,h,m))
def cut(k off z l h m:Nat):Value:= .slice (some ⟨k,iff (Nat.beq m l) off (Nat.add off (Nat.mul l z)),none⟩) (Nat.sub h l) (Nat.sub m l)
def cutAt(mx:Option Value)(z l h m:Nat):Option Addr→Option Value
 |none=>some (.slice none (Nat.sub h l) (Nat.sub m l))
 |some ⟨k,off,none⟩=>some (cut k off z l h m)
 |some ⟨k,off,some s⟩=>iff (Nat.beq s z) (some (iff mx.isSome (cut k off z l h m) (.slice (some ⟨k,Nat.add off (Nat.mul l z),some s⟩) (Nat.sub h l) (Nat.sub m l)))) none
def Jb(x:Value)(lo hi mx:Option Value):Option Value:=
 andThen (qD x) fun s=>iff mx.isSome none (au (eE (aY s) (aY s) lo hi none) fun l h _=>some (.string ⟨⟨(s.drop l).take (Nat.sub h l)⟩⟩))
def Jc(z:Nat):List Value→Bool
 | []=>true
 |r::_=>match wO r with|some c=>Nat.beq (aY c) z|none=>false
def yY(mx:Option Value)(rows:List Value)(l h m:Nat):Option Value:=
 iff mx.isSome (iff (dS m) (match rows with| []=>some (dV [])|_::_=>some (.slice (some ⟨0,0,none⟩) 0 0)) none) (andThen (sub rows l (Nat.sub h l)) fun r=>some (dV r))
def NA(e:TypeId)(x:Value)(lo hi mx:Option Value):Option Value:=
 gZ x (fun vs=>andThen (nQ vs) fun rows=>andThen (size T e) fun z=>iff (Jc z rows) (au (eE (aY rows) (aY rows) lo hi mx) fun l h m=>yY mx rows l h m) none)
  (au (qE x) fun a len cap=>andThen (size T e) fun z=>au (eE len cap lo hi mx) fun l h m=>cutAt mx z l h m a)
def Jd(n:Nat)(e:TypeId)(x:Value)(lo hi mx:Option Value):Option Value:=
 gZ x (fun vs=>andThen (tP vs) fun cs=>andThen (size T e) fun z=>iff mx.isSome none (au (eE n n lo hi none) fun l h _=>andThen (chunks z (Nat.sub h l) (jT (Nat.mul l z) cs)) fun rows=>some (dV rows)))
  (ak (fN x) fun k off=>andThen (size T e) fun z=>au (eE n n lo hi mx) fun l h m=>some (cut k off z l h m))
def Je:TypeDesc→ew→Value→Option Value→Option Value→Option Value→Option Value
 | .string=>fun _=>Jb
 | .slice e=>fun T=>NA T e
 | .array n e=>fun T=>Jd T n e
 |_=>fun _ _ _ _ _=>none
def qH(t:TypeId)(x:Value)(lo hi mx:Option Value):Option Value:=
 andThen (desc T t) fun d=>Je d T x lo hi mx
def tR(k off:Nat):Option Value:=some (.pointer (some ⟨k,off,none⟩))
def A6(off z:Nat)(cs:List Value):Option Value:=iff (Nat.ble (Nat.add off z) (aY cs)) (some (fv (jT off cs))) none
def kA(len:Nat)(e:TypeId)(x:Value)(i:Int):Option Value:=
 gZ x (fun vs=>andThen (tP vs) fun cs=>andThen (size T e) fun z=>andThen (an i len) fun j=>A6 (Nat.mul j z) z cs)
  (ak (fN x) fun k off=>andThen (size T e) fun z=>andThen (an i len) fun j=>tR k (Nat.add off (Nat.mul j z)))
def rowAt(z:Nat)(rows:List Value)(j:Nat):Option Value:=andThen (aU j rows) fun r=>andThen (wO r) fun c=>iff (Nat.beq (aY c) z) (some (fv c)) none
def lR(e:TypeId)(x:Value)(i:Int):Option Value:=
 gZ x (fun vs=>andThen (nQ vs) fun rows=>andThen (size T e) fun z=>andThen (an i (aY rows)) fun j=>rowAt z rows j)
  (au (qE x) fun a len _=>andThen a fun a=>andThen (size T e) fun z=>andThen (an i len) fun j=>tR a.block (Nat.add a.off (Nat.mul j z)))
def nR:TypeDesc→ew→Value→Int→Option Value
 | .array len e=>fun T=>kA T len e
 | .slice e=>fun T=>lR T e
 |_=>fun _ _ _=>none
def kC(t:TypeId)(x ix:Value):Option Value:=
 ak (mK ix) fun _ i=>andThen (desc T t) fun d=>nR d T x i
def tS(len:Nat)(e:TypeId)(x:Value)(i:Int):Option Value:=
 andThen (wO x) fun cs=>andThen (size T e) fun z=>andThen (an i len) fun j=>part T e cs (Nat.mul j z)
def Jf(x:Value)(i:Int):Option Value:=
 andThen (qD x) fun s=>andThen (an i (aY s)) fun j=>andThen (aU j s) fun b=>some (.int .u8 (Int.ofNat b.toNat))
def Dm:TypeDesc→ew→Value→Int→Option Value
 | .array len e=>fun T=>tS T len e
 | .string=>fun _=>Jf
 |_=>fun _ _ _=>none
def yZ(t:TypeId)(x ix:Value):Option Value:=
 ak (mK ix) fun _ i=>andThen (desc T t) fun d=>Dm d T x i
def gD(t:TypeId)(f:Nat):Option Field:=andThen (desc T t) fun d=>andThen (structOf d) fun fs=>aU f fs
def kD(t:TypeId)(x:Value)(f:Nat):Option Value:=
 gZ x (fun vs=>andThen (tP vs) fun cs=>andThen (gD T t f) fun g=>andThen (size T g.type) fun z=>iff (dS z) none (A6 g.offset z cs))
  (ak (fN x) fun k off=>andThen (gD T t f) fun g=>andThen (size T g.type) fun z=>iff (dS z) none (tR k (Nat.add off g.offset)))
def za(t:TypeId)(x:Value)(f:Nat):Option Value:=
 andThen (wO x) fun cs=>andThen (gD T t f) fun g=>part T g.type cs g.offset
def jn(t:TypeId):Bool:=match andThen (desc T t) intKind with|some _=>true|none=>false
def Jg:TypeDesc→Bool
 | .int _=>true
 | .string=>true
 | .array _ e=>jn T e
 |_=>false
def NB(t:TypeId):Bool:=match desc T t with|some d=>Jg T d|none=>false
def NC:TypeDesc→Bool
 | .int _=>true
 | .string=>true
 | .bool=>true
 | .array _ e=>jn T e
 | .struct fs=>or (fs.toList.all fun f=>jn T f.type) (fs.toList.all fun f=>NB T f.type)
 |_=>false
def QA(t:TypeId):Bool:=match desc T t with|some d=>NC T d|none=>false
def lr(t:TypeId)(k:Value):List MapEntry→Nat→Option (Option (Nat×MapEntry))
 | [],_=>some none
 |e::es,i=>andThen (wR T 3 t k e.key) fun b=>iff b (some (some (i,e))) (lr t k es (Nat.succ i))
def tT(v:Value)(n:Nat)(e:TypeId):Bool:=match wO v,size T e with|some cs,some z=>and (Nat.beq z 1) (Nat.beq (aY cs) n)|_,_=>false
def A7(v:Value):TypeDesc→Bool
 | .int _=>true
 | .string=>true
 | .array n e=>and (jn T e) (tT T v n e)
 |_=>false
def tf(cs:List Value)(f:Field):Bool:=match part T f.type cs f.offset,desc T f.type with|some v,some d=>A7 T v d|_,_=>false
def zc(ix:Value):TypeDesc→Bool
 | .array n e=>tT T ix n e
 | .struct fs=>match wO ix with|some cs=>or (and (fs.toList.all fun f=>jn T f.type) (fs.toList.all fun f=>Nat.blt f.offset (aY cs))) (fs.toList.all fun f=>tf T cs f)|none=>false
 |_=>true
def nS(t:TypeId)(ix:Value):Bool:=match desc T t with|some d=>zc T ix d|none=>false
def gg(t:TypeId)(k:Value)(es:List MapEntry):Option (Option (Nat×MapEntry)):=iff (nS T t k) (lr T t k es (nat_lit 0)) none
def tU(σ:aD):Option Nat→Option (List MapEntry)
 |none=>some []
 |some r=>ak (andThen (σ.obj r) entriesOf) fun es _=>some es
def mapType(t:TypeId):Option (TypeId×TypeId):=andThen (desc T t) fun d=>ak (yR d) fun k e=>iff (QA T k) (some (k,e)) none
def oS(ok:Bool)(v:Value)(b:Bool):Value:=iff ok (.tuple #[v,.bool b]) v
def jo(σ:aD)(t:TypeId)(x ix:Value)(ok:Bool):Option Value:=
 ak (mapType T t) fun key elem=>andThen (I0 x) fun r=>andThen (tU σ r) fun es=>andThen (gg T key ix es) fun hit=>
  match hit with
  |some (_,e)=>some (oS ok e.val true)
  |none=>andThen (zero T elem) fun z=>some (oS ok z false)
def cN(v:Value):List MapEntry→Nat→List MapEntry
 | [],_=>[]
 |e::es,0=> {e with val:=v}::es
 |e::es,i+1=>e::cN v es i
def iE:List Value→List Value→Bool
 | []=>fun b=>match b with| []=>true|_::_=>false
 |x::a=>fun b=>match b with| []=>false|y::b=>match mK x,mK y with|some p,some q=>and (and (sameKind p.1 q.1) (cB p.2 q.2)) (iE a b)|_,_=>false
def sameKey:Value→Value→Bool
 | .int k a=>fun y=>match mK y with|some q=>and (sameKind k q.1) (cB a q.2)|none=>false
 | .string a=>fun y=>match qD y with|some q=>aQ a.data.toList q|none=>false
 | .bool a=>fun y=>match sd y with|some q=>a==q|none=>false
 | .agg a=>fun y=>match wO y with|some q=>iE a.toList q|none=>false
 |_=>fun _=>false
def gE(σ:aD)(t:TypeId)(m k x:Value):Option aD:=
 ak (mapType T t) fun key _=>andThen (I0 m) fun r=>andThen r fun r=>ak (andThen (σ.obj r) entriesOf) fun es clock=>andThen (gg T key k es) fun hit=>
  match hit with
  |some (i,e)=>iff (sameKey e.key k) (some (σ.dG r (cN x es i) clock)) none
  |none=>some (σ.dG r (es++[{key:=k,val:=x,born:=clock}]) (Nat.succ clock))
def fP(σ:aD)(t:TypeId)(m k:Value):Option aD:=
 ak (mapType T t) fun key _=>andThen (I0 m) fun r=>andThen r fun r=>ak (andThen (σ.obj r) entriesOf) fun es clock=>andThen (gg T key k es) fun hit=>
  match hit with
  |some (i,_)=>some (σ.dG r (es.eraseIdx i) clock)
  |none=>some (σ.dG r es clock)
def fE(asserted:TypeId)(ok:Bool):Option Value:=iff ok (andThen (zero T asserted) fun z=>some (.tuple #[z,.bool false])) none
def ND(asserted:TypeId)(ok:Bool)(t:TypeId)(v:Value):TypeDesc→Option Value
 | .interface want=>andThen (ty T t) fun i=>match Instr.missingMethod want i.info.methods with|none=>some (oS ok (.iface t v) true)|some _=>fE T asserted ok
 |_=>iff (Nat.beq t asserted) (some (oS ok v true)) (fE T asserted ok)
def Fi(x:Value)(asserted:TypeId)(ok:Bool):Option Value:=
 andThen (desc T asserted) fun d=>andThen (qF x) fun o=>
  match o with
  |none=>fE T asserted ok
  |some (t,v)=>ND T asserted ok t v d
def Fj:Fn→Bool
 | .func _=>true
 |_=>false
def zd:Value→Option Value
 | .pointer (some a)=>some (.pointer (some a))
 | .iface t v=>some (.iface t v)
 | .func fn a b=>iff (Fj fn) (some (.func fn a b)) none
 | .slice a n c=>some (.slice a n c)
 | .map r=>some (.map r)
 | .tuple vs=>andThen (tP vs.toList) fun cs=>some (fv cs)
 |_=>none
def A8:Value→Option Nat
 | .slice _ n _=>some n
 | .string s=>some (aY s.data.toList)
 | .tuple vs=>andThen (nQ vs.toList) fun rows=>some (aY rows)
 |_=>none
def lS(σ:aD)(n:Nat):Option Addr→Option (List Value)
 |some a=>σ.db a.block a.off n
 |none=>iff (dS n) (some []) none
def nT(σ:aD)(z n:Nat):Value→Option (List Value)
 | .slice a _ _=>lS σ (Nat.mul n z) a
 | .string s=>some (byteCells (s.data.toList.take n))
 | .tuple vs=>andThen (nQ vs.toList) fun rows=>andThen (lq n rows) fun r=>aW z r
 |_=>none
def sg(σ:aD)(ei:TI)(x:Value):TypeDesc→Option (Nat×List Value)
 | .int _=>ak (mK x) fun k n=>andThen (oQ n 100000) fun m=>andThen (dY ei) fun z=>iff (and (sameKind k .i64) (Nat.ble (Nat.mul m ei.info.bytes) (nat_lit 1000000000))) (some (m,fD z m)) none
 |_=>andThen (A8 x) fun n=>andThen (nT σ ei.size n x) fun ys=>iff (Nat.beq (aY ys) (Nat.mul n ei.size)) (some (n,ys)) none
def nU(σ:aD)(cs:List Value)(off:Nat)(v:Value):Option Addr→gk
 |none=>some (v,σ)
 |some a=>iff (dS (aY cs)) (some (v,σ)) (andThen (σ.setAt a.block (Nat.add a.off off) cs) fun σ'=>some (v,σ'))
def xn(σ:aD)(z len need:Nat)(cs:List Value):Option Addr→gk
 |some ⟨k,off,some s⟩=>iff (Nat.beq s z) (au (σ.kill k (Nat.add off (Nat.mul len z))) fun z' aA σ'=>iff (Nat.beq z' z) (bM σ' need cs z aA) none) none
 |_=>bM σ need cs z σ.next
def tg(s:Value)(n:Nat)(σ:aD):gk:=iff (dS n) (some (s,σ)) none
def th(sT xT:TypeId)(s x:Value)(σ:aD):gk:=
 andThen (desc T sT) fun d=>andThen (bL d) fun e=>andThen (ty T e) fun ei=>
 gZ s (fun vs=>andThen (nQ vs) fun rows=>andThen (desc T xT) fun dx=>ak (sg σ ei x dx) fun n _=>tg (dV rows) n σ) <|
 au (qE s) fun base len cap=>
  andThen (desc T xT) fun dx=>ak (sg σ ei x dx) fun n ys=>
   iff (Nat.ble (Nat.add len n) cap) (nU σ ys (Nat.mul len ei.size) (.slice base (Nat.add len n) cap) base)
   (iff (and (Nat.ble (Nat.mul (Nat.add len n) (Nat.succ ei.info.bytes)) (nat_lit 1000000000)) (Nat.ble 1 ei.info.bytes))
    (andThen (dY ei) fun _=>andThen (lS σ (Nat.mul len ei.size) base) fun iw=>xn σ ei.size len (Nat.add len n) (gL iw ys) base)
   none)
def copyV(dT:TypeId)(d src:Value)(σ:aD):gk:=
 andThen (desc T dT) fun dd=>andThen (bL dd) fun e=>andThen (size T e) fun z=>au (qE d) fun base dLen _=>
  andThen (A8 src) fun A9=>andThen (nT σ z (jh A9 dLen) src) fun cs=>nU σ cs 0 (.int .i64 (Int.ofNat (jh A9 dLen))) base
def Dn(t:TypeId)(x:Value)(σ:aD):gk:=
 andThen (desc T t) fun d=>andThen (bL d) fun e=>andThen (ty T e) fun ei=>andThen (dY ei) fun z=>au (qE x) fun base len cap=>
  iff (Nat.ble len cap) (nU σ (fD z len) 0 (.tuple #[]) base) none
def Ro(x:Value):Option Nat:=andThen (qD x) fun s=>some (aY s)
def Jh:Value→Option Nat
 | .slice _ n _=>some n
 | .tuple vs=>andThen (nQ vs.toList) fun rows=>some (aY rows)
 |_=>none
def zg(σ:aD)(x:Value):Option Nat:=andThen (I0 x) fun r=>andThen (tU σ r) fun es=>some (aY es)
def Rq(a:TypeId):Option Nat:=andThen (desc T a) fun d=>ak (Qz d) fun n _=>some n
def Rr:TypeDesc→ew→aD→Value→Option Nat
 | .string=>fun _ _=>Ro
 | .array n _=>fun _ _ _=>some n
 | .slice _=>fun _ _=>Jh
 | .map _ _=>fun _=>zg
 | .pointer a=>fun T _ _=>Rq T a
 |_=>fun _ _ _=>none
def Fk(o:Option Nat):Option Value:=andThen o fun n=>some (.int .i64 (Int.ofNat n))
def Ji(σ:aD)(t:TypeId)(x:Value):Option Value:=andThen (desc T t) fun d=>Fk (Rr d T σ x)
def XV:Option Addr→Bool
 |some ⟨_,_,some _⟩=>false
 |_=>true
def U1(x:Value):TypeDesc→Option Nat
 | .array n _=>some n
 | .slice _=>au (qE x) fun a _ n=>iff (XV a) (some n) none
 |_=>none
def U2(t:TypeId)(x:Value):Option Value:=andThen (desc T t) fun d=>Fk (U1 x d)
def Jj(b:Bool):List Value→Value→Option Value
 | [],v=>some v
 |w::r,v=>ak (mK v) fun k x=>ak (mK w) fun _ y=>Jj b r (.int k (iff b (iff (bD x y) x y) (iff (bD y x) x y)))
def tV{α:Type}(l:List α):Option (α×α):=
 match l with
 |a::b::_=>some (a,b)
 |_=>none
def jV{α:Type}(l:List α):Option (α×List α):=
 match l with
 |a::r=>some (a,r)
 |_=>none
def zh(bT:List TypeId)(args:List Value)(σ:aD):gk:=ak (tV bT) fun sT xT=>ak (tV args) fun s x=>th T sT xT s x σ
def U3(bT:List TypeId)(args:List Value)(σ:aD):gk:=ak (jV bT) fun t _=>ak (tV args) fun d s=>copyV T t d s σ
def Jk(bT:List TypeId)(args:List Value)(σ:aD):gk:=ak (jV bT) fun t _=>ak (jV args) fun x _=>val σ (Ji T σ t x)
def XW(bT:List TypeId)(args:List Value)(σ:aD):gk:=ak (jV bT) fun t _=>ak (jV args) fun x _=>val σ (U2 T t x)
def NF(b:Bool)(args:List Value)(σ:aD):gk:=ak (jV args) fun x r=>val σ (Jj b r x)
def zi(bT:List TypeId)(args:List Value)(σ:aD):gk:=
 ak (jV bT) fun t _=>ak (tV args) fun m k=>andThen (fP T σ t m k) fun σ'=>some (.tuple #[],σ')
def Rs(bT:List TypeId)(args:List Value)(σ:aD):gk:=ak (jV bT) fun t _=>ak (jV args) fun x _=>Dn T t x σ
def jW:Builtin→ew→List TypeId→List Value→aD→gk
 | .append=>zh
 | .copy=>U3
 | .len=>Jk
 | .cap=>XW
 | .min=>fun _ _=>NF true
 | .max=>fun _ _=>NF false
 | .delete=>zi
 | .clear=>Rs
 |_=>fun _ _ _ _=>none
def qI(t:TypeId)(p x:Value)(σ:aD):Option aD:=
 ak (fN p) fun k off=>andThen (size T t) fun z=>andThen (flat x) fun vs=>iff (Nat.beq (aY vs) z) (σ.setAt k off vs) none
def tW(t:TypeId)(l c:Value)(σ:aD):gk:=
 andThen (desc T t) fun d=>andThen (bL d) fun e=>andThen (ty T e) fun ei=>andThen (dY ei) fun z=>ak (mK c) fun _ m=>andThen (oQ m 10000000) fun m=>
  ak (mK l) fun _ n=>andThen (oQ n m) fun n=>
  iff (Nat.ble (Nat.mul m (Nat.succ ei.info.bytes)) (nat_lit 1000000000)) (lP σ n m (fD z m)) none
def Dp:Option Value→Option Unit
 |none=>some ()
 |some v=>ak (mK v) fun _ _=>some ()
def oT(t:TypeId)(r:Option Value)(σ:aD):gk:=
 andThen (desc T t) fun d=>ak (yR d) fun _ _=>andThen (Dp r) fun _=>some (.map (some σ.next),σ.new (.map [] 0))
def dZ(op:BinOp):Bool:=(A5 op).isSome
def parts(ρ:Operand→Value)(ps:List (Nat×Operand)):List (Nat×Value):=nq (fun q=>(q.1,ρ q.2)) ps
def Fl(i:Nat):Value→Option Value
 | .tuple vs=>(match vs.toList with
  |a::b::l=>(a::b::l)[i]?
  | [.bool b]=>[Value.bool b][i]?
  |_=>none)
 |_=>none
def qJ(c a b:Operand)(ρ:Operand→Value)(σ:aD):gk:=andThen (sd (ρ c)) fun t=>some (iff t (ρ a) (ρ b),σ)
def newVar(σ:aD)(cs:List Value):gk:=some (.pointer (some ⟨σ.next,0,none⟩),σ.newRow cs)
def Fm(t:TypeId)(_ρ:Operand→Value)(σ:aD):gk:=andThen (ty T t) fun i=>andThen (dY i) fun z=>newVar σ z
def QB(x:Operand)(ρ:Operand→Value)(σ:aD):gk:=andThen (flat (ρ x)) (newVar σ)
def NG(t:TypeId)(ps:List (Nat×Operand))(ρ:Operand→Value)(σ:aD):gk:=val σ (build T t (parts ρ ps))
def zj(t:TypeId)(n:Nat)(ps:List (Nat×Operand))(ρ:Operand→Value)(σ:aD):gk:=buildSlice T t n (parts ρ ps) σ
def tX(t:TypeId)(σ:aD)(x:Value):gk:=
 gZ x (fun vs=>andThen (tP vs) fun cs=>val σ (part T t cs 0)) (ak (fN x) fun k off=>val σ (jU T σ t k off))
def Jl(t:TypeId)(a:Operand)(ρ:Operand→Value)(σ:aD):gk:=tX T t σ (ρ a)
def NH(t:TypeId)(a x:Operand)(ρ:Operand→Value)(σ:aD):gk:=unit (qI T t (ρ a) (ρ x) σ)
def Jm(op:BinOp)(t:TypeId)(x y:Operand)(ρ:Operand→Value)(σ:aD):gk:=
 iff (iff (dZ op) (guarded T t x y (ρ x)) true) (val σ (Dl (ρ x) T op t (ρ y))) none
def zk(t:TypeId)(x:Operand)(ρ:Operand→Value)(σ:aD):gk:=andThen (desc T t) fun d=>iff (isIface d) none (some (.iface t (ρ x),σ))
def Fo(t:TypeId)(x:Operand)(ρ:Operand→Value)(σ:aD):gk:=
 andThen (desc T t) fun d=>match d with
 | .string=>andThen (qD (ρ x)) fun s=>some (.pointer (some ⟨σ.next,0,none⟩),σ.new (.iter s 0))
 |_=>none
def Dq(x:Operand)(isStr:Bool)(ρ:Operand→Value)(σ:aD):gk:=
 ak (fN (ρ x)) fun r off=>ak (andThen (σ.obj r) Dk) fun s pos=>iff (and isStr (dS off))
  (iff (Nat.blt pos (aY s))
   (match Utf8.decode ⟨⟨s⟩⟩ pos with
   |(c,width)=>some (.tuple #[.bool true,.int .i64 (Int.ofNat pos),.int .i32 c],⟨σ.heap.set r (.iter s (Nat.add pos width)),σ.next,σ.lower r,σ.bp⟩))
   (some (.tuple #[.bool false],σ)))
  none
def zl:Op→ew→(Operand→Value)→aD→gk
 | .move x=>fun _ ρ σ=>some (ρ x,σ)
 | .assign x=>fun _ ρ σ=>some (ρ x,σ)
 | .pick c a b=>fun _=>qJ c a b
 | .alloc t=>fun T=>Fm T t
 | .box _ x=>fun _=>QB x
 | .build t ps=>fun T=>NG T t ps.toList
 | .buildSlice t n ps=>fun T=>zj T t n ps.toList
 | .load t a=>fun T=>Jl T t a
 | .store t a x=>fun T=>NH T t a x
 | .nilCheck x=>fun _ ρ σ=>val σ (zd (ρ x))
 | .binOp op t x y _=>fun T=>Jm T op t x y
 | .unOp op _ x=>fun _ ρ σ=>val σ (XU op (ρ x))
 | .convert s d x=>fun T ρ σ=>tQ T s d (ρ x) σ
 | .makeInterface t x=>fun T=>zk T t x
 | .makeFunc fn first captured=>fun _ ρ σ=>some (.func fn ⟨nq ρ first.toList⟩ ⟨nq ρ captured.toList⟩,σ)
 | .makeMap t r=>fun T ρ σ=>oT T t (r.map ρ) σ
 | .makeSlice t l c=>fun T ρ σ=>tW T t (ρ l) (ρ c) σ
 | .slice t x lo hi mx=>fun T ρ σ=>val σ (qH T t (ρ x) (lo.map ρ) (hi.map ρ) (mx.map ρ))
 | .fieldAddr t x f=>fun T ρ σ=>val σ (kD T t (ρ x) f)
 | .field t x f=>fun T ρ σ=>val σ (za T t (ρ x) f)
 | .indexAddr t x i=>fun T ρ σ=>val σ (kC T t (ρ x) (ρ i))
 | .index t x i=>fun T ρ σ=>val σ (yZ T t (ρ x) (ρ i))
 | .lookup t x i ok=>fun T ρ σ=>val σ (jo T σ t (ρ x) (ρ i) ok)
 | .mapUpdate t m k x=>fun T ρ σ=>unit (gE T σ t (ρ m) (ρ k) (ρ x))
 | .insert t m k x=>fun T ρ σ=>unit (gE T σ t (ρ m) (ρ k) (ρ x))
 | .typeAssert x _ asserted ok=>fun T ρ σ=>val σ (Fi T (ρ x) asserted ok)
 | .extract t i=>fun _ ρ σ=>val σ (Fl i (ρ t))
 | .range t x=>fun T=>Fo T t x
 | .next it isStr=>fun _=>Dq it isStr
 |_=>fun _ _ _=>none
inductive gn where
 |normal
 |exit (id:Nat)
 |ret
abbrev cD:=FuncId→List Value→aD→gk
abbrev Out:=Option (gn×Env×aD)
def NI(m:Method)(v:Value)(d:TypeDesc):Option (FuncId×Value):=
 ak m.func fun f byPtr=>iff (and m.path.isEmpty (byPtr==A3 d)) (some (f,v)) none
def Fp(t:TypeId)(v:Value)(name:String):Option (FuncId×Value):=
 andThen (ty T t) fun i=>andThen (i.info.methods.toList.find? (·.name==name)) fun m=>NI m v i.desc
def Fq(call:cD)(σ:aD)(recv:Value)(name:String)(args:List Value):gk:=
 andThen (qF recv) fun o=>ak o fun t v=>ak (Fp T t v name) fun f r=>call f (r::args) σ
def Dr(call:cD)(σ:aD)(args captured:List Value):Fn→gk
 | .func g=>call g (gL args captured) σ
 | .method name=>ak (jV args) fun r rest=>Fq T call σ r name rest
 |_=>none
def Zp:Value→Option (Fn×List Value×List Value)
 | .func fn a b=>some (fn,a.toList,b.toList)
 |_=>none
def Fs(call:cD)(σ:aD)(args:List Value)(f:Value):gk:=au (Zp f) fun fn first captured=>Dr T call σ (gL first args) captured fn
def tY:Callee→ew→cD→(Operand→Value)→aD→List TypeId→List Value→gk
 | .builtin b=>fun T _ _ σ bT args=>jW b T bT args σ
 | .invoke recv name=>fun T call ρ σ _ args=>Fq T call σ (ρ recv) name args
 | .value f=>fun T call ρ σ _ args=>Fs T call σ args (ρ f)
def tZ:Op→Option Call
 | .call c=>some c
 |_=>none
def gX(call:cD)(op:Op)(ρ:Operand→Value)(σ:aD):gk:=
 @Option.rec Call (fun _=>gk) (zl op T ρ σ) (fun c=>tY c.callee T call ρ σ c.argTypes.toList (nq ρ c.args.toList)) (tZ op)
def put(e:Env)(v:Value):Option Tmp→Env
 |some d=>e.set d v
 |none=>e
def guardOf(want:Bool):Value→Option Bool
 | .bool b=>some (b==want)
 | .tuple vs=>(match vs.toList with| []=>some false|_=>none)
 |_=>none
def lT(e:Env)(want:Bool)(oj:Oper):Option Bool:=
 match oj.dst with
 |none=>some false
 |some d=>andThen (e.get d) (guardOf want)
def wanted(ops:List Oper)(e:Env):Option (Nat×Bool)→Option Bool
 |none=>some true
 |some p=>match aU p.1 ops with|some oj=>lT e p.2 oj|none=>some false
def drawn(call:cD)(bar:Bool)(op:Op)(ρ:Operand→Value)(σ:aD):gk:=
 ak (gX T call op ρ ⟨σ.heap,σ.next,σ.next,σ.bp⟩) fun v σ'=>
  iff (or (Nat.ble σ.next σ'.low) bar) (some (v,⟨σ'.heap,σ'.next,jh σ.low σ'.low,σ'.bp⟩)) none
def ua(call:cD)(bar:Bool)(draw:Bool)(op:Op)(ρ:Operand→Value)(σ:aD):gk:=
 iff draw (drawn T call bar op ρ σ) (gX T call op ρ σ)
def gT(call:cD)(ops:List Oper)(bar:Nat→Bool)(draw:Bool)(l:List Oper):Nat→Env→aD→Option (Env×aD):=
 @List.rec Oper (fun _=>Nat→Env→aD→Option (Env×aD)) (fun _ e σ=>some (e,σ))
  (fun o _ ih i e σ=>andThen (wanted ops e o.guard) fun g=>iff g (ak (ua T call (bar i) draw o.op (env e) σ) fun v σ'=>ih (Nat.succ i) (put e v o.dst) σ') (ih (Nat.succ i) (put e undef o.dst) σ)) l
def mem:Op→Bool
 | .move _| .assign _| .pick .. | .nilCheck _| .unOp .. | .makeInterface .. | .makeFunc .. | .fieldAddr .. | .field .. | .indexAddr .. | .index .. | .extract .. | .slice .. | .typeAssert .. | .build .. | .binOp .. =>false
 |_=>true
def cE(e:Edge):Bool:=
 match e.ground with
 | .textOnly _=>false
 | .gcOnly _=>false
 |_=>true
def lU(o:Option Nat):Nat:= @Option.rec Nat (fun _=>Nat) (nat_lit 0) (fun n=>n) o
def uc(acc:Tr Nat)(es:List Edge):Nat:=
 @List.rec Edge (fun _=>Nat) (nat_lit 0) (fun e _ s=>iff (cE e) (Nat.lor (Nat.lor s (Nat.pow 2 e.on)) (lU (acc.get e.on))) s) es
def Ba(l:List Oper):Nat→Tr Nat→Tr Nat:=
 @List.rec Oper (fun _=>Nat→Tr Nat→Tr Nat) (fun _ acc=>acc) (fun o _ ih i acc=>ih (Nat.succ i) (acc.set i (uc acc o.after.toList))) l
def Jo(b:Tr Nat)(i j:Nat):Bool:=Nat.testBit (lU (b.get i)) j
def comparable(b:Tr Nat)(i j:Nat):Bool:=or (Jo b i j) (Jo b j i)
def ue(b:Tr Nat)(i:Nat)(l:List Oper):Nat→Bool:=
 @List.rec Oper (fun _=>Nat→Bool) (fun _=>true) (fun o _ ih j=>iff (mem o.op) (iff (or (Nat.beq j i) (comparable b i j)) (ih (Nat.succ j)) false) (ih (Nat.succ j))) l
def eF(ops:List Oper)(i:Nat):Bool:=ue (Ba ops (nat_lit 0) .leaf) i ops (nat_lit 0)
def iF(x:gn)(a:Out)(b:Out):Out:= @gn.rec (fun _=>Out) a (fun _=>b) b x
def iter(body:Env→aD→Out)(n:Nat):Env→aD→Out:=
 @Nat.rec (fun _=>Env→aD→Out) (fun _ _=>none) (fun _ ih e σ=>au (body e σ) fun x e' σ'=>iF x (ih e' σ') (some (x,e',σ'))) n
def XX(o:Out)(k:Env→aD→Out):Out:=au o fun x e' σ'=>iF x (k e' σ') (some (x,e',σ'))
def leaves(id:Nat)(x:gn):gn:= @gn.rec (fun _=>gn) .normal (fun id'=>iff (Nat.beq id' id) .normal (.exit id')) .ret x
def Rt(id:Nat)(o:Out):Out:=au o fun x e' σ'=>some (leaves id x,e',σ')
def Ft(o:Option (Env×aD)):Out:=ak o fun e' σ'=>some (.normal,e',σ')
def cz(c:Code):ew→cD→Nat→Env→aD→Out:=
 @Code.rec (fun _=>ew→cD→Nat→Env→aD→Out)
  (fun _ _ _ e σ=>some (.normal,e,σ))
  (fun _ ops draw T call _ e σ=>Ft (gT T call ops.toList (eF ops.toList) draw ops.toList 0 e σ))
  (fun _ _ a b T call lf e σ=>XX (a T call lf e σ) (b T call lf))
  (fun c _ _ a b T call lf e σ=>andThen (sd (env e c)) fun t=>iff t (a T call lf e σ) (b T call lf e σ))
  (fun id _ c T call lf e σ=>Rt id (c T call lf e σ))
  (fun _ c T call lf e σ=>iter (c T call lf) lf e σ)
  (fun _ _ _ _ _ _ _ _ _ _ _=>none)
  (fun id _ _ _ e σ=>some (.exit id,e,σ))
  (fun _ c=>c)
  (fun _ _ _ _ e σ=>some (.normal,e,σ))
  (fun _ _ _ _ _ _=>none)
  (fun _ _ _ e σ=>some (.ret,e,σ))
  (fun _ _ _ _ _ _=>none) c
def eG(l:List Value):Nat→Env→Env:=
 @List.rec Value (fun _=>Nat→Env→Env) (fun _ e=>e) (fun v _ ih i e=>ih (Nat.succ i) (e.set i v)) l
def bq(σ:aD)(e:Env):List ResultVar→Option (List Value)
 | []=>some []
 | .tmp t::rs=>andThen (bq σ e rs) fun vs=>some (env e (.tmp t)::vs)
 | .cell a t::rs=>ak (fN (env e (.tmp a))) fun k off=>andThen (jU T σ t k off) fun v=>andThen (bq σ e rs) fun vs=>some (v::vs)
def ar:List Value→Value
 | [v]=>v
 |vs=> .tuple ⟨vs⟩
def Ru(x:gn)(o:gk):gk:= @gn.rec (fun _=>gk) o (fun _=>none) o x
def ended(fn:Func)(o:Out):gk:=au o fun x e σ'=>Ru x (andThen (bq T σ' e fn.results.toList) fun vs=>some (ar vs,σ'))
def bare:Value→Bool
 | .bool _=>true
 | .int _ _=>true
 | .string _=>true
 | .nilIface=>true
 | .nilFunc=>true
 | .pointer none=>true
 | .slice none _ _=>true
 | .map none=>true
 |_=>false
def oU(l:List Value):Bool:= @List.rec Value (fun _=>Bool) true (fun v _ ih=>iff (bare v) ih false) l
def oV:Value→Bool
 | .agg cs=>oU cs.toList
 |v=>bare v
def jX(l:List Value):Bool:= @List.rec Value (fun _=>Bool) true (fun v _ ih=>iff (oV v) ih false) l
def xp:Value→Bool
 | .tuple vs=>iff (dF vs.toList) false (jX vs.toList)
 |v=>oV v
def settle(σ:aD)(v:Value)(σ':aD):gk:=
 iff (and (and (Nat.ble σ.next σ'.low) (Nat.ble σ.next σ'.bp)) (xp v)) (some (v,⟨σ.heap,σ'.next,σ.low,σ.bp⟩)) (some (v,⟨σ'.heap,σ'.next,jh σ.low σ'.low,jh σ.bp σ'.bp⟩))
def nD(lf:Nat):Nat→cD
 |0,_,_,_=>none
 |n+1,f,args,σ=>andThen (T.F.get f) fun fn=>andThen fn.body fun c=>
   ak (ended T fn (cz c T (nD lf n) lf (eG args 0 .leaf) ⟨σ.heap,σ.next,σ.next,σ.next⟩)) fun v σ'=>settle σ v σ'
end
end Go.az
namespace Go.az
@[simp] theorem iff_true{α:Type}(a b:α):iff true a b=a:=rfl
@[simp] theorem iff_false{α:Type}(a b:α):iff false a b=b:=rfl
theorem iff_eq{α:Type}(c:Bool)(a b:α):iff c a b=if c=true then a else b:=by cases c<;>rfl
@[simp] theorem NJ{α β:Type}(f:α→Option β):andThen none f=none:=rfl
@[simp] theorem af{α β:Type}(a:α)(f:α→Option β):andThen (some a) f=f a:=rfl
@[simp] theorem Nd{α β γ:Type}(f:α→β→Option γ):ak none f=none:=rfl
@[simp] theorem ax{α β γ:Type}(a:α×β)(f:α→β→Option γ):ak (some a) f=f a.1 a.2:=rfl
@[simp] theorem Nf{α β γ δ:Type}(f:α→β→γ→Option δ):au none f=none:=rfl
@[simp] theorem nE{α β γ δ:Type}(a:α×β×γ)(f:α→β→γ→Option δ):au (some a) f=f a.1 a.2.1 a.2.2:=rfl
theorem aa{α β:Type}{o:Option α}{f:α→Option β}{b:β}(h:andThen o f=some b):∃a,o=some a∧f a=some b:=by
 cases o with
 |none=>simp at h
 |some a=>exact⟨a,rfl,h⟩
theorem ae{α β γ:Type}{o:Option (α×β)}{f:α→β→Option γ}{c:γ}(h:ak o f=some c):∃a b,o=some (a,b)∧f a b=some c:=by
 cases o with
 |none=>simp at h
 |some a=>exact⟨a.1,a.2,rfl,h⟩
theorem aq{α β γ δ:Type}{o:Option (α×β×γ)}{f:α→β→γ→Option δ}{d:δ}(h:au o f=some d):∃a b c,o=some (a,b,c)∧f a b c=some d:=by
 cases o with
 |none=>simp at h
 |some a=>exact⟨a.1,a.2.1,a.2.2,rfl,h⟩
theorem aj{α:Type}{c:Bool}{a:Option α}{b:α}(h:iff c a none=some b):c=true∧a=some b:=by
 cases c with
 |false=>simp at h
 |true=>exact⟨rfl,h⟩
namespace Tr
variable {α:Type}
@[simp] theorem uf(n:Nat):(leaf:Tr α).get n=none:=rfl
theorem Jp(l r:Tr α)(v:Option α)(n:Nat):(node l v r).get n=iff (dS n) v (iff (Rm n) (l.get (half n)) (r.get (Nat.pred (half n)))):=rfl
theorem Jq(l r:Tr α)(x:Option α)(n:Nat)(v:α):(node l x r).set n v=iff (dS n) (.node l (some v) r) (iff (Rm n) (.node (l.set (half n) v) x r) (.node l x (r.set (Nat.pred (half n)) v))):=rfl
theorem Jr(n:Nat)(v:α):(leaf:Tr α).set n v=single n n v:=rfl
theorem Bb(f n:Nat)(v:α):single (f+1) n v=iff (dS n) (.node .leaf (some v) .leaf) (iff (Rm n) (.node (single f (half n) v) none .leaf) (.node .leaf none (single f (Nat.pred (half n)) v))):=rfl
theorem Bc(n:Nat)(v:α):single 0 n v= .node .leaf (some v) .leaf:=rfl
theorem bz(n:Nat):dS n=true↔n=0:=by
 show Nat.beq n 0=true↔n=0
 exact⟨Nat.eq_of_beq_eq_true,fun h=>by subst h;rfl⟩
theorem mL(n:Nat):Rm n=true↔n % 2=1:=by
 show Nat.beq (n % 2) 1=true↔n % 2=1
 exact⟨Nat.eq_of_beq_eq_true,fun h=>by rw [h];rfl⟩
theorem cw(l r:Tr α)(v:Option α)(n:Nat):(node l v r).get n=if n=0 then v else if n % 2=1 then l.get (n / 2)else r.get (n / 2-1):=by
 rw [Jp,iff_eq,iff_eq]
 by_cases h:n=0
 ·rw [if_pos ((bz n).2 h),if_pos h]
 ·rw [if_neg (by rw [bz];exact h),if_neg h]
  by_cases ho:n % 2=1
  ·rw [if_pos ((mL n).2 ho),if_pos ho];rfl
  ·rw [if_neg (by rw [mL];exact ho),if_neg ho];rfl
theorem jY(l r:Tr α)(x:Option α)(n:Nat)(v:α):(node l x r).set n v=if n=0 then .node l (some v) r else if n % 2=1 then .node (l.set (n / 2) v) x r else .node l x (r.set (n / 2-1) v):=by
 rw [Jq,iff_eq,iff_eq]
 by_cases h:n=0
 ·rw [if_pos ((bz n).2 h),if_pos h]
 ·rw [if_neg (by rw [bz];exact h),if_neg h]
  by_cases ho:n % 2=1
  ·rw [if_pos ((mL n).2 ho),if_pos ho];rfl
  ·rw [if_neg (by rw [mL];exact ho),if_neg ho];rfl
theorem kE(f n:Nat)(v:α):single (f+1) n v=if n=0 then(.node .leaf (some v) .leaf)else if n % 2=1 then .node (single f (n / 2) v) none .leaf else .node .leaf none (single f (n / 2-1) v):=by
 rw [Bb,iff_eq,iff_eq]
 by_cases h:n=0
 ·rw [if_pos ((bz n).2 h),if_pos h]
 ·rw [if_neg (by rw [bz];exact h),if_neg h]
  by_cases ho:n % 2=1
  ·rw [if_pos ((mL n).2 ho),if_pos ho];rfl
  ·rw [if_neg (by rw [mL];exact ho),if_neg ho];rfl
theorem Dt:∀(f n:Nat)(v:α)(m:Nat),n≤f→(single f n v).get m=if m=n then some v else none:=by
 intro f
 induction f with
 |zero=>
  intro n v m h
  have:n=0:=by omega
  subst this
  rw [Bc,cw]
  by_cases hm:m=0
  ·simp [hm]
  ·simp [hm]
 |succ f ih=>
  intro n v m h
  rw [kE]
  by_cases hn:n=0
  ·rw [if_pos hn,cw]
   subst hn
   by_cases hm:m=0<;>simp [hm]
  ·rw [if_neg hn]
   by_cases ho:n % 2=1
   ·rw [if_pos ho,cw,ih _ _ _ (by omega)]
    by_cases hm:m=0
    ·rw [if_pos hm,if_neg (by omega)]
    ·rw [if_neg hm]
     by_cases hmo:m % 2=1
     ·rw [if_pos hmo]
      by_cases e:m=n
      ·subst e;simp
      ·rw [if_neg (by omega),if_neg e]
     ·rw [if_neg hmo,uf,if_neg (by intro e;subst e;exact hmo ho)]
   ·rw [if_neg ho,cw,ih _ _ _ (by omega)]
    by_cases hm:m=0
    ·rw [if_pos hm,if_neg (by omega)]
    ·rw [if_neg hm]
     by_cases hmo:m % 2=1
     ·rw [if_pos hmo,uf,if_neg (by intro e;subst e;exact ho hmo)]
     ·rw [if_neg hmo]
      by_cases e:m=n
      ·subst e;simp
      ·rw [if_neg (by omega),if_neg e]
theorem dm(t:Tr α):∀(n:Nat)(v:α)(m:Nat),(t.set n v).get m=if m=n then some v else t.get m:=by
 induction t with
 |leaf=>intro n v m;rw [Jr,Dt _ _ _ _ (Nat.le_refl _),uf]
 |node l x r ihl ihr=>
  intro n v m
  rw [jY]
  by_cases hn:n=0
  ·rw [if_pos hn,cw,cw]
   subst hn
   by_cases hm:m=0<;>simp [hm]
  ·rw [if_neg hn]
   by_cases ho:n % 2=1
   ·rw [if_pos ho,cw,cw,ihl]
    by_cases hm:m=0
    ·rw [if_pos hm,if_pos hm,if_neg (by omega)]
    ·rw [if_neg hm,if_neg hm]
     by_cases hmo:m % 2=1
     ·rw [if_pos hmo,if_pos hmo]
      by_cases e:m=n
      ·subst e;simp
      ·rw [if_neg (by omega),if_neg e]
     ·rw [if_neg hmo,if_neg hmo,if_neg (by intro e;subst e;exact hmo ho)]
   ·rw [if_neg ho,cw,cw,ihr]
    by_cases hm:m=0
    ·rw [if_pos hm,if_pos hm,if_neg (by omega)]
    ·rw [if_neg hm,if_neg hm]
     by_cases hmo:m % 2=1
     ·rw [if_pos hmo,if_pos hmo,if_neg (by intro e;subst e;exact ho hmo)]
     ·rw [if_neg hmo,if_neg hmo]
      by_cases e:m=n
      ·subst e;simp
      ·rw [if_neg (by omega),if_neg e]
end Tr
theorem aC{α:Type}(l:List α):aY l=l.length:=by
 induction l with
 |nil=>rfl
 |cons a l ih=>show Nat.succ (aY l)=_;rw [ih];rfl
theorem fQ(n:Nat):∀l:List Value,jT n l=l.drop n:=by
 induction n with
 |zero=>intro l;rfl
 |succ n ih=>intro l;cases l with
  |nil=>rfl
  |cons a l=>exact ih l
theorem eH(l m:List Value):gL l m=l++m:=by
 induction l with
 |nil=>rfl
 |cons a l ih=>show a::gL l m=_;rw [ih];rfl
theorem bW{α:Type}(n:Nat):∀l:List α,aU n l=l[n]? :=by
 induction n with
 |zero=>intro l;cases l<;>rfl
 |succ n ih=>intro l;cases l with
  |nil=>rfl
  |cons a l=>rw [List.getElem?_cons_succ];exact ih l
theorem hO{α β:Type}(f:α→β)(l:List α):nq f l=l.map f:=by
 induction l with
 |nil=>rfl
 |cons a l ih=>show f a::nq f l=_;rw [ih];rfl
theorem ug(n:Nat):∀{l r:List Value},lq n l=some r→n≤l.length∧r=l.take n:=by
 induction n with
 |zero=>intro l r h;cases (Option.some.inj (show some []=some r from h));simp
 |succ n ih=>
  intro l r h
  cases l with
  |nil=>cases (show none=some r from h)
  |cons a l=>
   obtain⟨x,hx,h2⟩:=aa (show andThen (lq n l) (fun r=>some (a::r))=some r from h)
   cases h2
   obtain⟨h1,h2⟩:=ih hx
   subst h2
   exact⟨by simp;exact h1,rfl⟩
theorem sub_eq{l r:List Value}{off n:Nat}(h:sub l off n=some r):(n=0∨off+n≤l.length)∧r=(l.drop off).take n:=by
 unfold sub at h
 rw [fQ]at h
 obtain⟨h1,h2⟩:=ug n h
 rw [List.length_drop]at h1
 exact⟨by omega,h2⟩
theorem NK(vs:List Value):∀{l r:List Value},over vs l=some r→vs.length≤l.length∧r=vs++l.drop vs.length:=by
 induction vs with
 |nil=>intro l r h;cases (Option.some.inj (show some l=some r from h));simp
 |cons v vs ih=>
  intro l r h
  cases l with
  |nil=>cases (show none=some r from h)
  |cons a l=>
   obtain⟨x,hx,h2⟩:=aa (show andThen (over vs l) (fun r=>some (v::r))=some r from h)
   cases h2
   obtain⟨h1,h2⟩:=ih hx
   subst h2
   exact⟨by simp;exact h1,by simp⟩
theorem xq(vs:List Value)(off:Nat):∀{l r:List Value},splice vs off l=some r→off+vs.length≤l.length∧r=l.take off++vs++l.drop (off+vs.length):=by
 induction off with
 |zero=>intro l r h;obtain⟨h1,h2⟩:=NK vs (show over vs l=some r from h);exact⟨by omega,by simpa using h2⟩
 |succ n ih=>
  intro l r h
  cases l with
  |nil=>cases (show none=some r from h)
  |cons a l=>
   obtain⟨x,hx,h2⟩:=aa (show andThen (splice vs n l) (fun r=>some (a::r))=some r from h)
   cases h2
   obtain⟨h1,h2⟩:=ih hx
   subst h2
   refine⟨by simp;omega,?_⟩
   rw [show n+1+vs.length=(n+vs.length)+1 from by omega]
   simp
theorem bk(a b:Nat):Nat.ble a b=true↔a≤b:=by rw [Nat.ble_eq]
theorem bK(a b:Nat):Nat.blt a b=true↔a<b:=by rw [Nat.blt_eq]
theorem beq_iff(a b:Nat):Nat.beq a b=true↔a=b:=by rw [Nat.beq_eq]
theorem bG(j k:IntKind):sameKind j k=true↔j=k:=by cases j<;>cases k<;>decide
theorem iG(x y:Int):cB x y=(x==y):=by
 cases x<;>cases y
 ·rename_i a b
  show Nat.beq a b=_
  rw [Bool.eq_iff_iff];simp [Nat.beq_eq];omega
 ·show false=_;symm;simp
 ·show false=_;symm;simp
 ·rename_i a b
  show Nat.beq a b=_
  rw [Bool.eq_iff_iff];simp [Nat.beq_eq]
theorem oX(x y:Int):bD x y=true↔x≤y:=by
 cases x<;>cases y
 ·rename_i a b;show Nat.ble a b=true↔_;rw [Nat.ble_eq];simp
 ·rename_i a b;show false=true↔_;simp only [Int.ofNat_eq_natCast,Bool.false_eq_true,false_iff];omega
 ·rename_i a b;show true=true↔_;simp only [Int.ofNat_eq_natCast,true_iff];omega
 ·rename_i a b;show Nat.ble b a=true↔_;rw [Nat.ble_eq];omega
theorem eB(x y:Int):bD x y=decide (x≤y):=by rw [Bool.eq_iff_iff,oX];simp
theorem gp{i:Int}{len n:Nat}(h:an i len=some n):0≤i∧i<len∧n=i.toNat:=by
 cases i with
 |negSucc m=>cases (show none=some n from h)
 |ofNat m=>
  obtain⟨h1,h2⟩:=aj (show iff (Nat.blt m len) (some m) none=some n from h)
  have h1:m<len:=by simpa [Nat.blt_eq]using h1
  cases h2
  exact⟨by simp,by simp;exact h1,rfl⟩
theorem tj{i:Int}{most n:Nat}(h:oQ i most=some n):0≤i∧i≤most∧n=i.toNat:=by
 cases i with
 |negSucc m=>cases (show none=some n from h)
 |ofNat m=>
  obtain⟨h1,h2⟩:=aj (show iff (Nat.ble m most) (some m) none=some n from h)
  have h1:m≤most:=by simpa [Nat.ble_eq]using h1
  cases h2
  exact⟨by simp,by simp;exact h1,rfl⟩
theorem jZ(k:IntKind):bJ k=2^k.bits:=by cases k<;>rfl
theorem jq(k:IntKind)(n:Int):k.wrap n=if n % (bJ k:Int)≤(lp k:Int)then n % (bJ k:Int)else n % (bJ k:Int)-(bJ k:Int):=by
 cases k<;>simp [IntKind.wrap,bJ,lp,IntKind.bits,IntKind.signed]<;>(repeat' split)<;>omega
theorem oY(k:IntKind)(m:Nat)(h:m<bJ k):fO k m=k.wrap (m:Int):=by
 unfold fO
 rw [iff_eq,jq,Int.emod_eq_of_lt (by omega) (by omega)]
 by_cases h1:m≤lp k
 ·rw [if_pos ((bk _ _).2 h1),if_pos (by omega)];rfl
 ·rw [if_neg (fun h=>h1 ((bk _ _).1 h)),if_neg (by omega)]
  show Int.negSucc (bJ k-m-1)=_
  omega
theorem Js(k:IntKind)(n:Int):eU k n<bJ k:=by
 have hm:0<bJ k:=by cases k<;>decide
 cases n with
 |ofNat m=>
  show iff (Nat.blt m (bJ k)) m (Nat.mod m (bJ k))<bJ k
  rw [iff_eq]
  split
  ·rename_i h;simpa [Nat.blt_eq]using h
  ·exact Nat.mod_lt _ hm
 |negSucc m=>
  show bJ k-(m % bJ k+1)<bJ k
  omega
theorem Be(k:IntKind)(n:Int):(eU k n:Int)=n % (2^k.bits:Int):=by
 have hm:(2^k.bits:Int)=(bJ k:Int):=by rw [jZ];simp
 have hp:0<bJ k:=by cases k<;>decide
 rw [hm]
 cases n with
 |ofNat m=>
  show((iff (Nat.blt m (bJ k)) m (Nat.mod m (bJ k)):Nat):Int)=_
  rw [iff_eq]
  split
  ·rename_i h
   have h':m<bJ k:=by simpa [Nat.blt_eq]using h
   simp only [Int.ofNat_eq_natCast]
   rw [Int.emod_eq_of_lt (by omega) (by omega)]
  ·simp only [Int.ofNat_eq_natCast]
   show((m % bJ k:Nat):Int)=_
   simp
 |negSucc m=>
  show((bJ k-(m % bJ k+1):Nat):Int)=_
  have h1:m % bJ k<bJ k:=Nat.mod_lt _ hp
  rw [Int.negSucc_emod _ (by omega)]
  omega
theorem Jt(k:IntKind):lp k<bJ k:=by cases k<;>decide
theorem Du(k:IntKind)(h:tc k=true):2*(lp k+1)=bJ k:=by cases k<;>first|rfl|cases h
theorem iH(k:IntKind)(n:Int):aP k n=k.wrap n:=by
 have hp:0<bJ k:=by cases k<;>decide
 cases n with
 |ofNat m=>
  show iff (Nat.ble m (lp k)) (Int.ofNat m) (fO k (m % bJ k))=_
  rw [iff_eq]
  by_cases h:m≤lp k
  ·rw [if_pos ((bk _ _).2 h),jq]
   have ht:=Jt k
   simp only [Int.ofNat_eq_natCast]
   rw [Int.emod_eq_of_lt (by omega) (by omega),if_pos (by omega)]
  ·rw [if_neg (fun h'=>h ((bk _ _).1 h')),oY _ _ (Nat.mod_lt _ hp),jq,jq]
   simp
 |negSucc m=>
  show iff (and (tc k) (Nat.ble m (lp k))) (Int.negSucc m) (fO k (eU k (Int.negSucc m)))=_
  have h2:=Be k (Int.negSucc m)
  have hm:(2^k.bits:Int)=(bJ k:Int):=by rw [jZ];simp
  rw [hm]at h2
  rw [iff_eq]
  by_cases h:tc k=true∧m≤lp k
  ·rw [if_pos (by rw [Bool.and_eq_true,Nat.ble_eq];exact h),jq,←h2]
   have h3:eU k (Int.negSucc m)=bJ k-(m % bJ k+1):=rfl
   have ht:=Jt k
   have hs:=Du k h.1
   rw [Nat.mod_eq_of_lt (by omega)]at h3
   rw [if_neg (by omega)]
   omega
  ·rw [if_neg (by rw [Bool.and_eq_true,Nat.ble_eq];exact h),oY _ _ (Js _ _),jq,jq,h2]
   simp
end Go.az
namespace Go.az
structure PI where
 bm:Nat
 sh:Nat
 bsize:Nat
 s4:Option Nat
 aA:Nat
 ro:Bool
 len:Nat
structure aK where
 loc:Nat→Option PI
 fr:Nat→Option (List Value)
instance:CoeFun aK (fun _=>Nat→Option PI):=⟨aK.loc⟩
def eC(cc:List Value)(off:Nat)(cs:List Value):Prop:=off+cs.length≤cc.length∧(cc.drop off).take cs.length=cs
def jr(z:Nat)(rows cs:List Value):Prop:=aW z rows=some cs
def bH(v:Value):Bool:=v.oneCell'||I8 v
def AR(π:aK)(D:Nat→Prop)(a a':Addr):Prop:=
 a'.spot=none∧((∃i,π a.block=some i∧a'.block=i.bm∧a'.off=i.sh+a.off)∨(π a.block=none∧D a.block))
def Fv(π:aK)(D:Nat→Prop)(z:Nat)(a a':Addr)(n c c':Nat):Prop:=
 a'.spot=none∧c≤c'∧((∃i,π a.block=some i∧a'.block=i.bm∧i.s4=some z∧((a'.off=i.sh+a.off∧a'.off+c'*z=i.bsize)∨(n=0∧c=0∧c'=0)))∨(π a.block=none∧D a.block))
inductive Rd(fr:Nat→Option (List Value)):Value→Value→Prop
 |bool (b:Bool):Rd fr (.bool b) (.bool b)
 |int (k:IntKind) (n:Int):Rd fr (.int k n) (.int k n)
 |string (s:ByteArray):Rd fr (.string s) (.string s)
 |ptr0:Rd fr (.pointer none) (.pointer none)
 |sl0 (n c:Nat) (hn:n≤c):Rd fr (.slice none n c) (.slice none n c)
 |map0:Rd fr (.map none) (.map none)
 |nilFunc:Rd fr .nilFunc .nilFunc
 |nilIface:Rd fr .nilIface .nilIface
 |data {rows cs cs':List Value} {z c':Nat} {a':Addr} (hr:jr z rows cs) (hc:rows.length≤c') (hf:rows=[]∨(a'.spot=none∧∃cc,fr a'.block=some cc∧eC cc a'.off cs'))
   (hl:cs.length=cs'.length) (hcs:∀(i:Nat) v v',cs[i]? =some v→cs'[i]? =some v'→Rd fr v v'):Rd fr (dV rows) (.slice (some a') rows.length c')
 |nF (n c:Nat) (hn:n=0):Rd fr (dV []) (.slice none n c)
 |slz (a a':Addr) (hs:a.spot=none):Rd fr (.slice (some a) 0 0) (.slice (some a') 0 0)
def lO(fr:Nat→Option (List Value))(l l':List Value):Prop:=l.length=l'.length∧∀(i:Nat) v v',l[i]? =some v→l'[i]? =some v'→Rd fr v v'
def noRoom:Value→Bool
 | .slice (some ⟨_,_,none⟩) n c=>and (dS n) (dS c)
 |_=>false
theorem xu{v:Value}(h:noRoom v=true):∃a:Addr,v= .slice (some a) 0 0∧a.spot=none:=by
 unfold noRoom at h
 split at h
 ·rename_i b o n c
  simp only [Bool.and_eq_true,dS,beq_iff]at h
  obtain⟨rfl,rfl⟩:=h
  exact⟨_,rfl,rfl⟩
 ·cases h
def cH(v:Value):Bool:=(bare v||(I7 v).isSome)||noRoom v
theorem Rd.mono{fr fr':Nat→Option (List Value)}(h:∀B cc,fr B=some cc→fr' B=some cc){v v':Value}(hv:Rd fr v v'):Rd fr' v v':=by
 induction hv with
 |bool b=>exact .bool b
 |int k n=>exact .int k n
 |string s=>exact .string s
 |ptr0=>exact .ptr0
 |sl0 n c hn=>exact .sl0 n c hn
 |map0=>exact .map0
 |nilFunc=>exact .nilFunc
 |nilIface=>exact .nilIface
 |data hr hc hf hl _ ih=>exact .data hr hc (hf.imp id fun⟨hs,cc,h1,h2⟩=>⟨hs,cc,h _ _ h1,h2⟩) hl ih
 |nF n c hn=>exact .nF n c hn
 |slz a a' hs=>exact .slz a a' hs
theorem lO.mono{fr fr':Nat→Option (List Value)}(h:∀B cc,fr B=some cc→fr' B=some cc){l l':List Value}(hv:lO fr l l'):lO fr' l l':=⟨hv.1,fun i v v' h1 h2=>(hv.2 i v v' h1 h2).mono h⟩
theorem Rd.bH{fr:Nat→Option (List Value)}{v v':Value}(h:Rd fr v v'):az.bH v=true:=by cases h<;>rfl
theorem Rd.XY{fr:Nat→Option (List Value)}{v v':Value}(h:Rd fr v v'):v'.oneCell'=true:=by cases h<;>rfl
theorem lO.take{fr:Nat→Option (List Value)}{l l':List Value}(n:Nat)(h:lO fr l l'):lO fr (l.take n) (l'.take n):=
 ⟨by simp [h.1],fun i v v' h1 h2=>by
  rw [List.getElem?_take]at h1 h2
  split at h1
  ·rename_i hi;rw [if_pos hi]at h2;exact h.2 i v v' h1 h2
  ·cases h1⟩
theorem lO.drop{fr:Nat→Option (List Value)}{l l':List Value}(n:Nat)(h:lO fr l l'):lO fr (l.drop n) (l'.drop n):=
 ⟨by simp [h.1],fun i v v' h1 h2=>by
  rw [List.getElem?_drop]at h1 h2
  exact h.2 _ v v' h1 h2⟩
theorem lO.nil{fr:Nat→Option (List Value)}:lO fr [] []:=⟨rfl,fun i v v' h _=>by simp at h⟩
theorem lO.cons{fr:Nat→Option (List Value)}{v v':Value}{l l':List Value}(h:Rd fr v v')(hl:lO fr l l'):lO fr (v::l) (v'::l'):=
 ⟨by simp [hl.1],fun i u u' h1 h2=>by
  cases i with
  |zero=>simp at h1 h2;subst h1;subst h2;exact h
  |succ i=>simp at h1 h2;exact hl.2 i u u' h1 h2⟩
theorem lO.append{fr:Nat→Option (List Value)}{l l' m m':List Value}(h:lO fr l l')(h':lO fr m m'):lO fr (l++m) (l'++m'):=
 ⟨by simp [h.1,h'.1],fun i v v' h1 h2=>by
  by_cases hi:i<l.length
  ·rw [List.getElem?_append_left hi]at h1
   rw [List.getElem?_append_left (h.1▸hi)]at h2
   exact h.2 i v v' h1 h2
  ·rw [List.getElem?_append_right (by omega)]at h1
   rw [List.getElem?_append_right (by have:=h.1;omega),←h.1]at h2
   exact h'.2 _ v v' h1 h2⟩
theorem lO.bH{fr:Nat→Option (List Value)}{l l':List Value}(h:lO fr l l'):∀v∈l,az.bH v=true:=fun v hv=>by
 obtain⟨i,hi,rfl⟩:=List.getElem_of_mem hv
 have hi':i<l'.length:=h.1▸hi
 exact(h.2 i _ l'[i] (List.getElem?_eq_getElem hi) (List.getElem?_eq_getElem hi')).bH
theorem Rd.nil{fr:Nat→Option (List Value)}(a':Addr)(c':Nat):Rd fr (dV []) (.slice (some a') 0 c'):=
 .data (z:=0) (cs:=[]) (cs':=[]) (rows:=[]) rfl (Nat.zero_le _) (.inl rfl) rfl (fun i v v' h _=>by simp at h)
inductive VR(π:aK)(D:Nat→Prop):Value→Value→Prop
 |bool (b:Bool):VR π D (.bool b) (.bool b)
 |int (k:IntKind) (n:Int):VR π D (.int k n) (.int k n)
 |float (k:FloatKind) (b:Nat):VR π D (.float k b) (.float k b)
 |complex (k:FloatKind) (x y:Nat):VR π D (.complex k x y) (.complex k x y)
 |string (s:ByteArray):VR π D (.string s) (.string s)
 |ptr0:VR π D (.pointer none) (.pointer none)
 |ptr {a a':Addr} (hs:a.spot=none) (h:AR π D a a'):VR π D (.pointer (some a)) (.pointer (some a'))
 |sl0 (n c:Nat) (hn:n≤c):VR π D (.slice none n c) (.slice none n c)
 |sl {a a':Addr} (n c:Nat) (hn:n≤c) (hs:a.spot=none) (h:AR π D a a'):VR π D (.slice (some a) n c) (.slice (some a') n c)
 |slz (a a':Addr) (hs:a.spot=none):VR π D (.slice (some a) 0 0) (.slice (some a') 0 0)
 |slo {a a':Addr} {s:Nat} (n c c':Nat) (hn:n≤c) (hs:a.spot=some s) (h:Fv π D s a a' n c c'):VR π D (.slice (some a) n c) (.slice (some a') n c')
 |map0:VR π D (.map none) (.map none)
 |map {r r':Nat} (h:(∃i,π r=some i∧r'=i.bm)∨(π r=none∧D r)):VR π D (.map (some r)) (.map (some r'))
 |func (fn:Fn) {f c f' c':List Value} (hf:f.length=f'.length) (hfs:∀(i:Nat) v v',f[i]? =some v→f'[i]? =some v'→VR π D v v')
   (hc:c.length=c'.length) (hcs:∀(i:Nat) v v',c[i]? =some v→c'[i]? =some v'→VR π D v v'):VR π D (.func fn ⟨f⟩ ⟨c⟩) (.func fn ⟨f'⟩ ⟨c'⟩)
 |nilFunc:VR π D .nilFunc .nilFunc
 |iface (t:TypeId) {v v':Value} (h:VR π D v v'):VR π D (.iface t v) (.iface t v')
 |nilIface:VR π D .nilIface .nilIface
 |agg {c c':List Value} (hc:c.length=c'.length) (h1:∀v∈c,bH v=true) (hcs:∀(i:Nat) v v',c[i]? =some v→c'[i]? =some v'→VR π D v v'):VR π D (.agg ⟨c⟩) (.agg ⟨c'⟩)
 |tuple {c c':List Value} (h1:dF c=false) (hc:c.length=c'.length) (hcs:∀(i:Nat) v v',c[i]? =some v→c'[i]? =some v'→VR π D v v'):VR π D (.tuple ⟨c⟩) (.tuple ⟨c'⟩)
 |data {rows:List Value} {v':Value} (h:Rd π.fr (dV rows) v'):VR π D (dV rows) v'
 |dataP {cs cs':List Value} {a':Addr} (hs:a'.spot=none) (hf:∃cc,π.fr a'.block=some cc∧eC cc a'.off cs') (h:lO π.fr cs cs'):VR π D (fv cs) (.pointer (some a'))
 |any (v':Value):VR π D I4 v'
def aR(π:aK)(D:Nat→Prop)(l l':List Value):Prop:=l.length=l'.length∧∀(i:Nat) v v',l[i]? =some v→l'[i]? =some v'→VR π D v v'
structure eV(π:aK)(D:Nat→Prop)(π':aK)(D':Nat→Prop):Prop where
 loc:∀k i,π k=some i→π' k=some i∨(π' k=none∧D' k)
 dead:∀k,π k=none→D k→π' k=none∧D' k
 fr:∀B cc,π.fr B=some cc→π'.fr B=some cc
theorem eV.refl(π:aK)(D:Nat→Prop):eV π D π D:=⟨fun _ _ h=> .inl h,fun _ h d=>⟨h,d⟩,fun _ _ h=>h⟩
theorem eV.trans{π π₁ π₂:aK}{D D₁ D₂:Nat→Prop}(h:eV π D π₁ D₁)(h':eV π₁ D₁ π₂ D₂):eV π D π₂ D₂:=
 ⟨fun k i hk=>by
  rcases h.1 k i hk with h1|⟨h1,h2⟩
  ·exact h'.1 k i h1
  ·exact .inr (h'.2 k h1 h2),fun k hk hd=>h'.2 k (h.2 k hk hd).1 (h.2 k hk hd).2,fun B cc hf=>h'.3 B cc (h.3 B cc hf)⟩
theorem AR.mono{π π':aK}{D D':Nat→Prop}(h:eV π D π' D'){a a':Addr}(ha:AR π D a a'):AR π' D' a a':=by
 refine⟨ha.1,?_⟩
 rcases ha.2 with⟨i,h1,h2,h3⟩|⟨h1,h2⟩
 ·rcases h.1 _ _ h1 with h4|h4
  ·exact .inl ⟨i,h4,h2,h3⟩
  ·exact .inr h4
 ·exact .inr (h.2 _ h1 h2)
theorem Fv.mono{π π':aK}{D D':Nat→Prop}(h:eV π D π' D'){z:Nat}{a a':Addr}{n c c':Nat}(ha:Fv π D z a a' n c c'):Fv π' D' z a a' n c c':=by
 refine⟨ha.1,ha.2.1,?_⟩
 rcases ha.2.2 with⟨i,h1,h2⟩|⟨h1,h2⟩
 ·rcases h.1 _ _ h1 with h4|h4
  ·exact .inl ⟨i,h4,h2⟩
  ·exact .inr h4
 ·exact .inr (h.2 _ h1 h2)
theorem VR.mono{π π':aK}{D D':Nat→Prop}(h:eV π D π' D'){v v':Value}(hv:VR π D v v'):VR π' D' v v':=by
 induction hv with
 |bool b=>exact .bool b
 |int k n=>exact .int k n
 |float k b=>exact .float k b
 |complex k x y=>exact .complex k x y
 |string s=>exact .string s
 |ptr0=>exact .ptr0
 |ptr hs ha=>exact .ptr hs (ha.mono h)
 |sl0 n c hn=>exact .sl0 n c hn
 |sl n c hn hs ha=>exact .sl n c hn hs (ha.mono h)
 |slz a a' hs=>exact .slz a a' hs
 |slo n c c' hn hs ha=>exact .slo n c c' hn hs (ha.mono h)
 |map0=>exact .map0
 |map hr=>
  refine .map ?_
  rcases hr with⟨i,h1,h2⟩|⟨h1,h2⟩
  ·rcases h.1 _ _ h1 with h4|h4
   ·exact .inl ⟨i,h4,h2⟩
   ·exact .inr h4
  ·exact .inr (h.2 _ h1 h2)
 |func fn hf _ hc _ ihf ihc=>exact .func fn hf ihf hc ihc
 |nilFunc=>exact .nilFunc
 |iface t _ ih=>exact .iface t ih
 |nilIface=>exact .nilIface
 |agg hc h1 _ ih=>exact .agg hc h1 ih
 |tuple h1 hc _ ih=>exact .tuple h1 hc ih
 |data hd=>exact .data (hd.mono h.3)
 |dataP hs hf hd=>exact .dataP hs (hf.imp fun cc h1=>⟨h.3 _ _ h1.1,h1.2⟩) (hd.mono h.3)
 |any v=>exact .any v
theorem aR.mono{π π':aK}{D D':Nat→Prop}(h:eV π D π' D'){l l':List Value}(hv:aR π D l l'):aR π' D' l l':=
 ⟨hv.1,fun i v v' h1 h2=>(hv.2 i v v' h1 h2).mono h⟩
section lists
variable {π:aK} {D:Nat→Prop}
theorem aR.nil:aR π D [] []:=⟨rfl,fun i v v' h _=>by simp at h⟩
theorem aR.cons{v v':Value}{l l':List Value}(h:VR π D v v')(hl:aR π D l l'):aR π D (v::l) (v'::l'):=
 ⟨by simp [hl.1],fun i u u' h1 h2=>by
  cases i with
  |zero=>simp at h1 h2;subst h1;subst h2;exact h
  |succ i=>simp at h1 h2;exact hl.2 i u u' h1 h2⟩
theorem aR.head{v v':Value}{l l':List Value}(h:aR π D (v::l) (v'::l')):VR π D v v':=h.2 0 v v' rfl rfl
theorem aR.tail{v v':Value}{l l':List Value}(h:aR π D (v::l) (v'::l')):aR π D l l':=
 ⟨by simpa using h.1,fun i u u' h1 h2=>h.2 (i+1) u u' (by simpa using h1) (by simpa using h2)⟩
theorem aR.split{v:Value}{l l':List Value}(h:aR π D (v::l) l'):∃v' r,l'=v'::r∧VR π D v v'∧aR π D l r:=by
 cases l' with
 |nil=>simp [aR]at h
 |cons v' r=>exact⟨v',r,rfl,h.head,h.tail⟩
theorem aR.empty{l':List Value}(h:aR π D [] l'):l'=[]:=by
 have:=h.1
 simp at this
 exact List.eq_nil_of_length_eq_zero this.symm
theorem aR.one{v v':Value}(h:VR π D v v'):aR π D [v] [v']:= .cons h .nil
theorem aR.append{l l' m m':List Value}(h:aR π D l l')(h':aR π D m m'):aR π D (l++m) (l'++m'):=
 ⟨by simp [h.1,h'.1],fun i v v' h1 h2=>by
  by_cases hi:i<l.length
  ·rw [List.getElem?_append_left hi]at h1
   rw [List.getElem?_append_left (h.1▸hi)]at h2
   exact h.2 i v v' h1 h2
  ·rw [List.getElem?_append_right (by omega)]at h1
   rw [List.getElem?_append_right (by have:=h.1;omega),←h.1]at h2
   exact h'.2 _ v v' h1 h2⟩
theorem aR.take{l l':List Value}(n:Nat)(h:aR π D l l'):aR π D (l.take n) (l'.take n):=
 ⟨by simp [h.1],fun i v v' h1 h2=>by
  rw [List.getElem?_take]at h1 h2
  split at h1
  ·rename_i hi;rw [if_pos hi]at h2;exact h.2 i v v' h1 h2
  ·cases h1⟩
theorem aR.drop{l l':List Value}(n:Nat)(h:aR π D l l'):aR π D (l.drop n) (l'.drop n):=
 ⟨by simp [h.1],fun i v v' h1 h2=>by
  rw [List.getElem?_drop]at h1 h2
  exact h.2 _ v v' h1 h2⟩
theorem aR.get{l l':List Value}(h:aR π D l l'){i:Nat}{v:Value}(hv:l[i]? =some v):∃v',l'[i]? =some v'∧VR π D v v':=by
 have hi:i<l.length:=(List.getElem?_eq_some_iff.1 hv).1
 have hi':i<l'.length:=h.1▸hi
 exact⟨l'[i],by rw [List.getElem?_eq_getElem hi'],h.2 i v _ hv (by rw [List.getElem?_eq_getElem hi'])⟩
theorem aR.mapped{α:Type}{f g:α→Value}(l:List α)(h:∀x∈l,VR π D (f x) (g x)):aR π D (l.map f) (l.map g):=by
 induction l with
 |nil=>exact .nil
 |cons a l ih=>exact .cons (h a (by simp)) (ih fun x hx=>h x (by simp [hx]))
theorem aR.dn{l l':List Value}(h:aR π D l l'):∀n,aR π D (List.replicate n l).flatten (List.replicate n l').flatten
 |0=>by simpa using aR.nil
 |n+1=>by rw [List.replicate_succ,List.flatten_cons,List.replicate_succ,List.flatten_cons];exact h.append (aR.dn h n)
end lists
def oZ(π:aK)(D:Nat→Prop)(es es':List MapEntry):Prop:=
 es.length=es'.length∧∀(i:Nat) e e',es[i]? =some e→es'[i]? =some e'→VR π D e.key e'.key∧VR π D e.val e'.val∧e.born=e'.born
def fK(π:aK)(D:Nat→Prop)(i:PI)(w:World):aN→Prop
 | .cells c s4 aA ro _=>∃cc elem fz,w.heap[i.bm]? =some (.cells cc elem fz)∧cc.size=i.bsize∧i.sh+c.length≤i.bsize∧
   (∀v∈c,bH v=true)∧aR π D c ((cc.toList.drop i.sh).take c.length)∧(ro=false→∀x,x<i.bsize→¬(fz.1≤x∧x<fz.2))∧
   i.s4=s4∧i.aA=aA∧i.ro=ro∧i.len=c.length
 | .map es clock=>∃es',w.heap[i.bm]? =some (.map es' clock)∧oZ π D es es'.toList∧i.ro=false∧i.s4=none
 | .iter s pos=>w.heap[i.bm]? =some (.stringIter ⟨⟨s⟩⟩ pos)∧i.ro=false∧i.s4=none∧i.sh=0
structure Rel(π:aK)(δ D:Nat→Prop)(H:Nat→Option aN)(w:World):Prop where
 obj:∀k i,π k=some i→∃o,H k=some o∧fK π D i w o
 lF:∀k i,π k=some i→i.aA≤k∧(i.s4=none→i.aA=k)
 uh:∀B cc,π.fr B=some cc→∃elem fz,w.heap[B]? =some (.cells ⟨cc⟩ elem fz)
 AS:∀k i,π k=some i→i.ro=false→π.fr i.bm=none
 sep:∀k₁ k₂ i₁ i₂,k₁≠k₂→π k₁=some i₁→π k₂=some i₂→i₁.bm=i₂.bm→(i₁.ro=true∧i₂.ro=true)∨
  (i₁.ro=false∧i₂.ro=false∧i₁.aA=i₂.aA∧((δ k₁∧i₁.sh+i₁.len≤i₂.sh+i₂.len)∨(δ k₂∧i₂.sh+i₂.len≤i₁.sh+i₁.len)))
def ext(σ:aD)(H:Nat→Option aN):Nat→Option aN:=fun k=>if k<σ.next then σ.obj k else H k
def lV:aN→Bool
 | .cells _ _ _ _ d=>d
 |_=>false
def bd(σ:aD)(k:Nat):Prop:=∃o,σ.obj k=some o∧lV o=true
def WF(σ:aD):Prop:=∀k,σ.next≤k→σ.obj k=none
def kindOf:aN→Nat
 | .cells .. =>0
 | .map .. =>1
 | .iter .. =>2
inductive ea(k low bp:Nat):Option aN→Option aN→Prop
 |none:ea k low bp none none
 |cells {c c':List Value} {e:Option Nat} {aA:Nat} {ro d d':Bool} (hl:c'.length=c.length) (hd:d=true→d'=true∧c'=c) (hr:ro=true→c'=c∧d'=d)
   (hlow:low≤aA∨c'=c) (hk:bp≤k∨d'=d):ea k low bp (some (.cells c e aA ro d)) (some (.cells c' e aA ro d'))
 |other {o p:aN} (h:kindOf o=kindOf p) (h0:kindOf o≠0) (hlow:low≤k∨p=o):ea k low bp (some o) (some p)
structure cm(σ σ':aD):Prop where
 next:σ.next≤σ'.next
 low:σ'.low≤σ.low
 bp:σ'.bp≤σ.bp
 wf:WF σ→WF σ'
 step:∀k,k<σ.next→ea k σ'.low σ'.bp (σ.obj k) (σ'.obj k)
structure Fr(π:aK)(w w':World):Prop where
 os:w'.os=w.os
 tape:w'.tape=w.tape
 output:w'.output=w.output
 size:w.heap.size≤w'.heap.size
 kF:∀B,B<w.heap.size→(∀k i,π k=some i→i.ro=false→i.bm≠B)→w'.heap[B]? =w.heap[B]?
def eZ(π π':aK)(w:World):Prop:=(∀B cc,π.fr B=some cc→π'.fr B=some cc)∧∀B cc,π'.fr B=some cc→π.fr B=some cc∨w.heap.size≤B
theorem eZ.same{π π':aK}{w:World}(h:π'.fr=π.fr):eZ π π' w:=⟨fun _ _ hf=>by rw [h];exact hf,fun _ _ hf=> .inl (by rw [←h];exact hf)⟩
theorem eZ.trans{π π' π'':aK}{w w':World}(h:eZ π π' w)(h':eZ π' π'' w')(hs:w.heap.size≤w'.heap.size):eZ π π'' w:=
 ⟨fun B cc hf=>h'.1 B cc (h.1 B cc hf),fun B cc hf=>by
  rcases h'.2 B cc hf with h1|h1
  ·exact h.2 B cc h1
  ·exact .inr (Nat.le_trans hs h1)⟩
def grow(σ σ':aD)(δ:Nat→Prop):Nat→Prop:=fun k=>δ k∨(bd σ' k∧¬bd σ k)
structure cC(σ σ':aD)(π:aK)(δ D:Nat→Prop)(H:Nat→Option aN)(w:World):Prop where
 rel:Rel π δ D (ext σ H) w
 wf:WF σ
 Rw:σ.next≤σ'.next
 fresh:∀k,σ.next≤k→k<σ'.next→π k=none
 Ng:∀k,δ k→k<σ.next∨σ'.next≤k
 Ju:∀k i,δ k→π k=some i→σ'.next≤k∨(k<σ.next∧(bd σ k∨(¬bd σ' k∧k<σ'.low)))
 Nh:∀k i,π k=some i→σ'.next≤k→i.aA<σ'.low∨σ'.next≤i.aA
 dead:∀k,D k→bd σ k∨σ'.next≤k
structure Post(σ σ':aD)(π:aK)(δ D:Nat→Prop)(H:Nat→Option aN)(w:World)(π':aK)(D':Nat→Prop)(w':World):Prop where
 mono:cm σ σ'
 rel:Rel π' (grow σ σ' δ) D' (ext σ' H) w'
 sub:∀k i,π' k=some i→π k=some i∨(π k=none∧σ.next≤k∧k<σ'.next)
 kept:∀k i,π k=some i→π' k=some i∨(π' k=none∧D' k∧σ'.low≤i.aA∧i.aA<σ'.next)
 lu:∀k,D k→D' k
 o8:∀k,D' k→D k∨(bd σ' k∧σ'.low≤k)
 Ni:∀k,k<σ.next→bd σ' k→¬bd σ k→∃i,π k=some i
 lF:∀k i,π' k=some i→σ.next≤i.aA∨∃k₀ i₀,π k₀=some i₀∧i₀.aA=i.aA
 bm:∀k i,π' k=some i→i.ro=false→(∃k₀ i₀,π k₀=some i₀∧i₀.ro=false∧i₀.bm=i.bm)∨w.heap.size≤i.bm
 Fw:eZ π π' w
 fr:Fr π w w'
end Go.az
namespace Go.az
theorem ea.refl(k low bp:Nat)(o:Option aN):ea k low bp o o:=by
 cases o with
 |none=>exact .none
 |some o=>
  cases o with
  |cells c e aA ro d=>exact .cells rfl (fun h=>⟨h,rfl⟩) (fun _=>⟨rfl,rfl⟩) (.inr rfl) (.inr rfl)
  |map es cl=>exact .other rfl (by simp [kindOf]) (.inr rfl)
  |iter s p=>exact .other rfl (by simp [kindOf]) (.inr rfl)
theorem ea.trans{k l₁ m₁ l₂ m₂:Nat}{a b c:Option aN}(hl:l₂≤l₁)(hm:m₂≤m₁)(h:ea k l₁ m₁ a b)(h':ea k l₂ m₂ b c):ea k l₂ m₂ a c:=by
 cases h with
 |none=>cases h';exact .none
 |cells hl1 hd1 hr1 hlow1 hk1=>
  cases h' with
  |cells hl2 hd2 hr2 hlow2 hk2=>
   refine .cells (hl2.trans hl1) (fun h=>?_) (fun h=>?_) ?_ ?_
   ·obtain⟨h1,h2⟩:=hd1 h
    obtain⟨h3,h4⟩:=hd2 h1
    exact⟨h3,h4.trans h2⟩
   ·obtain⟨h1,h2⟩:=hr1 h
    obtain⟨h3,h4⟩:=hr2 h
    exact⟨h3.trans h1,h4.trans h2⟩
   ·rcases hlow1 with h1|h1
    ·exact .inl (Nat.le_trans hl h1)
    ·rcases hlow2 with h2|h2
     ·exact .inl h2
     ·exact .inr (h2.trans h1)
   ·rcases hk1 with h1|h1
    ·exact .inl (Nat.le_trans hm h1)
    ·rcases hk2 with h2|h2
     ·exact .inl h2
     ·exact .inr (h2.trans h1)
  |other h h0 hlow=>simp [kindOf]at h0
 |other h h0 hlow=>
  cases h' with
  |cells=>rename_i o _ _ _ _ _ _ _ _ _ _ _ _;simp [kindOf]at h;exact absurd h h0
  |other h2 h02 hlow2=>
   refine .other (h.trans h2) h0 ?_
   rcases hlow with h1|h1
   ·exact .inl (Nat.le_trans hl h1)
   ·subst h1;exact hlow2
theorem cm.refl(σ:aD):cm σ σ:=⟨Nat.le_refl _,Nat.le_refl _,Nat.le_refl _,id,fun _ _=> .refl _ _ _ _⟩
theorem cm.trans{σ σ₁ σ₂:aD}(h:cm σ σ₁)(h':cm σ₁ σ₂):cm σ σ₂:=
 ⟨Nat.le_trans h.next h'.next,Nat.le_trans h'.low h.low,Nat.le_trans h'.bp h.bp,fun hw=>h'.wf (h.wf hw),fun k hk=>
  .trans h'.low h'.bp (h.step k hk) (h'.step k (Nat.lt_of_lt_of_le hk h.next))⟩
theorem cI{σ:aD}(hw:WF σ){k:Nat}(h:bd σ k):k<σ.next:=by
 obtain⟨o,ho,_⟩:=h
 rcases Nat.lt_or_ge k σ.next with h'|h'
 ·exact h'
 ·rw [hw k h']at ho;cases ho
theorem cm.dead{σ σ':aD}(h:cm σ σ')(hw:WF σ){k:Nat}(hd:bd σ k):bd σ' k:=by
 have hk:=cI hw hd
 obtain⟨o,ho,hdead⟩:=hd
 have hs:=h.step k hk
 rw [ho]at hs
 cases o with
 |cells c e aA ro d=>
  generalize ho':σ'.obj k=o' at hs
  cases hs with
  |cells hl hd2 hr hlow hk2=>exact⟨_,ho',(hd2 hdead).1⟩
  |other h2 h0 _=>simp [kindOf]at h0
 |map es cl=>cases hdead
 |iter s p=>cases hdead
section
variable {σ σ₁ σ₂:aD} {π π₁ π₂:aK} {δ D D₁ D₂:Nat→Prop} {H:Nat→Option aN} {w w₁ w₂:World}
theorem Rel.weaken{δ':Nat→Prop}(h:Rel π δ D H w)(hd:∀k,δ k→δ' k):Rel π δ' D H w:=
 ⟨h.obj,h.lF,h.uh,h.AS,fun k₁ k₂ i₁ i₂ hne h1 h2 hb=>by
  rcases h.sep k₁ k₂ i₁ i₂ hne h1 h2 hb with h3|⟨h3,h4,h5,h6⟩
  ·exact .inl h3
  ·exact .inr ⟨h3,h4,h5,h6.imp (fun h=>⟨hd _ h.1,h.2⟩) (fun h=>⟨hd _ h.1,h.2⟩)⟩⟩
theorem Fr.refl(π:aK)(w:World):Fr π w w:=⟨rfl,rfl,rfl,Nat.le_refl _,fun _ _ _=>rfl⟩
theorem Post.lv(hp:cC σ σ₁ π δ D H w)(h:Post σ σ₁ π δ D H w π₁ D₁ w₁):eV π D π₁ D₁:=
 ⟨fun k i hk=>(h.kept k i hk).imp id (fun h=>⟨h.1,h.2.1⟩),fun k hk hd=>by
  refine⟨?_,h.lu k hd⟩
  cases h1:π₁ k with
  |none=>rfl
  |some i=>
   rcases h.sub k i h1 with h2|⟨_,h2,_⟩
   ·rw [hk]at h2;cases h2
   ·rcases hp.dead k hd with h4|h4
    ·have:=cI hp.wf h4;omega
    ·omega,h.Fw.1⟩
theorem cC.first(h:cC σ σ₂ π δ D H w)(m₁:cm σ σ₁)(m₂:cm σ₁ σ₂):cC σ σ₁ π δ D H w:=
 ⟨h.rel,h.wf,m₁.next,fun k h1 h2=>h.fresh k h1 (Nat.lt_of_lt_of_le h2 m₂.next),fun k hk=>(h.Ng k hk).imp id (Nat.le_trans m₂.next),fun k i hd hk=>by
  rcases h.Ju k i hd hk with h1|⟨h1,h2⟩
  ·exact .inl (Nat.le_trans m₂.next h1)
  ·refine .inr ⟨h1,?_⟩
   rcases h2 with h2|⟨h2,h3⟩
   ·exact .inl h2
   ·exact .inr ⟨fun hx=>h2 (m₂.dead (m₁.wf h.wf) hx),Nat.lt_of_lt_of_le h3 m₂.low⟩,fun k i hk h1=>by
  rcases Nat.lt_or_ge k σ₂.next with h2|h2
  ·rw [h.fresh k (Nat.le_trans m₁.next h1) h2]at hk;cases hk
  ·rcases h.Nh k i hk h2 with h3|h3
   ·exact .inl (Nat.lt_of_lt_of_le h3 m₂.low)
   ·exact .inr (Nat.le_trans m₂.next h3),fun k hk=>(h.dead k hk).imp id (Nat.le_trans m₂.next)⟩
theorem cC.second(h:cC σ σ₂ π δ D H w)(p:Post σ σ₁ π δ D H w π₁ D₁ w₁)(m₂:cm σ₁ σ₂):cC σ₁ σ₂ π₁ (grow σ σ₁ δ) D₁ H w₁:=by
 have hw1:=p.mono.wf h.wf
 refine⟨p.rel,hw1,m₂.next,fun k h1 h2=>?_,fun k hk=>?_,fun k i hd hk=>?_,fun k i hk h1=>?_,fun k hk=>?_⟩
 ·cases hk:π₁ k with
  |none=>rfl
  |some i=>
   rcases p.sub k i hk with h3|⟨_,_,h3⟩
   ·rw [h.fresh k (Nat.le_trans p.mono.next h1) h2]at h3;cases h3
   ·omega
 ·rcases hk with hk|⟨hk,_⟩
  ·exact(h.Ng k hk).imp (fun h=>Nat.lt_of_lt_of_le h p.mono.next) id
  ·exact .inl (cI hw1 hk)
 ·rcases hd with hd|⟨hd,_⟩
  ·rcases p.sub k i hk with h3|⟨h3,h4,h5⟩
   ·rcases h.Ju k i hd h3 with h6|⟨h6,h7⟩
    ·exact .inl h6
    ·refine .inr ⟨Nat.lt_of_lt_of_le h6 p.mono.next,?_⟩
     rcases h7 with h7|h7
     ·exact .inl (p.mono.dead h.wf h7)
     ·exact .inr h7
   ·rcases h.Ng k hd with h6|h6
    ·omega
    ·have:=m₂.next;omega
  ·exact .inr ⟨cI hw1 hd,.inl hd⟩
 ·rcases p.sub k i hk with h3|⟨_,_,h3⟩
  ·exact h.Nh k i h3 h1
  ·have:=m₂.next;omega
 ·rcases p.o8 k hk with h1|h1
  ·exact(h.dead k h1).imp (p.mono.dead h.wf) id
  ·exact .inl h1.1
theorem Fr.trans(_hp:cC σ σ₂ π δ D H w)(p:Post σ σ₁ π δ D H w π₁ D₁ w₁){σ' σ'':aD}{δ' D' D'':Nat→Prop}{H':Nat→Option aN}(q:Post σ' σ'' π₁ δ' D' H' w₁ π₂ D'' w₂):Fr π w w₂:=by
 refine⟨q.fr.os.trans p.fr.os,q.fr.tape.trans p.fr.tape,q.fr.output.trans p.fr.output,Nat.le_trans p.fr.size q.fr.size,fun B hB hu=>?_⟩
 rw [q.fr.kF B (Nat.lt_of_lt_of_le hB p.fr.size) fun k i hk hro hb=>?_,p.fr.kF B hB hu]
 rcases p.bm k i hk hro with⟨k₀,i₀,h1,h2,h3⟩|h1
 ·exact hu k₀ i₀ h1 h2 (h3.trans hb)
 ·omega
theorem Post.trans(hp:cC σ σ₂ π δ D H w)(p:Post σ σ₁ π δ D H w π₁ D₁ w₁)(q:Post σ₁ σ₂ π₁ (grow σ σ₁ δ) D₁ H w₁ π₂ D₂ w₂):Post σ σ₂ π δ D H w π₂ D₂ w₂:=by
 have hw1:=p.mono.wf hp.wf
 refine⟨p.mono.trans q.mono,q.rel.weaken fun k hk=>?_,fun k i hk=>?_,fun k i hk=>?_,fun k hk=>q.lu k (p.lu k hk),fun k hk=>?_,fun k hk h1 h2=>?_,fun k i hk=>?_,fun k i hk hro=>?_,p.Fw.trans q.Fw p.fr.size,Fr.trans hp p q⟩
 ·rcases hk with(hk|⟨h1,h2⟩)|⟨h1,h2⟩
  ·exact .inl hk
  ·exact .inr ⟨q.mono.dead hw1 h1,h2⟩
  ·exact .inr ⟨h1,fun hx=>h2 (p.mono.dead hp.wf hx)⟩
 ·rcases q.sub k i hk with h1|⟨h1,h2,h3⟩
  ·rcases p.sub k i h1 with h4|⟨h4,h5,h6⟩
   ·exact .inl h4
   ·exact .inr ⟨h4,h5,Nat.lt_of_lt_of_le h6 q.mono.next⟩
  ·have h4:=Nat.le_trans p.mono.next h2
   exact .inr ⟨hp.fresh k h4 h3,h4,h3⟩
 ·rcases p.kept k i hk with h1|⟨h1,h2,h3⟩
  ·rcases q.kept k i h1 with h4|h4
   ·exact .inl h4
   ·exact .inr h4
  ·refine .inr ⟨?_,q.lu k h2,Nat.le_trans q.mono.low h3.1,Nat.lt_of_lt_of_le h3.2 q.mono.next⟩
   cases h4:π₂ k with
   |none=>rfl
   |some j=>
    rcases q.sub k j h4 with h5|⟨_,h5,h6⟩
    ·rw [h1]at h5;cases h5
    ·rw [hp.fresh k (Nat.le_trans p.mono.next h5) h6]at hk;cases hk
 ·rcases q.o8 k hk with h1|h1
  ·rcases p.o8 k h1 with h2|h2
   ·exact .inl h2
   ·exact .inr ⟨q.mono.dead hw1 h2.1,Nat.le_trans q.mono.low h2.2⟩
  ·exact .inr h1
 ·by_cases h3:bd σ₁ k
  ·exact p.Ni k hk h3 h2
  ·obtain⟨i,hi⟩:=q.Ni k (Nat.lt_of_lt_of_le hk p.mono.next) h1 h3
   rcases p.sub k i hi with h4|⟨_,h4,_⟩
   ·exact⟨i,h4⟩
   ·omega
 ·rcases q.lF k i hk with h1|⟨k₀,i₀,h1,h2⟩
  ·exact .inl (Nat.le_trans p.mono.next h1)
  ·rcases p.lF k₀ i₀ h1 with h3|⟨k₁,i₁,h3,h4⟩
   ·exact .inl (h2▸h3)
   ·exact .inr ⟨k₁,i₁,h3,h4.trans h2⟩
 ·rcases q.bm k i hk hro with⟨k₀,i₀,h1,h2,h3⟩|h1
  ·rcases p.bm k₀ i₀ h1 h2 with⟨k₁,i₁,h4,h5,h6⟩|h4
   ·exact .inl ⟨k₁,i₁,h4,h5,h6.trans h3⟩
   ·exact .inr (h3▸h4)
  ·exact .inr (Nat.le_trans p.fr.size h1)
theorem Post.refl(hp:cC σ σ π δ D H w):Post σ σ π δ D H w π D w:=
 ⟨.refl σ,hp.rel.weaken fun _ h=> .inl h,fun _ _ h=> .inl h,fun _ _ h=> .inl h,fun _ h=>h,fun _ h=> .inl h,fun _ _ h h'=>absurd h h',
  fun k i h=> .inr ⟨k,i,h,rfl⟩,fun k i h hr=> .inl ⟨k,i,h,hr,rfl⟩,eZ.same rfl,.refl π w⟩
theorem Rel.drew(h:Rel π δ D H w):Rel π δ D H w.drew:=
 ⟨fun k i hk=>by
  obtain⟨o,ho,hr⟩:=h.obj k i hk
  refine⟨o,ho,?_⟩
  cases o<;>exact hr,h.lF,h.uh,h.AS,h.sep⟩
end
end Go.az
namespace Go.az
def putRow(w:World)(B:Nat)(cc:Array Value)(elem:TypeId)(fz:Nat×Nat):World:= {w with heap:=w.heap.setIfInBounds B (.cells cc elem fz)}
def putObj(w:World)(B:Nat)(o:Obj):World:= {w with heap:=w.heap.setIfInBounds B o}
theorem eK{w:World}{B:Nat}{o:Obj}(h:B<w.heap.size):(putObj w B o).heap[B]? =some o:=by simp [putObj,h]
theorem eb{w:World}{B C:Nat}{o:Obj}(h:C≠B):(putObj w B o).heap[C]? =w.heap[C]? :=by
 simp only [putObj];rw [Array.getElem?_setIfInBounds_ne (Ne.symm h)]
theorem aB{w:World}{B:Nat}{o:Obj}(h:w.heap[B]? =some o):B<w.heap.size:=(Array.getElem?_eq_some_iff.1 h).1
def ia(cc:Array Value)(x:Nat)(vs:List Value):Array Value:=⟨cc.toList.take x++vs++cc.toList.drop (x+vs.length)⟩
theorem qL{cc:Array Value}{x:Nat}{vs:List Value}(h:x+vs.length≤cc.size):(ia cc x vs).size=cc.size:=by
 have:cc.toList.length=cc.size:=rfl
 simp only [ia,List.size_toArray,List.length_append,List.length_take,List.length_drop]
 omega
theorem iI{P:Program}(B:Nat)(elem:TypeId)(fz:Nat×Nat)(x:Nat):∀(vs:List Value)(i:Nat)(cc:Array Value)(w:World),w.heap[B]? =some (.cells cc elem fz)→
  (∀v∈vs,v.oneCell'=true)→x+i+vs.length≤cc.size→(∀y,x+i≤y→y<x+i+vs.length→¬(fz.1≤y∧y<fz.2))→
  (storeCells ⟨B,x,none⟩ vs i).run P w= .ok () (putObj w B (.cells (ia cc (x+i) vs) elem fz)):=by
 intro vs
 induction vs with
 |nil=>
  intro i cc w hB _ _ _
  simp only [storeCells,Sem.run_pure]
  congr 1
  have hlt:=aB hB
  have:ia cc (x+i) []=cc:=by simp [ia]
  rw [this,putObj]
  have h2:w.heap.setIfInBounds B (.cells cc elem fz)=w.heap:=by
   apply Array.ext_getElem?
   intro j
   by_cases hj:B=j
   ·subst hj;rw [Array.getElem?_setIfInBounds_self_of_lt hlt,hB]
   ·rw [Array.getElem?_setIfInBounds_ne hj]
  rw [h2]
 |cons v vs ih=>
  intro i cc w hB h1 hr hf
  have hlt:=aB hB
  have hsz:cc.toList.length=cc.size:=rfl
  simp only [List.length_cons]at hr hf
  have hadd:(Addr.mk B x none).add i=⟨B,x+i,none⟩:=by
   unfold Addr.add;split
   ·rename_i h;subst h;rfl
   ·rfl
  have hc:w.cell? ⟨B,x+i,none⟩=some cc[x+i]:=by
   simp only [World.cell?,hB,Option.isSome_none,Bool.false_eq_true,if_false]
   rw [Array.getElem?_eq_getElem]
  have hfr:w.frozen? ⟨B,x+i,none⟩=false:=by
   have:=hf (x+i) (Nat.le_refl _) (by omega)
   simp only [World.frozen?,hB]
   rw [Bool.eq_false_iff]
   intro h
   simp only [Bool.and_eq_true,decide_eq_true_eq]at h
   exact this h
  have hset:w.setCell ⟨B,x+i,none⟩ v=putObj w B (.cells (cc.setIfInBounds (x+i) v) elem fz):=by
   have hh:w.heap[B]'hlt= .cells cc elem fz:=by
    have:=hB;rw [Array.getElem?_eq_getElem hlt]at this;exact Option.some.inj this
   simp only [World.setCell,putObj]
   congr 1
   apply Array.ext_getElem?
   intro j
   rw [Array.getElem?_modify,Array.getElem?_setIfInBounds]
   by_cases hj:B=j
   ·subst hj;rw [if_pos rfl,if_pos rfl,if_pos hlt,hB];rfl
   ·rw [if_neg hj,if_neg hj]
  simp only [storeCells,Sem.run_bind,hadd]
  rw [run_store P w _ v .plain (h1 v (by simp)),hc]
  simp only [hfr,Bool.false_eq_true,if_false,Result.andThen_ok]
  rw [hset,ih (i+1) (cc.setIfInBounds (x+i) v) _ (eK hlt) (fun u hu=>h1 u (by simp [hu])) (by simp;omega) (fun y h2 h3=>hf y (by omega) (by omega))]
  congr 1
  simp only [putObj]
  congr 1
  apply Array.ext_getElem?
  intro j
  by_cases hj:B=j
  ·subst hj
   rw [Array.getElem?_setIfInBounds_self_of_lt (by simpa using hlt),Array.getElem?_setIfInBounds_self_of_lt hlt]
   congr 2
   simp only [ia]
   congr 1
   rw [Array.toList_setIfInBounds,List.length_cons,show x+(i+1)=(x+i)+1 from by omega,show x+i+1+vs.length=x+i+(vs.length+1)from by omega,
    List.take_set,List.drop_set,if_pos (by omega),List.take_succ_eq_append_getElem (by omega),List.set_append,if_neg (by simp;omega)]
   simp only [List.length_take,List.append_assoc]
   congr 1
   rw [show x+i-min (x+i) cc.toList.length=0 from by omega]
   rfl
  ·rw [Array.getElem?_setIfInBounds_ne hj,Array.getElem?_setIfInBounds_ne hj,Array.getElem?_setIfInBounds_ne hj]
theorem run_loadCellsFrom{P:Program}(B:Nat)(elem:TypeId)(fz:Nat×Nat)(x:Nat)(cc:Array Value)(w:World)(hB:w.heap[B]? =some (.cells cc elem fz)):∀(n i:Nat)(acc:Array Value),
  x+i+n≤cc.size→(loadCellsFrom ⟨B,x,none⟩ i n acc).run P w= .ok ⟨acc.toList++(cc.toList.drop (x+i)).take n⟩ w:=by
 intro n
 induction n with
 |zero=>intro i acc _;simp [loadCellsFrom]
 |succ n ih=>
  intro i acc hr
  have hsz:cc.toList.length=cc.size:=rfl
  have hadd:(Addr.mk B x none).add i=⟨B,x+i,none⟩:=by
   unfold Addr.add;split
   ·rename_i h;subst h;rfl
   ·rfl
  have hc:w.cell? ⟨B,x+i,none⟩=some cc[x+i]:=by
   simp only [World.cell?,hB,Option.isSome_none,Bool.false_eq_true,if_false]
   rw [Array.getElem?_eq_getElem]
  simp only [loadCellsFrom,Sem.run_bind,hadd,run_load,hc,Result.andThen_ok]
  rw [ih (i+1) _ (by omega)]
  congr 2
  rw [Array.toList_push,List.append_assoc,show x+(i+1)=(x+i)+1 from by omega,List.drop_eq_getElem_cons (i:=x+i) (by omega),List.take_succ_cons]
  rfl
theorem run_loadCells{P:Program}{B:Nat}{elem:TypeId}{fz:Nat×Nat}{x n:Nat}{cc:Array Value}{w:World}(hB:w.heap[B]? =some (.cells cc elem fz))(hr:x+n≤cc.size):
  (loadCells ⟨B,x,none⟩ n).run P w= .ok ⟨(cc.toList.drop x).take n⟩ w:=by
 unfold loadCells
 rw [run_loadCellsFrom B elem fz x cc w hB n 0 #[] (by omega)]
 simp
theorem eO(a b:Nat):jh a b=min a b:=by
 unfold jh;rw [iff_eq]
 by_cases h:a≤b
 ·rw [if_pos ((bk _ _).2 h),Nat.min_eq_left h]
 ·rw [if_neg (fun h'=>h ((bk _ _).1 h')),Nat.min_eq_right (by omega)]
theorem tl(σ:aD)(o:aN)(k:Nat):(σ.new o).obj k=if k=σ.next then some o else σ.obj k:=by
 show(σ.heap.set σ.next o).get k=_;rw [Tr.dm];rfl
@[simp] theorem lW(σ:aD)(o:aN):(σ.new o).next=σ.next+1:=rfl
@[simp] theorem Xw(σ:aD)(o:aN):(σ.new o).low=σ.low:=rfl
@[simp] theorem U4(σ:aD)(o:aN):(σ.new o).bp=σ.bp:=rfl
theorem gM(σ:aD)(o:aN):cm σ (σ.new o):=
 ⟨Nat.le_succ _,Nat.le_refl _,Nat.le_refl _,fun hw k hk=>by
  rw [tl,if_neg (by rw [lW]at hk;omega)];exact hw k (by rw [lW]at hk;omega),fun k hk=>by
  rw [tl,if_neg (by omega)];exact .refl _ _ _ _⟩
theorem Bf{σ:aD}{o:aN}{k:Nat}(hk:k≠σ.next)(h:bd (σ.new o) k):bd σ k:=by
 obtain⟨q,h1,h2⟩:=h
 rw [tl,if_neg hk]at h1
 exact⟨q,h1,h2⟩
theorem fK.mono{π π':aK}{D D':Nat→Prop}{i:PI}{w w':World}{o:aN}(hs:eV π D π' D')(hw:w'.heap[i.bm]? =w.heap[i.bm]?)(h:fK π D i w o):fK π' D' i w' o:=by
 cases o with
 |cells c e aA ro d=>
  obtain⟨cc,elem,fz,h1,h2,h3,h4,h5,h6⟩:=h
  exact⟨cc,elem,fz,hw▸h1,h2,h3,h4,h5.mono hs,h6⟩
 |map es cl=>
  obtain⟨es',h1,h2,h3⟩:=h
  exact⟨es',hw▸h1,⟨h2.1,fun i e e' a b=>by obtain⟨x,y,z⟩:=h2.2 i e e' a b;exact⟨x.mono hs,y.mono hs,z⟩⟩,h3⟩
 |iter s p=>exact⟨hw▸h.1,h.2⟩
section
variable {σ σ':aD} {π:aK} {δ D:Nat→Prop} {H:Nat→Option aN} {w:World}
theorem Rel.lt(h:Rel π δ D H w){k:Nat}{i:PI}(hk:π k=some i):i.bm<w.heap.size:=by
 obtain⟨o,_,hr⟩:=h.obj k i hk
 cases o with
 |cells c e aA ro d=>obtain⟨cc,elem,fz,h1,_⟩:=hr;exact aB h1
 |map es cl=>obtain⟨es',h1,_⟩:=hr;exact aB h1
 |iter s p=>exact aB hr.1
theorem heap_alloc(w:World)(O:Obj)(B:Nat):(w.alloc O).heap[B]? =if B=w.heap.size then some O else w.heap[B]? :=by
 show(w.heap.push O)[B]? =_
 rw [Array.getElem?_push]
theorem Fx(σ:aD)(o:aN)(H:Nat→Option aN)(k:Nat):ext (σ.new o) H k=if k=σ.next then some o else ext σ H k:=by
 unfold ext
 rw [lW,tl]
 by_cases h:k=σ.next
 ·rw [if_pos (by omega),if_pos h,if_pos h]
 ·rw [if_neg h,if_neg h]
  by_cases h2:k<σ.next
  ·rw [if_pos (by omega),if_pos h2]
  ·rw [if_neg (by omega),if_neg h2]
theorem ui{o:aN}{O:Obj}{i:PI}(hp:cC σ (σ.new o) π δ D H w)(hb:i.bm=w.heap.size)(ho:fK π D i (w.alloc O) o)(horg:i.aA≤σ.next∧(i.s4=none→i.aA=σ.next))
  (hkin:i.aA=σ.next∨∃k₀ i₀,π k₀=some i₀∧i₀.aA=i.aA):Post σ (σ.new o) π δ D H w ⟨fun k=>if k=σ.next then some i else π k,π.fr⟩ D (w.alloc O):=by
 have hn:π σ.next=none:=hp.fresh _ (Nat.le_refl _) (Nat.lt_succ_self _)
 have hs:eV π D ⟨fun k=>if k=σ.next then some i else π k,π.fr⟩ D:=⟨fun k j hk=> .inl (by
  show(if k=σ.next then some i else π k)=some j
  rw [if_neg (fun e=>by rw [e,hn]at hk;cases hk)];exact hk),fun k hk hd=>⟨by
  show(if k=σ.next then some i else π k)=none
  rw [if_neg (fun e=>by
   rcases hp.dead k hd with h|h
   ·have:=cI hp.wf h;omega
   ·rw [lW]at h;omega)];exact hk,hd⟩,fun _ _ h=>h⟩
 refine⟨gM σ o,⟨fun k j hk=>?_,fun k j hk=>?_,fun B cc hf=>?_,fun k j hk hro=>?_,fun k₁ k₂ i₁ i₂ hne h1 h2 hbb=>?_⟩,fun k j hk=>?_,fun k j hk=> .inl (by
  show(if k=σ.next then some i else π k)=some j
  rw [if_neg (fun e=>by rw [e,hn]at hk;cases hk)];exact hk),fun _ h=>h,fun _ h=> .inl h,fun k hk h1 h2=>absurd (Bf (by omega) h1) h2,fun k j hk=>?_,fun k j hk hro=>?_,eZ.same rfl,
  ⟨rfl,rfl,rfl,by simp,fun B hB _=>by rw [heap_alloc,if_neg (by omega)]⟩⟩
 ·rw [Fx]
  by_cases he:k=σ.next
  ·rw [if_pos he]
   have hk':(if k=σ.next then some i else π k)=some j:=hk
   rw [if_pos he]at hk'
   cases hk'
   exact⟨o,rfl,ho.mono hs rfl⟩
  ·rw [if_neg he]
   have hk':(if k=σ.next then some i else π k)=some j:=hk
   rw [if_neg he]at hk'
   obtain⟨q,h1,h2⟩:=hp.rel.obj k j hk'
   exact⟨q,h1,h2.mono hs (by rw [heap_alloc,if_neg (by have:=hp.rel.lt hk';omega)])⟩
 ·have hk':(if k=σ.next then some i else π k)=some j:=hk
  split at hk'
  ·rename_i he;cases hk';exact⟨by omega,fun h=>by have:=horg.2 h;omega⟩
  ·exact hp.rel.lF k j hk'
 ·obtain⟨el,fz,h1⟩:=hp.rel.uh B cc hf
  exact⟨el,fz,by rw [heap_alloc,if_neg (by have:=aB h1;omega)];exact h1⟩
 ·have hk':(if k=σ.next then some i else π k)=some j:=hk
  split at hk'
  ·cases hk'
   show π.fr i.bm=none
   cases hf:π.fr i.bm with
   |none=>rfl
   |some cc=>
    obtain⟨_,_,h1⟩:=hp.rel.uh _ _ hf
    have:=aB h1
    omega
  ·exact hp.rel.AS k j hk' hro
 ·have h1':(if k₁=σ.next then some i else π k₁)=some i₁:=h1
  have h2':(if k₂=σ.next then some i else π k₂)=some i₂:=h2
  by_cases e1:k₁=σ.next
  ·rw [if_pos e1]at h1'
   rw [if_neg (by omega)]at h2'
   cases h1'
   have:=hp.rel.lt h2'
   omega
  ·rw [if_neg e1]at h1'
   by_cases e2:k₂=σ.next
   ·rw [if_pos e2]at h2'
    cases h2'
    have:=hp.rel.lt h1'
    omega
   ·rw [if_neg e2]at h2'
    rcases hp.rel.sep k₁ k₂ i₁ i₂ hne h1' h2' hbb with h3|⟨h3,h4,h5,h6⟩
    ·exact .inl h3
    ·exact .inr ⟨h3,h4,h5,h6.imp (fun h=>⟨.inl h.1,h.2⟩) (fun h=>⟨.inl h.1,h.2⟩)⟩
 ·have hk':(if k=σ.next then some i else π k)=some j:=hk
  split at hk'
  ·rename_i he;subst he;exact .inr ⟨hn,Nat.le_refl _,Nat.lt_succ_self _⟩
  ·exact .inl hk'
 ·have hk':(if k=σ.next then some i else π k)=some j:=hk
  split at hk'
  ·cases hk'
   rcases hkin with h|h
   ·exact .inl (by omega)
   ·exact .inr h
  ·exact .inr ⟨k,j,hk',rfl⟩
 ·have hk':(if k=σ.next then some i else π k)=some j:=hk
  split at hk'
  ·cases hk';exact .inr (by omega)
  ·exact .inl ⟨k,j,hk',hro,rfl⟩
theorem mM{o:aN}{c:List Value}{e:Option Nat}{aA:Nat}(h:rowsOf o=some (c,e,aA)):o= .cells c e aA false false:=by
 cases o with
 |cells c' e' org' ro d=>
  cases ro<;>cases d<;>simp [rowsOf]at h
  obtain⟨rfl,rfl,rfl⟩:=h
  rfl
 |map es cl=>cases h
 |iter s p=>cases h
theorem Jv{o:aN}{c:List Value}(h:rowOf o=some c):∃e aA ro,o= .cells c e aA ro false:=by
 cases o with
 |cells c' e' org' ro d=>
  cases d<;>simp [rowOf]at h
  subst h
  exact⟨_,_,_,rfl⟩
 |map es cl=>cases h
 |iter s p=>cases h
theorem Bh{k off:Nat}{vs:List Value}(h:σ.setAt k off vs=some σ'):∃c e aA,σ.obj k=some (.cells c e aA false false)∧off+vs.length≤c.length∧
  σ'=⟨σ.heap.set k (.cells (c.take off++vs++c.drop (off+vs.length)) e aA false false),σ.next,min aA σ.low,σ.bp⟩:=by
 obtain⟨c,e,aA,h1,h2⟩:=aq h
 obtain⟨o,h3,h4⟩:=aa h1
 obtain⟨c',h5,h6⟩:=aa h2
 obtain⟨h7,rfl⟩:=xq vs off h5
 cases h6
 rw [mM h4]at h3
 exact⟨c,e,aA,h3,h7,by rw [aD.lower,eO]⟩
structure Rewrite(σ σ':aD)(k:Nat)(o:aN):Prop where
 next:σ'.next=σ.next
 bp:σ'.bp=σ.bp
 obj:∀j,σ'.obj j=if j=k then some o else σ.obj j
theorem fG(σ:aD)(k:Nat)(o:aN)(low:Nat):Rewrite σ ⟨σ.heap.set k o,σ.next,low,σ.bp⟩ k o:=
 ⟨rfl,rfl,fun j=>by show(σ.heap.set k o).get j=_;rw [Tr.dm];rfl⟩
theorem Rewrite.mono{k:Nat}{o q:aN}(h:Rewrite σ σ' k q)(ho:σ.obj k=some o)(hl:σ'.low≤σ.low)(hs:ea k σ'.low σ'.bp (some o) (some q)):cm σ σ':=
 ⟨Nat.le_of_eq h.next.symm,hl,Nat.le_of_eq h.bp,fun hw j hj=>by
  rw [h.next]at hj
  rw [h.obj]
  split
  ·rename_i e;subst e;rw [hw _ hj]at ho;cases ho
  ·exact hw j hj,fun j _=>by
  rw [h.obj]
  by_cases e:j=k
  ·subst e;rw [if_pos rfl,ho];exact hs
  ·rw [if_neg e];exact .refl _ _ _ _⟩
theorem Rewrite.ext{k:Nat}{q:aN}(h:Rewrite σ σ' k q)(hk:k<σ.next)(H:Nat→Option aN)(j:Nat):ext σ' H j=if j=k then some q else ext σ H j:=by
 unfold Go.az.ext
 rw [h.next,h.obj]
 by_cases e:j=k
 ·subst e;rw [if_pos hk,if_pos rfl,if_pos rfl]
 ·rw [if_neg e,if_neg e]
theorem Rewrite.dead{k:Nat}{o q:aN}(h:Rewrite σ σ' k q)(ho:σ.obj k=some o)(hd:lV q=lV o)(j:Nat):bd σ' j↔bd σ j:=by
 unfold bd
 rw [h.obj]
 by_cases e:j=k
 ·subst e;rw [if_pos rfl,ho]
  constructor
  ·rintro⟨x,hx,hy⟩;cases hx;exact⟨o,rfl,hd▸hy⟩
  ·rintro⟨x,hx,hy⟩;cases hx;exact⟨q,rfl,hd▸hy⟩
 ·rw [if_neg e]
def forget(π:aK)(k:Nat)(B:Nat):aK:=⟨fun j=> @ite _ (j≠k∧∃i,π j=some i∧i.bm=B) (Classical.propDecidable _) none (π j),π.fr⟩
def iy(π:aK)(k:Nat)(B:Nat)(D:Nat→Prop):Nat→Prop:=fun j=>D j∨(j≠k∧∃i,π j=some i∧i.bm=B)
theorem dW{k B j:Nat}{i:PI}(h:forget π k B j=some i):π j=some i∧(j=k∨i.bm≠B):=by
 simp only [forget]at h
 split at h
 ·cases h
 ·rename_i hn
  refine⟨h,?_⟩
  by_cases e:j=k
  ·exact .inl e
  ·exact .inr fun hb=>hn ⟨e,i,h,hb⟩
theorem xv{k B j:Nat}{i:PI}(h:π j=some i):forget π k B j=some i∨(forget π k B j=none∧j≠k∧i.bm=B):=by
 simp only [forget]
 split
 ·rename_i hn
  obtain⟨h1,i',h2,h3⟩:=hn
  rw [h]at h2;cases h2
  exact .inr ⟨rfl,h1,h3⟩
 ·exact .inl h
theorem Bi{k B j:Nat}(h:π j=none):forget π k B j=none:=by
 simp only [forget];split
 ·rfl
 ·exact h
theorem kG(π:aK)(k B:Nat)(D:Nat→Prop):eV π D (forget π k B) (iy π k B D):=
 ⟨fun j i hj=>by
  rcases xv (k:=k) (B:=B) hj with h|⟨h,h1,h2⟩
  ·exact .inl h
  ·exact .inr ⟨h,.inr ⟨h1,i,hj,h2⟩⟩,fun j hj hd=>⟨Bi hj,.inl hd⟩,fun _ _ h=>h⟩
theorem nV{k:Nat}{o q:aN}{i:PI}{w':World}(hp:cC σ σ' π δ D H w)(hr:Rewrite σ σ' k q)(ho:σ.obj k=some o)(hi:π k=some i)(hro:i.ro=false)
  (halive:lV o=false) (hd:lV q=false) (hlow:σ'.low≤σ.low) (hlo:σ'.low≤i.aA) (hs:ea k σ'.low σ'.bp (some o) (some q)) {O:Obj} (hw:w'=putObj w i.bm O)
  (hq:fK (forget π k i.bm) (iy π k i.bm D) i w' q):Post σ σ' π δ D H w (forget π k i.bm) (iy π k i.bm D) w':=by
 have hk:k<σ.next:=by
  rcases Nat.lt_or_ge k σ.next with h|h
  ·exact h
  ·rw [hp.wf k h]at ho;cases ho
 have hkin:=(hp.rel.lF k i hi).1
 have hblt:=hp.rel.lt hi
 have hkd:¬δ k:=fun hx=>by
  rcases hp.Ju k i hx hi with h|⟨_,h|⟨_,h⟩⟩
  ·rw [hr.next]at h;omega
  ·obtain⟨x,hx,hy⟩:=h;rw [ho]at hx;cases hx;rw [halive]at hy;cases hy
  ·omega
 have hz:∀j i₂,j≠k→π j=some i₂→i₂.bm=i.bm→bd σ j∧i₂.aA=i.aA:=fun j i₂ hne hj hb=>by
  rcases hp.rel.sep k j i i₂ (Ne.symm hne) hi hj hb.symm with⟨h1,_⟩|⟨_,_,h1,h2⟩
  ·rw [hro]at h1;cases h1
  ·have hdj:δ j:=by
    rcases h2 with h2|h2
    ·exact absurd h2.1 hkd
    ·exact h2.1
   refine⟨?_,h1.symm⟩
   rcases hp.Ju j i₂ hdj hj with h|⟨_,h|⟨_,h⟩⟩
   ·exfalso
    rcases hp.Nh j i₂ hj h with h3|h3
    ·omega
    ·rw [hr.next]at h3;omega
   ·exact h
   ·have:=(hp.rel.lF j i₂ hj).1;omega
 have hdd:=hr.dead ho (hd.trans halive.symm)
 have hps:=kG π k i.bm D
 refine⟨hr.mono ho hlow hs,⟨fun j i₂ hj=>?_,fun j i₂ hj=>hp.rel.lF j i₂ (dW hj).1,fun B cc hf=>?_,fun j i₂ hj hjr=>hp.rel.AS j i₂ (dW hj).1 hjr,fun k₁ k₂ i₁ i₂ hne h1 h2 hb=>?_⟩,fun j i₂ hj=> .inl (dW hj).1,fun j i₂ hj=>?_,fun j hj=> .inl hj,fun j hj=>?_,fun j _ h1 h2=>absurd ((hdd j).1 h1) h2,
  fun j i₂ hj=> .inr ⟨j,i₂,(dW hj).1,rfl⟩,fun j i₂ hj hjr=> .inl ⟨j,i₂,(dW hj).1,hjr,rfl⟩,eZ.same rfl,?_⟩
 ·rw [hr.ext hk]
  obtain⟨h1,h2⟩:=dW hj
  by_cases e:j=k
  ·subst e
   rw [hi]at h1;cases h1
   rw [if_pos rfl]
   exact⟨q,rfl,hq⟩
  ·rw [if_neg e]
   obtain⟨x,hx,hy⟩:=hp.rel.obj j i₂ h1
   exact⟨x,hx,hy.mono hps (by rw [hw,eb (h2.resolve_left e)])⟩
 ·obtain⟨el,fz,h1⟩:=hp.rel.uh B cc hf
  exact⟨el,fz,by rw [hw,eb (fun e=>by have h3:=hp.rel.AS k i hi hro;subst e;rw [show π.fr i.bm=some cc from hf]at h3;cases h3)];exact h1⟩
 ·rcases hp.rel.sep k₁ k₂ i₁ i₂ hne (dW h1).1 (dW h2).1 hb with h3|⟨h3,h4,h5,h6⟩
  ·exact .inl h3
  ·exact .inr ⟨h3,h4,h5,h6.imp (fun h=>⟨.inl h.1,h.2⟩) (fun h=>⟨.inl h.1,h.2⟩)⟩
 ·rcases xv (k:=k) (B:=i.bm) hj with h|⟨h,h1,h2⟩
  ·exact .inl h
  ·exact .inr ⟨h,.inr ⟨h1,i₂,hj,h2⟩,by rw [(hz j i₂ h1 hj h2).2];exact⟨hlo,by rw [hr.next];omega⟩⟩
 ·rcases hj with h|⟨h1,i₂,h2,h3⟩
  ·exact .inl h
  ·have hq:=hz j i₂ h1 h2 h3
   have hkj:=(hp.rel.lF j i₂ h2).1
   exact .inr ⟨(hdd j).2 hq.1,by omega⟩
 ·rw [hw]
  refine⟨rfl,rfl,rfl,by simp [putObj],fun B _ hu=>eb fun e=>?_⟩
  exact hu k i hi hro e.symm
theorem cC.here(hp:cC σ σ' π δ D H w){k:Nat}{o:aN}(ho:σ.obj k=some o)(halive:lV o=false)(h:(∃i,π k=some i)∨(π k=none∧D k)):∃i,π k=some i∧fK π D i w o:=by
 have hk:k<σ.next:=by
  rcases Nat.lt_or_ge k σ.next with h|h
  ·exact h
  ·rw [hp.wf k h]at ho;cases ho
 rcases h with⟨i,hi⟩|⟨_,hd⟩
 ·obtain⟨x,hx,hy⟩:=hp.rel.obj k i hi
  have:ext σ H k=σ.obj k:=by unfold ext;rw [if_pos hk]
  rw [this,ho]at hx
  cases hx
  exact⟨i,hi,hy⟩
 ·rcases hp.dead k hd with⟨x,hx,hy⟩|h
  ·rw [ho]at hx;cases hx;rw [halive]at hy;cases hy
  ·have:=hp.Rw;omega
theorem lX{cc:Array Value}{x off n:Nat}{vs:List Value}(h:off+vs.length≤n)(hn:x+n≤cc.size):
  ((ia cc (x+off) vs).toList.drop x).take n=((cc.toList.drop x).take n).take off++vs++((cc.toList.drop x).take n).drop (off+vs.length):=by
 have hsz:cc.toList.length=cc.size:=rfl
 apply List.ext_getElem?
 intro j
 simp only [ia,List.getElem?_take,List.getElem?_drop,List.getElem?_append,List.length_append,List.length_take,List.length_drop]
 by_cases h1:j<off
 ·rw [if_pos (by omega),if_pos (by omega),if_pos (by omega),if_pos (by omega),if_pos (by omega),if_pos (by omega),if_pos (by omega),if_pos (by omega)]
 ·by_cases h2:j<off+vs.length
  ·rw [if_pos (by omega),if_pos (by omega),if_neg (by omega),if_pos (by omega),if_neg (by omega)]
   congr 1
   omega
  ·by_cases h3:j<n
   ·rw [if_pos h3,if_neg (by omega),if_neg (by omega),if_pos (by omega)]
    congr 1
    omega
   ·rw [if_neg h3,if_neg (by omega),if_neg (by omega)]
theorem Bj{P:Program}{k off:Nat}{vs vs':List Value}{a':Addr}(hp:cC σ σ' π δ D H w)(h:σ.setAt k off vs=some σ')(ha:AR π D ⟨k,off,none⟩ a')(hv:aR π D vs vs')
  (h1:∀v∈vs,bH v=true) (h1':∀v∈vs',v.oneCell'=true):∃π' D' w',(storeCells a' vs').run P w= .ok () w'∧Post σ σ' π δ D H w π' D' w':=by
 obtain⟨c,e,aA,ho,hlen,rfl⟩:=Bh h
 obtain⟨i,hi,hobj⟩:=hp.here ho rfl (by
  rcases ha.2 with⟨i,h1,_⟩|h1
  ·exact .inl ⟨i,h1⟩
  ·exact .inr h1)
 have hobj0:=hobj
 obtain⟨cc,elem,fz,hB,hsz,hle,h1c,hvs,hfz,hes,horg,hro,hl⟩:=hobj
 have haa:a'=⟨i.bm,i.sh+off,none⟩:=by
  rcases ha.2 with⟨j,h2,h3,h4⟩|⟨h2,_⟩
  ·simp only at h2
   rw [hi]at h2;cases h2
   obtain⟨b,o,s⟩:=a'
   have:=ha.1
   simp only at this h3 h4
   subst this;subst h3;subst h4;rfl
  ·simp only at h2;rw [hi]at h2;cases h2
 subst haa
 have hrun:=iI (P:=P) i.bm elem fz (i.sh+off) vs' 0 cc w hB h1' (by have:=hv.1;omega) (fun y hy1 hy2=>hfz rfl y (by have:=hv.1;omega))
 have hro':i.ro=false:=hro
 refine⟨forget π k i.bm,iy π k i.bm D,_,hrun,?_⟩
 have hcl:(c.take off++vs++c.drop (off+vs.length)).length=c.length:=by simp;omega
 refine nV hp (fG σ k _ _) ho hi hro' rfl rfl (Nat.min_le_right _ _) (by rw [horg];exact Nat.min_le_left _ _)
  (.cells hcl (fun h=>by cases h) (fun h=>by cases h) (.inl (Nat.min_le_left _ _)) (.inr rfl)) rfl ?_
 have hps:=kG π k i.bm D
 refine⟨ia cc (i.sh+off+0) vs',elem,fz,eK (aB hB),?_,by rw [hcl];exact hle,?_,?_,hfz,hes,horg,hro,by rw [hcl];exact hl⟩
 ·rw [qL (by have:=hv.1;omega),hsz]
 ·intro v hv2
  simp only [List.mem_append]at hv2
  rcases hv2 with(hv2|hv2)|hv2
  ·exact h1c v (List.mem_of_mem_take hv2)
  ·exact h1 v hv2
  ·exact h1c v (List.mem_of_mem_drop hv2)
 ·rw [hcl,Nat.add_zero,lX (by have:=hv.1;omega) (by omega),←hv.1]
  exact(((hvs.mono hps).take off).append (hv.mono hps)).append ((hvs.mono hps).drop _)
end
end Go.az
end
