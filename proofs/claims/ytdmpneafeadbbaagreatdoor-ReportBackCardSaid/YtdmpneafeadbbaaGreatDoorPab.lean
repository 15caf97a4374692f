/- What the card of ReportBack leans on, part 2: written with few blanks and short names by a program out of longer texts. Conditions: those of each lemma. -/
import Derived.Test.YtdmpneafeadbbaaGreatDoorPaa
import Derived.Laws.StructEq
set_option maxRecDepth 100000
set_option linter.unusedVariables false
set_option linter.unusedSimpArgs false
noncomputable section
namespace Go.az
def Const(v:Value):Prop:=∀π D,VR π D v v
structure aL(P:Program)(t:TypeId)(i:TI):Prop where
 info:P.info? t=some i.info
 desc:P.underlying t=some i.desc
 size:i.size=i.info.size
 agg:i.agg=(match i.desc with| .struct _| .array _ _=>true|_=>false)
 held:∀fs,i.desc= .struct fs→P.stoodInHeld t=i.held
 guard:P.eqGuardType P.depth t=i.guard
 zero:∀z,i.info.zero=some z→Const z
def bw(P:Program)(T:ew):Prop:=∀t i,T.Y.get t=some i→aL P t i
section
variable {P:Program} {T:ew} {π:aK} {D:Nat→Prop}
theorem pa{t:TypeId}{d:TypeDesc}(h:desc T t=some d):∃i,T.Y.get t=some i∧i.desc=d:=by
 obtain⟨i,h1,h2⟩:=aa h
 cases h2
 exact⟨i,h1,rfl⟩
theorem size_eq{t:TypeId}{n:Nat}(h:size T t=some n):∃i,T.Y.get t=some i∧i.size=n:=by
 obtain⟨i,h1,h2⟩:=aa h
 cases h2
 exact⟨i,h1,rfl⟩
theorem zero_eq{t:TypeId}{z:Value}(h:zero T t=some z):∃i,T.Y.get t=some i∧i.info.zero=some z:=aa h
theorem fh(hT:bw P T){t:TypeId}{i:TI}(h:T.Y.get t=some i)(w:World):(typeInfo t).run P w= .ok i.info w:=by
 simp [typeInfo,(hT t i h).info]
theorem eL(hT:bw P T){t:TypeId}{i:TI}(h:T.Y.get t=some i)(w:World):(sizeOf t).run P w= .ok i.size w:=by
 simp [sizeOf,fh hT h,(hT t i h).size]
theorem bV(hT:bw P T){t:TypeId}{n:Nat}(h:size T t=some n)(w:World):(sizeOf t).run P w= .ok n w:=by
 obtain⟨i,h1,h2⟩:=size_eq h
 rw [eL hT h1,h2]
theorem av(hT:bw P T){t:TypeId}{d:TypeDesc}(h:desc T t=some d)(w:World):(underlying t).run P w= .ok d w:=by
 obtain⟨i,h1,h2⟩:=pa h
 rw [run_underlying (hT t i h1).desc,h2]
theorem dp(hT:bw P T){t:TypeId}{d:TypeDesc}(h:desc T t=some d):P.underlying t=some d:=by
 obtain⟨i,h1,h2⟩:=pa h
 rw [(hT t i h1).desc,h2]
theorem ed(hT:bw P T){t:TypeId}{i:TI}(h:T.Y.get t=some i)(w:World):(isAgg t).run P w= .ok i.agg w:=by
 simp only [isAgg,Sem.run_bind,run_underlying (hT t i h).desc,Result.andThen_ok,(hT t i h).agg]
 cases i.desc<;>rfl
theorem dM(hT:bw P T){t:TypeId}{i:TI}(h:T.Y.get t=some i){z:Value}(hz:i.info.zero=some z)(w:World):(zeroValue t).run P w= .ok z w:=by
 simp [zeroValue,fh hT h,hz]
theorem iJ(hT:bw P T){t:TypeId}{i:TI}(h:T.Y.get t=some i){z:Value}(hz:i.info.zero=some z):Const z:=(hT t i h).zero z hz
theorem wS{v v':Value}(h:VR π D v v')(h1:bH v=true):v'.oneCell'=true:=by
 cases h
 case tuple h2 _ _=>exact absurd ((show(false||dF _)=true from h1)) (by rw [h2];simp)
 case data h2=>exact h2.XY
 all_goals first|rfl|exact h1|cases h1
theorem j0{l l':List Value}(h:aR π D l l')(h1:∀v∈l,bH v=true):∀v∈l',v.oneCell'=true:=by
 intro v hv
 obtain⟨i,hi,rfl⟩:=List.getElem_of_mem hv
 have hi':i<l.length:=by have:=h.1;omega
 have:=h.2 i l[i] l'[i] (by rw [List.getElem?_eq_getElem hi']) (by rw [List.getElem?_eq_getElem hi])
 exact wS this (h1 _ (List.getElem_mem hi'))
theorem Fy{v:Value}(h:v.oneCell'=true):bH v=true:=by unfold bH;rw [h];rfl
theorem aR.iK{c:List Value}{v':Value}(h:VR π D (.agg ⟨c⟩) v'):∃c',v'= .agg ⟨c'⟩∧aR π D c c'∧(∀v∈c,bH v=true):=by
 cases h with
 |agg hc h1 hcs=>exact⟨_,rfl,⟨hc,hcs⟩,h1⟩
theorem aR.agg{c c':List Value}(h:aR π D c c')(h1:∀v∈c,bH v=true):VR π D (.agg ⟨c⟩) (.agg ⟨c'⟩):= .agg h.1 h1 h.2
theorem aR.tuple{c c':List Value}(h1:dF c=false)(h:aR π D c c'):VR π D (.tuple ⟨c⟩) (.tuple ⟨c'⟩):= .tuple h1 h.1 h.2
theorem ee{α:Type}{x:Value}{f:List Value→Option α}{d:Option α}{v:α}(h:gZ x f d=some v):(∃vs,x= .tuple vs∧f vs.toList=some v)∨d=some v:=by
 cases x<;>first|exact .inl ⟨_,rfl,h⟩|exact .inr h
theorem NL{v:Value}{l:List Value}(h:Nw v=some l):v= .agg ⟨l⟩:=by
 cases v<;>simp [Nw]at h
 subst h;rfl
theorem Fz{v:Value}{l:List Value}(h:I6 v=some l):v= .tuple ⟨l⟩:=by
 cases v<;>simp [I6]at h
 subst h;rfl
theorem ig{vs:Array Value}{l:List Value}(h:nQ vs.toList=some l):Value.tuple vs=dV l:=by
 obtain⟨vs⟩:=vs
 match vs,h with
 | [v],h=>rw [NL (show Nw v=some l from h)];rfl
theorem pc{vs:Array Value}{l:List Value}(h:tP vs.toList=some l):Value.tuple vs=fv l:=by
 obtain⟨vs⟩:=vs
 match vs,h with
 | [v],h=>rw [Fz (show I6 v=some l from h)];rfl
theorem VR.uj{rows:List Value}{v':Value}(h:VR π D (dV rows) v'):Rd π.fr (dV rows) v':=by
 generalize hd:dV rows=d at h
 cases h with
 |tuple h1 _ _=>unfold dV at hd;cases hd;cases h1
 |data h=>exact h
 |dataP _ _ _=>unfold dV fv at hd;cases hd
 |any=>unfold dV I4 at hd;cases hd
 |_=>unfold dV at hd;cases hd
theorem Rd.cJ{fr:Nat→Option (List Value)}{rows:List Value}{v':Value}(h:Rd fr (dV rows) v'):(rows=[]∧∃c,v'= .slice none 0 c)∨
  ∃cs cs' z c' a',v'= .slice (some a') rows.length c'∧jr z rows cs∧rows.length≤c'∧(rows=[]∨(a'.spot=none∧∃cc,fr a'.block=some cc∧eC cc a'.off cs'))∧lO fr cs cs':=by
 generalize hd:dV rows=d at h
 cases h with
 | @data rows2 cs cs' z c' a' hr hc hf hl hcs=>
  unfold dV at hd;cases hd
  exact .inr ⟨cs,cs',z,c',a',rfl,hr,hc,hf,hl,hcs⟩
 |nF n c hn=>subst hn;unfold dV at hd;cases hd;exact .inl ⟨rfl,c,rfl⟩
 |_=>unfold dV at hd;cases hd
theorem Rd.vr{v v':Value}(h:Rd π.fr v v'):VR π D v v':=by
 cases h with
 |bool b=>exact .bool b
 |int k n=>exact .int k n
 |string s=>exact .string s
 |ptr0=>exact .ptr0
 |sl0 n c hn=>exact .sl0 n c hn
 |map0=>exact .map0
 |nilFunc=>exact .nilFunc
 |nilIface=>exact .nilIface
 |data hr hc hf hl hcs=>exact .data (.data hr hc hf hl hcs)
 |nF n c hn=>exact .data (.nF n c hn)
 |slz a a' hs=>exact .slz a a' hs
theorem lO.Xx{l l':List Value}(h:lO π.fr l l'):aR π D l l':=⟨h.1,fun i v v' h1 h2=>(h.2 i v v' h1 h2).vr⟩
theorem Bk{v:Value}{l:List Value}(h:I7 v=some l):v=dV l:=by
 cases v<;>try (cases (show none=some l from h);done)
 exact ig h
theorem VR.rd{v v':Value}(h:VR π D v v')(hc:cH v=true):Rd π.fr v v':=by
 unfold cH at hc
 rw [Bool.or_eq_true,Bool.or_eq_true]at hc
 rcases hc with(hc|hc)|hc
 ·cases v<;>simp only [bare,reduceCtorEq]at hc
  case bool b=>cases h;exact .bool b
  case int k n=>cases h;exact .int k n
  case string s=>cases h;exact .string s
  case nilIface=>cases h;exact .nilIface
  case nilFunc=>cases h;exact .nilFunc
  case pointer a=>cases a<;>simp only [reduceCtorEq]at hc;cases h;exact .ptr0
  case slice a n c=>cases a<;>simp only [reduceCtorEq]at hc;cases h with|sl0 _ _ hn=>exact .sl0 n c hn
  case map a=>cases a<;>simp only [reduceCtorEq]at hc;cases h;exact .map0
 ·obtain⟨l,hl⟩:=Option.isSome_iff_exists.1 hc
  rw [Bk hl]at h ⊢
  exact h.uj
 ·obtain⟨a,rfl,hs⟩:=xu hc
  cases h with
  |sl n c hn _ _=>exact .slz _ _ hs
  |slz _ _ _=>exact .slz _ _ hs
  |slo n c c' hn hs2 _=>rw [hs]at hs2;cases hs2
theorem aR.Z7{l l':List Value}(h:aR π D l l')(hc:∀v∈l,cH v=true):lO π.fr l l':=⟨h.1,fun i v v' h1 h2=>(h.2 i v v' h1 h2).rd (hc v (List.mem_of_getElem? h1))⟩
theorem VR.cJ{rows:List Value}{v':Value}(h:VR π D (dV rows) v'):(rows=[]∧∃c,v'= .slice none 0 c)∨
  ∃cs cs' z c' a',v'= .slice (some a') rows.length c'∧jr z rows cs∧rows.length≤c'∧(rows=[]∨(a'.spot=none∧∃cc,π.fr a'.block=some cc∧eC cc a'.off cs'))∧(∀v∈cs,bH v=true)∧aR π D cs cs'∧lO π.fr cs cs':=by
 rcases h.uj.cJ with h|⟨cs,cs',z,c',a',h1,h2,h3,h4,h5⟩
 ·exact .inl h
 ·exact .inr ⟨cs,cs',z,c',a',h1,h2,h3,h4,h5.bH,h5.Xx,h5⟩
theorem VR.j4{cs:List Value}{v':Value}(h:VR π D (fv cs) v'):
  ∃cs' a' cc,v'= .pointer (some a')∧a'.spot=none∧π.fr a'.block=some cc∧eC cc a'.off cs'∧(∀v∈cs,bH v=true)∧aR π D cs cs'∧lO π.fr cs cs':=by
 generalize hd:fv cs=d at h
 cases h with
 |tuple h1 _ _=>unfold fv at hd;cases hd;cases h1
 |data _=>unfold dV fv at hd;cases hd
 | @dataP cs2 cs' a' hs hf h1=>
  unfold fv at hd;cases hd
  obtain⟨cc,h3,h4⟩:=hf
  exact⟨cs',a',cc,rfl,hs,h3,h4,h1.bH,h1.Xx,h1⟩
 |any=>unfold fv I4 at hd;cases hd
 |_=>unfold fv at hd;cases hd
theorem pd{v v':Value}{vs:List Value}(h:flat v=some vs)(hv:VR π D v v'):aR π D vs v'.cells.toList∧(∀u∈vs,bH u=true):=by
 cases hv
 case agg c c' hc h1 hcs=>cases (show some c=some vs from h);exact⟨⟨hc,hcs⟩,h1⟩
 case tuple c c' h1 hc hcs=>
  match c,h1,h with
  | [v],h1,h=>
   have h2:Qy v=some vs:=h
   have h3:I5 v=false:=h1
   cases v<;>first|(cases h3;done)|(cases h2;done)
  | [],_,h=>cases (show none=some vs from h)
  |_::_::_,_,h=>cases (show none=some vs from h)
 case any=>cases (show none=some vs from h)
 case data rows hd=>
  cases (show some [dV rows]=some vs from h)
  refine⟨?_,by simp [bH,I8,dV,dF,I5]⟩
  rcases hd.cJ with⟨_,c,rfl⟩|⟨_,_,_,_,_,rfl,_⟩
  ·exact .one (.data hd)
  ·exact .one (.data hd)
 case dataP cs cs' a' hs hf hd=>
  cases (show some [fv cs]=some vs from h)
  exact⟨.one (.dataP hs hf hd),by simp [bH,I8,fv,dF,I5]⟩
 all_goals simp only [flat,Option.some.injEq]at h
 all_goals (subst h;refine⟨.one ?_,by simp [bH,Value.oneCell']⟩)
 all_goals (first|exact .bool _|exact .int _ _|exact .float _ _|exact .complex _ _ _|exact .string _|exact .ptr0|(exact .ptr ‹_› ‹_›)|exact .sl0 _ _ ‹_› |(exact .sl _ _ ‹_› ‹_› ‹_›)|(exact .slz _ _ ‹_›)|(exact .slo _ _ _ ‹_› ‹_› ‹_›)|exact .map0|(exact .map ‹_›)|(exact .func _ ‹_› ‹_› ‹_› ‹_›)|exact .nilFunc|(exact .iface _ ‹_›)|exact .nilIface)
theorem NM{l l' r:List Value}{off n:Nat}(h:sub l off n=some r)(hl:aR π D l l'):aR π D r ((l'.drop off).take n)∧∀v∈r,v∈l:=by
 obtain⟨_,rfl⟩:=sub_eq h
 exact⟨(hl.drop off).take n,fun v hv=>List.mem_of_mem_drop (List.mem_of_mem_take hv)⟩
theorem iL(hT:bw P T){t:TypeId}{cs cs':List Value}{off:Nat}{v:Value}(h:part T t cs off=some v)(hc:aR π D cs cs')(h1:∀u∈cs,bH u=true)(w:World):
  ∃v',(Go.part t ⟨cs'⟩ off).run P w= .ok v' w∧VR π D v v':=by
 obtain⟨i,hi,h2⟩:=aa h
 rw [iff_eq]at h2
 simp only [Go.part,Sem.run_bind,ed hT hi,Result.andThen_ok]
 split at h2
 ·rename_i ha
  obtain⟨r,h3,h4⟩:=aa h2
  cases h4
  obtain⟨h5,h6⟩:=NM h3 hc
  rw [ha]
  refine⟨.agg ⟨(cs'.drop off).take i.size⟩,?_,h5.agg fun u hu=>h1 u (h6 u hu)⟩
  simp only [if_true,Sem.run_bind,eL hT hi,Result.andThen_ok,Sem.run_pure]
  congr 2
  apply Array.ext'
  rw [Array.toList_extract]
  simp [List.extract_eq_take_drop]
 ·rename_i ha
  rw [bW]at h2
  obtain⟨v',h3,h4⟩:=hc.get h2
  refine⟨v',?_,h4⟩
  simp only [ha]
  have:(⟨cs'⟩:Array Value)[off]? =some v':=by simpa using h3
  rw [this]
  rfl
theorem cY{v:Value}{k:IntKind}{n:Int}(h:mK v=some (k,n)):v= .int k n:=by
 cases v<;>simp [mK]at h
 obtain⟨rfl,rfl⟩:=h;rfl
theorem gq{v:Value}{b:Bool}(h:sd v=some b):v= .bool b:=by
 cases v<;>simp [sd]at h
 subst h;rfl
theorem fe{v:Value}{l:List UInt8}(h:qD v=some l):∃s,v= .string s∧s.data.toList=l:=by
 cases v<;>simp [qD]at h
 subst h;exact⟨_,rfl,rfl⟩
theorem iM{v:Value}{l:List Value}(h:wO v=some l):v= .agg ⟨l⟩:=by
 cases v<;>simp [wO]at h
 subst h;rfl
theorem gF{v:Value}{a:Option Addr}{n c:Nat}(h:qE v=some (a,n,c)):v= .slice a n c:=by
 cases v<;>simp [qE]at h
 obtain⟨rfl,rfl,rfl⟩:=h;rfl
theorem qM{v:Value}{r:Option Nat}(h:I0 v=some r):v= .map r:=by
 cases v<;>simp [I0]at h
 subst h;rfl
theorem iN{v:Value}{k off:Nat}(h:fN v=some (k,off)):v= .pointer (some ⟨k,off,none⟩):=by
 cases v with
 |pointer a=>
  cases a with
  |none=>simp [fN]at h
  |some a=>
   obtain⟨b,o,s⟩:=a
   cases s<;>simp [fN,plain]at h
   obtain⟨rfl,rfl⟩:=h;rfl
 |_=>simp [fN]at h
theorem VR.aZ{k:IntKind}{n:Int}{v':Value}(h:VR π D (.int k n) v'):v'= .int k n:=by cases h;rfl
theorem VR.dq{b:Bool}{v':Value}(h:VR π D (.bool b) v'):v'= .bool b:=by cases h;rfl
theorem VR.bn{s:ByteArray}{v':Value}(h:VR π D (.string s) v'):v'= .string s:=by cases h;rfl
theorem VR.js{k off:Nat}{v':Value}(h:VR π D (.pointer (some ⟨k,off,none⟩)) v'):∃a',v'= .pointer (some a')∧AR π D ⟨k,off,none⟩ a':=by
 cases h with
 |ptr hs ha=>exact⟨_,rfl,ha⟩
theorem dr(k:IntKind)(x:Int):(BitVec.ofInt k.bits x).toNat=eU k x:=by
 have h:=Be k x
 rw [BitVec.toNat_ofInt]
 have h2:((2^k.bits:Nat):Int)=(2^k.bits:Int):=by simp
 rw [h2,←h]
 simp
theorem tm{k:IntKind}{f:Nat→Nat→Nat}{x y:Int}(r:BitVec k.bits)(hr:r.toNat=f (eU k x) (eU k y)):k.wrap r.toNat=fO k (f (eU k x) (eU k y)):=by
 rw [←hr,oY]
 rw [jZ];exact r.isLt
theorem qN{k:IntKind}{x y:Int}{f:Nat→Option Value}{v:Value}(h:yW k x y f=some v):0≤y∧f (min y.toNat k.bits)=some v:=by
 cases y with
 |negSucc m=>cases (show none=some v from h)
 |ofNat n=>
  refine⟨by simp,?_⟩
  have h':f (iff (Nat.ble n k.bits) n k.bits)=some v:=h
  rw [iff_eq]at h'
  show f (min n k.bits)=some v
  rw [←h']
  by_cases hn:n≤k.bits
  ·rw [if_pos ((bk _ _).2 hn),Nat.min_eq_left hn]
  ·rw [if_neg (fun h=>hn ((bk _ _).1 h)),Nat.min_eq_right (by omega)]
theorem GW{op:BinOp}{k k':IntKind}{x y:Int}{v:Value}(h:A4 op k x y=some v)(hk:yX op=true∨k=k')(t:TypeId)(w:World):(Go.binOp op t (.int k x) (.int k' y)).run P w= .ok v w:=by
 by_cases hs:yX op=true
 ·cases op<;>first|(cases hs;done)|skip
  all_goals
   simp only [A4]at h
   obtain⟨h1,h2⟩:=qN h
   simp only [Option.some.injEq]at h2
   subst h2
   simp only [Go.binOp,Op.shift,if_neg (Int.not_lt.2 h1),Sem.run_pure]
  ·rw [iH];congr 3
  ·simp
 ·obtain rfl:=hk.resolve_left hs
  have hne:∀{a b:Sem Value},(if k≠k then a else b)=b:=fun{a b}=>by simp
  cases op<;>first|(exact absurd rfl hs;done)|skip
  all_goals simp only [A4,bitsOf,Option.some.injEq]at h
  case quo=>
   rw [iff_eq,iG]at h
   split at h
   ·cases h
   ·rename_i hy
    have hy':y≠0:=by simpa using hy
    cases h
    simp only [Go.binOp,hne,Op.intDiv,if_neg hy',Sem.run_pure,iH]
  case rem=>
   rw [iff_eq,iG]at h
   split at h
   ·cases h
   ·rename_i hy
    have hy':y≠0:=by simpa using hy
    cases h
    simp only [Go.binOp,hne,Op.intDiv,if_neg hy',Sem.run_pure]
  all_goals subst h
  all_goals simp only [Go.binOp,hne,Op.intArith,Op.intBits,Op.intCmp,Sem.run_pure,iH,iG,eB]
  case add=>rfl
  case sub=>rfl
  case mul=>rfl
  case and=>rw [←tm (BitVec.ofInt k.bits x&&& BitVec.ofInt k.bits y) (by rw [BitVec.toNat_and,dr,dr];rfl)]
  case or=>rw [←tm (BitVec.ofInt k.bits x|||BitVec.ofInt k.bits y) (by rw [BitVec.toNat_or,dr,dr];rfl)]
  case xor=>rw [←tm (BitVec.ofInt k.bits x^^^BitVec.ofInt k.bits y) (by rw [BitVec.toNat_xor,dr,dr];rfl)]
  case andNot=>
   rw [←tm (BitVec.ofInt k.bits x&&& ~~~BitVec.ofInt k.bits y) (by
    rw [BitVec.toNat_and,BitVec.toNat_not,dr,dr,←jZ];rfl)]
  case neq=>congr 2
  case lss=>congr 2;rw [Bool.eq_iff_iff];simp
  case gtr=>congr 2;rw [Bool.eq_iff_iff];simp
theorem Bl{s:ByteArray}{l:List UInt8}(h:s.data.toList=l):s=⟨⟨l⟩⟩:=by obtain⟨⟨x⟩⟩:=s;simp at h;subst h;rfl
theorem U5(l:List UInt8):(ByteArray.mk ⟨l⟩).size=l.length:=rfl
theorem GX(l:List UInt8):(ByteArray.mk ⟨l⟩).toList=l:=by rw [ByteArray.toList_eq]
theorem GY{op:BinOp}{x y:List UInt8}{v:Value}(h:Fh op x y=some v)(t:TypeId)(w:World):(Go.binOp op t (.string ⟨⟨x⟩⟩) (.string ⟨⟨y⟩⟩)).run P w= .ok v w:=by
 cases op<;>simp only [Fh,aQ,Option.some.injEq,reduceCtorEq]at h
 case add=>
  obtain⟨h1,h2⟩:=aj h
  rw [bk]at h1
  simp only [Option.some.injEq]at h2
  subst h2
  simp only [aC]at h1
  have h1':x.length+y.length≤1000000000:=h1
  simp only [Go.binOp,Op.stringOp,U5]
  rw [if_neg (by simp only [IntKind.max,IntKind.bits,IntKind.signed,if_true];omega)]
  simp only [Sem.run_pure]
  congr 2
 all_goals (subst h;simp only [Go.binOp,Op.stringOp,GX,Sem.run_pure])
theorem xw{v:Value}{b:Bool}(h:yS v=some b):∃a,v= .pointer a∧a.isNone=b:=by
 cases v<;>simp [yS]at h
 subst h;exact⟨_,rfl,rfl⟩
theorem ka{v:Value}{o:Option (TypeId×Value)}(h:qF v=some o):(v= .nilIface∧o=none)∨∃t u,v= .iface t u∧o=some (t,u):=by
 cases v<;>simp [qF]at h
 ·exact .inr ⟨_,_,rfl,h.symm⟩
 ·exact .inl ⟨rfl,h.symm⟩
theorem qO{v:Value}{b:Bool}(h:yT v=some b):(v= .nilFunc∧b=true)∨∃fn f c,v= .func fn f c∧b=false:=by
 cases v<;>simp [yT]at h
 ·exact .inr ⟨_,_,_,rfl,h⟩
 ·exact .inl ⟨rfl,h⟩
theorem uk{a b c:Bool}(h:nC a b=some c):(a=true∧b=c)∨(a=false∧b=true∧c=false):=by
 cases a<;>cases b<;>simp [nC]at h<;>simp [h]
theorem kH{d:Nat}(hT:bw P T){f:TypeId→Value→Value→Option Bool}
  (hf:∀u a b r,f u a b=some r→∀a' b',VR π D a a'→VR π D b b'→∀w:World,(Op.equalIn d u a' b').run P w= .ok r w)
  {xs xs' ys ys':List Value} (hx:aR π D xs xs') (hy:aR π D ys ys') (hx1:∀u∈xs,bH u=true) (hy1:∀u∈ys,bH u=true) (w:World):
  ∀(fs:List Field)(r:Bool),eqFields (fw T f xs ys) fs=some r→(Op.eqFields d ⟨xs'⟩ ⟨ys'⟩ fs).run P w= .ok r w
 | [],r,h=>by simp only [eqFields,Option.some.injEq]at h;subst h;rfl
 |g::fs,r,h=>by
  simp only [eqFields]at h
  rw [iff_eq]at h
  simp only [Op.eqFields]
  split at h
  ·rename_i hn
   rw [if_neg (by simpa using hn)]
   exact kH hT hf hx hy hx1 hy1 w fs r h
  ·rename_i hn
   rw [if_pos (by simpa using hn)]
   obtain⟨b,h1,h2⟩:=aa h
   obtain⟨a1,h3,h4⟩:=aa h1
   obtain⟨b1,h5,h6⟩:=aa h4
   obtain⟨a2,h7,h8⟩:=iL hT h3 hx hx1 w
   obtain⟨b2,h9,h10⟩:=iL hT h5 hy hy1 w
   simp only [Sem.run_bind,h7,h9,hf _ _ _ _ h6 _ _ h8 h10,Result.andThen_ok]
   rw [iff_eq]at h2
   cases b
   ·simp only [Bool.false_eq_true,if_false,Option.some.injEq]at h2
    subst h2;rfl
   ·simp only [if_true]at h2
    exact kH hT hf hx hy hx1 hy1 w fs r h2
def jt(d:Nat)(elem:TypeId)(n:Nat)(xs ys:Array Value):Nat→Nat→Sem Bool
 |0,_=>pure true
 |m+1,i=>do
  let a←Go.part elem xs (i*n)
  let b←Go.part elem ys (i*n)
  let r←Op.equalIn d elem a b
  if(!r)=true then pure false else jt d elem n xs ys m (i+1)
theorem run_equalIn_array{t elem:TypeId}{len n d:Nat}{xs ys:Array Value}(w:World)(ht:P.underlying t=some (.array len elem))(hn:∀w,(sizeOf elem).run P w= .ok n w):
  (Op.equalIn (d+1) t (.agg xs) (.agg ys)).run P w=(jt d elem n xs ys len 0).run P w:=by
 simp only [Op.equalIn,Sem.run_bind,run_underlying ht,Result.andThen_ok,hn]
 rw [Std.Legacy.Range.forIn_eq_forIn_range']
 simp only [Std.Legacy.Range.size,Nat.sub_zero,Nat.add_sub_cancel,Nat.div_one]
 generalize 0=s
 clear ht
 induction len generalizing s w with
 |zero=>simp [jt]
 |succ m ih=>
  simp only [List.range'_succ,List.forIn_cons,jt,Sem.run_bind]
  generalize (Go.part elem xs (s*n)).run P w=r1
  cases r1 with
  |ok a w1=>
   simp only [Result.andThen_ok]
   generalize (Go.part elem ys (s*n)).run P w1=r2
   cases r2 with
   |ok b w2=>
    simp only [Result.andThen_ok]
    generalize (Op.equalIn d elem a b).run P w2=r3
    cases r3 with
    |ok r w3=>
     cases r
     ·simp
     ·simp only [Result.andThen_ok,Bool.not_true,Bool.false_eq_true,if_false,Sem.run_pure]
      exact ih w3 (s+1)
    |halt x w3=>simp [Result.andThen]
   |halt x w2=>simp [Result.andThen]
  |halt x w1=>simp [Result.andThen]
theorem GZ(hT:bw P T){t:TypeId}{i:TI}(hi:T.Y.get t=some i)(l:List Value)(k:Nat)(w:World):(Go.part t ⟨l.drop k⟩ 0).run P w=(Go.part t ⟨l⟩ k).run P w:=by
 simp only [Go.part,Sem.run_bind,ed hT hi,Result.andThen_ok]
 by_cases ha:i.agg=true
 ·simp only [ha,if_true,Sem.run_bind,eL hT hi,Result.andThen_ok,Sem.run_pure]
  congr 2
  apply Array.ext'
  simp [List.extract_eq_take_drop]
 ·simp only [ha]
  have:(⟨l.drop k⟩:Array Value)[0]? =(⟨l⟩:Array Value)[k]? :=by simp
  rw [this]
  rfl
theorem NN{t:TypeId}{cs:List Value}{off:Nat}{v:Value}(h:part T t cs off=some v):∃i,T.Y.get t=some i:=by
 obtain⟨i,hi,_⟩:=aa h
 exact⟨i,hi⟩
theorem xx{d:Nat}(hT:bw P T){f:TypeId→Value→Value→Option Bool}
  (hf:∀u a b r,f u a b=some r→∀a' b',VR π D a a'→VR π D b b'→∀w:World,(Op.equalIn d u a' b').run P w= .ok r w)
  {elem:TypeId} {n:Nat} {xs' ys':List Value} (w:World):
  ∀(m i:Nat)(xs ys:List Value)(r:Bool),aR π D xs (xs'.drop (i*n))→aR π D ys (ys'.drop (i*n))→(∀u∈xs,bH u=true)→(∀u∈ys,bH u=true)→
   sf (fun l r=>fw T f l r elem 0) n m xs ys=some r→(jt d elem n ⟨xs'⟩ ⟨ys'⟩ m i).run P w= .ok r w
 |0,i,xs,ys,r,_,_,_,_,h=>by simp only [sf,Option.some.injEq]at h;subst h;rfl
 |m+1,i,xs,ys,r,hx,hy,hx1,hy1,h=>by
  simp only [sf]at h
  obtain⟨b,h1,h2⟩:=aa h
  obtain⟨a1,h3,h4⟩:=aa h1
  obtain⟨b1,h5,h6⟩:=aa h4
  obtain⟨j,hj⟩:=NN h3
  obtain⟨a2,h7,h8⟩:=iL hT h3 hx hx1 w
  obtain⟨b2,h9,h10⟩:=iL hT h5 hy hy1 w
  rw [GZ hT hj]at h7 h9
  simp only [jt,Sem.run_bind,h7,h9,hf _ _ _ _ h6 _ _ h8 h10,Result.andThen_ok]
  rw [iff_eq]at h2
  cases b
  ·simp only [Bool.false_eq_true,if_false,Option.some.injEq]at h2
   subst h2;rfl
  ·simp only [if_true,fQ]at h2
   simp only [Bool.not_true,Bool.false_eq_true,if_false]
   refine xx hT hf w m (i+1) _ _ r ?_ ?_ (fun u hu=>hx1 u (List.mem_of_mem_drop hu)) (fun u hu=>hy1 u (List.mem_of_mem_drop hu)) h2
   ·have:=hx.drop n;rw [List.drop_drop]at this;rwa [show(i+1)*n=i*n+n from by rw [Nat.succ_mul]]
   ·have:=hy.drop n;rw [List.drop_drop]at this;rwa [show(i+1)*n=i*n+n from by rw [Nat.succ_mul]]
theorem um{d:Nat}{elem:TypeId}{k0:IntKind}(he:P.underlying elem=some (.int k0))(ha:∀w:World,(isAgg elem).run P w= .ok false w){xs' ys':List Value}(w:World):
  ∀(m i:Nat)(xs ys:List Value)(r:Bool),aR π D xs (xs'.drop i)→aR π D ys (ys'.drop i)→lQ m xs ys=some r→(jt (d+1) elem 1 ⟨xs'⟩ ⟨ys'⟩ m i).run P w= .ok r w
 |0,i,xs,ys,r,_,_,h=>by simp only [lQ,Option.some.injEq]at h;subst h;rfl
 |m+1,i,xs,ys,r,hx,hy,h=>by
  simp only [lQ]at h
  obtain⟨x,h1,h⟩:=aa h
  obtain⟨y,h2,h⟩:=aa h
  obtain⟨k,a,h3,h⟩:=ae h
  obtain⟨k',b,h4,h⟩:=ae h
  obtain rfl:=cY h3
  obtain rfl:=cY h4
  obtain⟨h5,h⟩:=aj h
  obtain rfl:=(bG _ _).1 h5
  rw [bW]at h1 h2
  obtain⟨x',h6,h7⟩:=hx.get h1
  obtain⟨y',h8,h9⟩:=hy.get h2
  obtain rfl:=h7.aZ
  obtain rfl:=h9.aZ
  rw [List.getElem?_drop,Nat.add_zero]at h6 h8
  have p1:(Go.part elem ⟨xs'⟩ (i*1)).run P w= .ok (.int k a) w:=by
   simp only [Go.part,Sem.run_bind,ha,Result.andThen_ok,Bool.false_eq_true,if_false,Nat.mul_one]
   have:(⟨xs'⟩:Array Value)[i]? =some (.int k a):=by simpa using h6
   rw [this];rfl
  have p2:(Go.part elem ⟨ys'⟩ (i*1)).run P w= .ok (.int k b) w:=by
   simp only [Go.part,Sem.run_bind,ha,Result.andThen_ok,Bool.false_eq_true,if_false,Nat.mul_one]
   have:(⟨ys'⟩:Array Value)[i]? =some (.int k b):=by simpa using h8
   rw [this];rfl
  simp only [jt,Sem.run_bind,p1,p2,Result.andThen_ok,run_equalIn_int w d elem k k0 a b he]
  rw [iG,iff_eq]at h
  cases hab:(a==b)
  ·rw [hab]at h
   simp only [Bool.false_eq_true,if_false,Option.some.injEq]at h
   subst h;rfl
  ·rw [hab]at h
   simp only [if_true,fQ]at h
   simp only [Bool.not_true,Bool.false_eq_true,if_false]
   refine um he ha w m (i+1) _ _ r ?_ ?_ h
   ·have:=hx.drop 1;rwa [List.drop_drop]at this
   ·have:=hy.drop 1;rwa [List.drop_drop]at this
section leaves
variable (w:World) (d:Nat) {t:TypeId}
theorem FA{e:TypeId}(h:P.underlying t=some (.pointer e))(b:Option Addr):(Op.equalIn (d+1) t (.pointer none) (.pointer b)).run P w= .ok b.isNone w:=by
 simp only [Op.equalIn,Sem.run_bind,run_underlying h,Result.andThen_ok,Sem.run_pure]
theorem NO{e:TypeId}(h:P.underlying t=some (.pointer e))(a:Addr):(Op.equalIn (d+1) t (.pointer (some a)) (.pointer none)).run P w= .ok false w:=by
 simp only [Op.equalIn,Sem.run_bind,run_underlying h,Result.andThen_ok,Sem.run_pure]
theorem NP{ms:Array (String×TypeId)}(h:P.underlying t=some (.interface ms)):(Op.equalIn (d+1) t .nilIface .nilIface).run P w= .ok true w:=by
 simp only [Op.equalIn,Sem.run_bind,run_underlying h,Result.andThen_ok,Sem.run_pure]
theorem NQ{ms:Array (String×TypeId)}(h:P.underlying t=some (.interface ms))(u:TypeId)(v:Value):(Op.equalIn (d+1) t .nilIface (.iface u v)).run P w= .ok false w:=by
 simp only [Op.equalIn,Sem.run_bind,run_underlying h,Result.andThen_ok,Sem.run_pure]
theorem NR{ms:Array (String×TypeId)}(h:P.underlying t=some (.interface ms))(u:TypeId)(v:Value):(Op.equalIn (d+1) t (.iface u v) .nilIface).run P w= .ok false w:=by
 simp only [Op.equalIn,Sem.run_bind,run_underlying h,Result.andThen_ok,Sem.run_pure]
theorem NS{ms:Array (String×TypeId)}(h:P.underlying t=some (.interface ms)){u u':TypeId}(hu:u≠u')(v v':Value):(Op.equalIn (d+1) t (.iface u v) (.iface u' v')).run P w= .ok false w:=by
 simp only [Op.equalIn,Sem.run_bind,run_underlying h,Result.andThen_ok,Sem.run_pure,if_pos hu]
theorem Rx{ms:Array (String×TypeId)}(h:P.underlying t=some (.interface ms)){u:TypeId}{i:TypeInfo}(hi:∀w:World,(typeInfo u).run P w= .ok i w)(hc:i.comparable=true)(v v':Value):
  (Op.equalIn (d+1) t (.iface u v) (.iface u v')).run P w=(Op.equalIn d u v v').run P w:=by
 simp only [Op.equalIn,Sem.run_bind,run_underlying h,Result.andThen_ok,ne_eq,not_true_eq_false,if_false,hi,hc,Bool.not_true,Bool.false_eq_true]
theorem Jw{e:TypeId}(h:P.underlying t=some (.slice e))(n c:Nat)(b:Option Addr)(n' c':Nat):(Op.equalIn (d+1) t (.slice none n c) (.slice b n' c')).run P w= .ok b.isNone w:=by
 simp only [Op.equalIn,Sem.run_bind,run_underlying h,Result.andThen_ok,Sem.run_pure]
theorem Jy{e:TypeId}(h:P.underlying t=some (.slice e))(a:Addr)(n c n' c':Nat):(Op.equalIn (d+1) t (.slice (some a) n c) (.slice none n' c')).run P w= .ok false w:=by
 simp only [Op.equalIn,Sem.run_bind,run_underlying h,Result.andThen_ok,Sem.run_pure]
theorem FB{k e:TypeId}(h:P.underlying t=some (.map k e))(b:Option Nat):(Op.equalIn (d+1) t (.map none) (.map b)).run P w= .ok b.isNone w:=by
 simp only [Op.equalIn,Sem.run_bind,run_underlying h,Result.andThen_ok,Sem.run_pure]
theorem NT{k e:TypeId}(h:P.underlying t=some (.map k e))(a:Nat):(Op.equalIn (d+1) t (.map (some a)) (.map none)).run P w= .ok false w:=by
 simp only [Op.equalIn,Sem.run_bind,run_underlying h,Result.andThen_ok,Sem.run_pure]
theorem Ry{p q:Array TypeId}{v:Bool}(h:P.underlying t=some (.func p q v)):(Op.equalIn (d+1) t .nilFunc .nilFunc).run P w= .ok true w:=by
 simp only [Op.equalIn,Sem.run_bind,run_underlying h,Result.andThen_ok,Sem.run_pure]
theorem Rz{p q:Array TypeId}{v:Bool}(h:P.underlying t=some (.func p q v))(fn:Fn)(f c:Array Value):(Op.equalIn (d+1) t .nilFunc (.func fn f c)).run P w= .ok false w:=by
 simp only [Op.equalIn,Sem.run_bind,run_underlying h,Result.andThen_ok,Sem.run_pure]
theorem RA{p q:Array TypeId}{v:Bool}(h:P.underlying t=some (.func p q v))(fn:Fn)(f c:Array Value):(Op.equalIn (d+1) t (.func fn f c) .nilFunc).run P w= .ok false w:=by
 simp only [Op.equalIn,Sem.run_bind,run_underlying h,Result.andThen_ok,Sem.run_pure]
end leaves
theorem VR.lY{v':Value}(h:VR π D (.pointer none) v'):v'= .pointer none:=by cases h;rfl
theorem VR.Bm{a:Addr}{v':Value}(h:VR π D (.pointer (some a)) v'):∃a',v'= .pointer (some a'):=by cases h;exact⟨_,rfl⟩
theorem VR.ju{n c:Nat}{v':Value}(h:VR π D (.slice none n c) v'):v'= .slice none n c:=by cases h;rfl
theorem VR.tn{a:Addr}{n c:Nat}{v':Value}(h:VR π D (.slice (some a) n c) v'):∃a' c',v'= .slice (some a') n c':=by cases h<;>exact⟨_,_,rfl⟩
theorem VR.Bn{a:Option Addr}{n c:Nat}{v':Value}(h:VR π D (.slice a n c) v'):n≤c:=by cases h<;>omega
theorem Bo{x x':Value}{b:Bool}(h:I9 x=some b)(hx:VR π D x x'):∃a n c,x'= .slice a n c∧a.isNone=b:=by
 cases x with
 |slice a n c=>
  cases (show some a.isNone=some b from h)
  cases a with
  |none=>exact⟨_,_,_,hx.ju,rfl⟩
  |some a=>obtain⟨a',c',h1⟩:=hx.tn;exact⟨_,_,_,h1,rfl⟩
 |tuple vs=>
  obtain⟨rows,h1,h2⟩:=aa (show andThen (nQ vs.toList) Fg=some b from h)
  rw [ig h1]at hx
  cases rows with
  |nil=>cases h2
  |cons r rows=>
   cases (show some false=some b from h2)
   rcases hx.cJ with⟨h3,_⟩|⟨_,_,_,_,_,h3,_⟩
   ·cases h3
   ·exact⟨_,_,_,h3,rfl⟩
 |_=>cases (show none=some b from h)
theorem VR.map_none{v':Value}(h:VR π D (.map none) v'):v'= .map none:=by cases h;rfl
theorem VR.map_some{a:Nat}{v':Value}(h:VR π D (.map (some a)) v'):∃a',v'= .map (some a'):=by cases h;exact⟨_,rfl⟩
theorem VR.ij{v':Value}(h:VR π D .nilIface v'):v'= .nilIface:=by cases h;rfl
theorem VR.gu{t:TypeId}{u v':Value}(h:VR π D (.iface t u) v'):∃u',v'= .iface t u'∧VR π D u u':=by cases h;exact⟨_,rfl,‹_›⟩
theorem VR.lZ{v':Value}(h:VR π D .nilFunc v'):v'= .nilFunc:=by cases h;rfl
theorem VR.uq{fn:Fn}{f c:Array Value}{v':Value}(h:VR π D (.func fn f c) v'):∃f' c',v'= .func fn f' c'∧aR π D f.toList f'.toList∧aR π D c.toList c'.toList:=by
 cases h with
 |func _ hf hfs hc hcs=>exact⟨_,_,rfl,⟨hf,hfs⟩,⟨hc,hcs⟩⟩
theorem zm(hT:bw P T):∀(d n:Nat)(t:TypeId)(x y:Value)(r:Bool),wR T d t x y=some r→∀x' y',VR π D x x'→VR π D y y'→∀w:World,(Op.equalIn (d+n+1) t x' y').run P w= .ok r w
 |0,_,_,_,_,_,h=>by cases h
 |d+1,n,t,x,y,r,h=>by
  intro x' y' hx hy w
  rw [show d+1+n+1=(d+n+1)+1 from by omega]
  simp only [wR]at h
  obtain⟨i,hi,h⟩:=aa h
  have hd:=(hT t i hi).desc
  have ih:=zm hT d n
  generalize hdd:i.desc=dd at h hd
  cases dd<;>simp only [XT]at h
  case bool=>
   obtain⟨a,h1,g⟩:=aa h
   obtain⟨b,h2,hf⟩:=aa g
   clear h g
   cases hf
   obtain rfl:=gq h1;obtain rfl:=gq h2
   obtain rfl:=hx.dq;obtain rfl:=hy.dq
   exact run_equalIn_bool' w _ t a b hd
  case int k=>
   obtain⟨k1,a,h1,g⟩:=ae h
   obtain⟨k2,b,h2,g2⟩:=ae g
   obtain⟨h3,hf⟩:=aj g2
   clear h g g2
   cases hf
   obtain rfl:=cY h1;obtain rfl:=cY h2
   obtain rfl:=hx.aZ;obtain rfl:=hy.aZ
   obtain rfl:=(bG _ _).1 h3
   rw [run_equalIn_int w _ t k1 k a b hd,iG]
  case string=>
   obtain⟨a,h1,g⟩:=aa h
   obtain⟨b,h2,hf⟩:=aa g
   clear h g
   cases hf
   obtain⟨s1,rfl,hs1⟩:=fe h1;obtain⟨s2,rfl,hs2⟩:=fe h2
   obtain rfl:=hx.bn;obtain rfl:=hy.bn
   subst hs1;subst hs2
   rw [run_equalIn_string w _ t s1 s2 hd,ByteArray.toList_eq,ByteArray.toList_eq];rfl
  case pointer e=>
   obtain⟨a,h1,g⟩:=aa h
   obtain⟨b,h2,hf⟩:=aa g
   clear h g
   obtain⟨p,rfl,hp⟩:=xw h1
   obtain⟨q,rfl,hq⟩:=xw h2
   rcases uk hf with⟨h3,h4⟩|⟨h3,h4,h5⟩
   ·rw [h3]at hp
    rw [h4]at hq
    cases p<;>simp at hp
    obtain rfl:=hx.lY
    cases q with
    |none=>obtain rfl:=hy.lY;rw [FA w _ hd];exact congrArg (fun b=>Result.ok b w) hq
    |some q=>obtain⟨q',rfl⟩:=hy.Bm;rw [FA w _ hd];exact congrArg (fun b=>Result.ok b w) hq
   ·rw [h3]at hp;rw [h4]at hq
    cases p<;>simp at hp
    cases q<;>simp at hq
    obtain rfl:=hy.lY
    obtain⟨q',rfl⟩:=hx.Bm
    rw [NO w _ hd,h5]
  case interface ms=>
   obtain⟨a,h1,g⟩:=aa h
   obtain⟨b,h2,hf⟩:=aa g
   clear h g
   rcases ka h1 with⟨rfl,rfl⟩|⟨t1,u1,rfl,rfl⟩
   ·obtain rfl:=hx.ij
    rcases ka h2 with⟨rfl,rfl⟩|⟨t2,u2,rfl,rfl⟩
    ·obtain rfl:=hy.ij
     simp only [UU,Option.some.injEq]at hf
     rw [NP w _ hd,←hf];rfl
    ·obtain⟨u',rfl,_⟩:=hy.gu
     simp only [UU,Option.some.injEq]at hf
     rw [NQ w _ hd,←hf];rfl
   ·obtain⟨v1,rfl,hu1⟩:=hx.gu
    rcases ka h2 with⟨rfl,rfl⟩|⟨t2,u2,rfl,rfl⟩
    ·obtain rfl:=hy.ij
     simp only [UU,Option.some.injEq]at hf
     rw [NR w _ hd,←hf]
    ·obtain⟨v2,rfl,hu2⟩:=hy.gu
     simp only [UU]at hf
     rw [iff_eq]at hf
     by_cases ht:t1=t2
     ·subst ht
      rw [if_pos ((beq_iff _ _).2 rfl)]at hf
      obtain⟨j,hj,hf⟩:=aa hf
      obtain⟨hc,hf⟩:=aj hf
      rw [Rx w _ hd (fun w=>fh hT hj w) hc]
      exact ih _ _ _ _ hf _ _ hu1 hu2 w
     ·rw [if_neg (fun h=>ht ((beq_iff _ _).1 h))]at hf
      rw [NS w _ hd ht]
      cases hf;rfl
  case struct fields=>
   obtain⟨h0,h⟩:i.held=false∧(andThen (wO x) fun xs=>andThen (wO y) fun ys=>eqFields (fw T (wR T d) xs ys) fields.toList)=some r:=by
    unfold oR at h
    rw [iff_eq]at h
    split at h
    ·cases h
    ·rename_i hh;exact⟨by simpa using hh,h⟩
   obtain⟨xs,h1,g⟩:=aa h
   obtain⟨ys,h2,hg⟩:=aa g
   clear h g
   obtain rfl:=iM h1;obtain rfl:=iM h2
   obtain⟨xs',rfl,hxs,hx1⟩:=aR.iK hx
   obtain⟨ys',rfl,hys,hy1⟩:=aR.iK hy
   have hf:P.fieldsOf t=fields:=by simp [Program.fieldsOf,hd]
   rw [run_equalIn_struct w (d+n+1) t ⟨xs'⟩ ⟨ys'⟩ (by rw [hf];exact hd) (by rw [(hT t i hi).held _ hdd,h0]),hf]
   exact kH hT (fun u a b r h a' b' ha hb w=>ih u a b r h a' b' ha hb w) hxs hys hx1 hy1 w fields.toList r hg
  case array len elem=>
   unfold yV at h
   obtain⟨xs,h1,g⟩:=aa h
   obtain⟨ys,h2,g2⟩:=aa g
   obtain⟨z,hz,hf⟩:=aa g2
   clear h g g2
   obtain rfl:=iM h1;obtain rfl:=iM h2
   obtain⟨xs',rfl,hxs,hx1⟩:=aR.iK hx
   obtain⟨ys',rfl,hys,hy1⟩:=aR.iK hy
   rw [run_equalIn_array w hd (fun w=>bV hT hz w)]
   rw [iff_eq]at hf
   split at hf
   ·rename_i hc
    rw [Bool.and_eq_true,beq_iff]at hc
    obtain⟨hc1,rfl⟩:=hc
    unfold yU at hc1
    split at hc1
    ·rename_i k0 hk0
     obtain⟨de,hde,hk0⟩:=aa hk0
     obtain⟨j,hj,hje⟩:=pa hde
     have hde2:de= .int k0:=by cases de<;>simp [intKind]at hk0;subst hk0;rfl
     subst hde2
     have hun:=dp hT hde
     have hag:∀w:World,(isAgg elem).run P w= .ok false w:=fun w=>by
      rw [ed hT hj,(hT _ _ hj).agg,hje]
     exact um hun hag w len 0 xs ys r (by simpa using hxs) (by simpa using hys) hf
    ·cases hc1
   ·exact xx hT (fun u a b r h a' b' ha hb w=>ih u a b r h a' b' ha hb w) w len 0 xs ys r (by simpa using hxs) (by simpa using hys) hx1 hy1 hf
  case slice e=>
   obtain⟨a,h1,g⟩:=aa h
   obtain⟨b,h2,hf⟩:=aa g
   clear h g
   obtain⟨a',n1,c1,rfl,h1⟩:=Bo h1 hx
   obtain⟨b',n2,c2,rfl,h2⟩:=Bo h2 hy
   subst h1;subst h2
   rcases uk hf with⟨h3,h4⟩|⟨h3,h4,h5⟩
   ·cases a'<;>simp at h3
    rw [Jw w _ hd,←h4]
   ·cases a'<;>simp at h3
    cases b'<;>simp at h4
    rw [Jy w _ hd,h5]
  case map k e=>
   obtain⟨a,h1,g⟩:=aa h
   obtain⟨b,h2,hf⟩:=aa g
   clear h g
   obtain rfl:=qM h1;obtain rfl:=qM h2
   rcases uk hf with⟨h3,h4⟩|⟨h3,h4,h5⟩
   ·cases a<;>simp at h3
    obtain rfl:=hx.map_none
    cases b with
    |none=>obtain rfl:=hy.map_none;rw [FB w _ hd,←h4]
    |some b=>obtain⟨q',rfl⟩:=hy.map_some;rw [FB w _ hd,←h4];rfl
   ·cases a<;>simp at h3
    cases b<;>simp at h4
    obtain rfl:=hy.map_none
    obtain⟨q',rfl⟩:=hx.map_some
    rw [NT w _ hd,h5]
  case func p q v=>
   obtain⟨a,h1,g⟩:=aa h
   obtain⟨b,h2,hf⟩:=aa g
   clear h g
   rcases qO h1 with⟨rfl,rfl⟩|⟨fn1,f1,c1,rfl,rfl⟩
   ·obtain rfl:=hx.lZ
    rcases qO h2 with⟨rfl,rfl⟩|⟨fn2,f2,c2,rfl,rfl⟩
    ·obtain rfl:=hy.lZ
     simp [nC]at hf
     rw [Ry w _ hd,hf]
    ·obtain⟨_,_,rfl,_⟩:=hy.uq
     simp [nC]at hf
     rw [Rz w _ hd,hf]
   ·rcases qO h2 with⟨rfl,rfl⟩|⟨fn2,f2,c2,rfl,rfl⟩
    ·obtain rfl:=hy.lZ
     obtain⟨_,_,rfl,_⟩:=hx.uq
     simp [nC]at hf
     rw [RA w _ hd,hf]
    ·simp [nC]at hf
  all_goals cases h
end
end Go.az
namespace Go.az
section
variable {P:Program} {T:ew} {π:aK} {D:Nat→Prop}
theorem er{α:Type}{c:Bool}{a:Option α}{b:α}(h:iff c none a=some b):c=false∧a=some b:=by
 cases c with
 |true=>simp at h
 |false=>exact⟨rfl,h⟩
theorem NU(d:Nat)(t:TypeId)(y:Value):wR T d t I4 y=none:=by
 cases d with
 |zero=>rfl
 |succ d=>
  cases h:wR T (d+1) t I4 y with
  |none=>rfl
  |some r=>
   obtain⟨i,_,h2⟩:=aa h
   cases hd:i.desc<;>rw [hd]at h2<;>first|(cases h2;done)|skip
   rename_i fs
   cases hh:i.held<;>rw [hh]at h2<;>cases h2
def kc(P:Program)(π:aK)(D:Nat→Prop)(v:Value)(s:Sem Value):Prop:=∀w:World,∃v',s.run P w= .ok v' w∧VR π D v v'
theorem Jz(hT:bw P T){op:BinOp}{t:TypeId}{x y x' y' v:Value}(h:Dl x T op t y=some v)(hx:VR π D x x')(hy:VR π D y y'):kc P π D v (Go.binOp op t x' y'):=by
  intro w
  have he:∀{x:Value},Rn T op t x y=some v→VR π D x x'→(∀k n,x≠ .int k n)→(∀s,x≠ .string s)→(∀k b,x≠ .float k b)→(∀k a b,x≠ .complex k a b)→∃v',(Go.binOp op t x' y').run P w= .ok v' w∧VR π D v v':=by
    intro x h hx n1 n2 n3 n4
    obtain⟨b,h1,h⟩:=aa h
    obtain⟨r,h2,h⟩:=aa h
    simp only [Option.some.injEq]at h
    subst h
    have hq:=zm (π:=π) (D:=D) hT 10 9989 t x y r h2 x' y' hx hy w
    refine⟨_,?_,.bool _⟩
    cases op<;>simp [A5]at h1<;>subst h1
    all_goals
      cases hx<;>first|(rw [NU]at h2;cases h2;done)|(exact absurd rfl (n1 _ _);done)|(exact absurd rfl (n2 _);done)|(exact absurd rfl (n3 _ _);done)|(exact absurd rfl (n4 _ _ _);done)|skip
    all_goals try
      (rename_i hrd
       rcases hrd.cJ with⟨_,c,rfl⟩|⟨_,_,_,_,_,rfl,_⟩)
    all_goals
      simp only [Go.binOp,Sem.run_bind,Op.equal,Op.maxDepth]
      first|rw [show(10000:Nat)=10+9989+1 from rfl,hq]|skip
      first|rfl|(cases y'<;>simp only [Sem.run_bind,Op.equal,Op.maxDepth]<;>rw [show(10000:Nat)=10+9989+1 from rfl,hq]<;>rfl)
  cases x with
  |int k a=>
    have h0:UW k a op y=some v:=h
    clear h
    obtain⟨k',b,h1,h3⟩:=ae h0
    obtain⟨h2,h⟩:=aj h3
    clear h0 h3
    obtain rfl:=cY h1
    obtain rfl:=hx.aZ
    obtain rfl:=hy.aZ
    rw [Bool.or_eq_true,bG]at h2
    have hv:∃k n,v= .int k n∨∃b,v= .bool b:=by
      cases op<;>simp only [A4,bitsOf,Option.some.injEq]at h
      case quo=>obtain⟨_,h⟩:=er h;cases h;exact⟨_,_,.inl rfl⟩
      case rem=>obtain⟨_,h⟩:=er h;cases h;exact⟨_,_,.inl rfl⟩
      case shl=>obtain⟨_,h⟩:=qN h;cases h;exact⟨_,_,.inl rfl⟩
      case shr=>obtain⟨_,h⟩:=qN h;cases h;exact⟨_,_,.inl rfl⟩
      all_goals (subst h;first|exact⟨_,_,.inl rfl⟩|exact⟨.i64,0,.inr ⟨_,rfl⟩⟩)
    refine⟨v,GW h h2 t w,?_⟩
    obtain⟨k,n,rfl|⟨b,rfl⟩⟩:=hv
    · exact .int k n
    · exact .bool b
  |string a=>
    have h0:UX a.data.toList op y=some v:=h
    clear h
    obtain⟨b,h1,h⟩:=aa h0
    clear h0
    obtain⟨s,rfl,rfl⟩:=fe h1
    obtain rfl:=hx.bn
    obtain rfl:=hy.bn
    refine⟨v,?_,?_⟩
    · have:=GY (P:=P) h t w
      rwa [←Bl (s:=a) rfl,←Bl (s:=s) rfl]at this
    · cases op<;>simp only [Fh,aQ,Option.some.injEq,reduceCtorEq]at h
      case add=>obtain⟨_,h⟩:=aj h;cases h;exact .string _
      all_goals (subst h;exact .bool _)
  |float k b=>cases h
  |complex k a b=>cases h
  |_=>exact he h hx (fun _ _=>by simp) (fun _=>by simp) (fun _ _=>by simp) (fun _ _ _=>by simp)
theorem NV{op:UnOp}{x x' v:Value}(h:XU op x=some v)(hx:VR π D x x'):kc P π D v (Op.unary op x'):=by
 intro w
 cases op<;>simp only [XU]at h
 case neg=>
  obtain⟨k,n,h1,h⟩:=ae h
  obtain rfl:=cY h1
  obtain rfl:=hx.aZ
  cases h
  refine⟨_,?_,.int _ _⟩
  simp only [Op.unary,Op.intArith,Sem.run_pure,iH]
  congr 2
  show k.wrap (0-n)=k.wrap (Int.neg n)
  rw [Int.zero_sub];rfl
 case not=>
  obtain⟨b,h1,h⟩:=aa h
  obtain rfl:=gq h1
  obtain rfl:=hx.dq
  cases h
  exact⟨_,rfl,.bool _⟩
 case xor=>
  obtain⟨k,n,h1,h⟩:=ae h
  obtain rfl:=cY h1
  obtain rfl:=hx.aZ
  cases h
  refine⟨_,?_,.int _ _⟩
  simp only [Op.unary,Op.intBits,Sem.run_pure]
  congr 2
  have hall:BitVec.ofInt k.bits (if k.signed then-1 else k.max)=BitVec.allOnes k.bits:=by cases k<;>rfl
  rw [hall,BitVec.allOnes_xor,←oY,BitVec.toNat_not,dr,←jZ]
  ·rfl
  ·rw [jZ];exact(~~~BitVec.ofInt k.bits n).isLt
 all_goals cases h
theorem G0(hT:bw P T){op:BinOp}{t:TypeId}{x y:Operand}{a a' b':Value}(h:iff (dZ op) (guarded T t x y a) true=true)(ha:VR π D a a')(w:World):
  (eqGuard op t x y a' b').run P w= .ok () w:=by
 by_cases hop:op= .eql∨op= .neq
 ·have hg:guarded T t x y a=true:=by rcases hop with rfl|rfl<;>exact h
  cases ha<;>(try (rcases hop with rfl|rfl<;>cases b'<;>simp [eqGuard];done))
  ·
   simp only [guarded,Bool.or_eq_true]at hg
   rcases hop with rfl|rfl<;>cases b'<;>first|(simp [eqGuard];done)|(cases x<;>cases y<;>simp [isConst]at hg<;>simp [eqGuard])
  ·
   simp only [guarded]at hg
   split at hg
   ·rename_i i hi
    have hm:P.eqGuardType P.depth t=false:=by rw [(hT t i hi).guard];simpa using hg
    rcases hop with rfl|rfl<;>cases b'<;>first|(simp [eqGuard];done)|exact run_eqGuard_agg w _ t x y _ _ hm
   ·cases hg
  ·
   rename_i hrd
   rcases hrd.cJ with⟨_,c,rfl⟩|⟨_,_,_,_,_,rfl,_⟩<;>rcases hop with rfl|rfl<;>cases b'<;>simp [eqGuard]
  ·cases hg
 ·cases op<;>simp at hop<;>simp [eqGuard]
theorem nW{t:TypeId}{f:Nat}{g:Field}(h:gD T t f=some g):∃fs:Array Field,desc T t=some (.struct fs)∧fs[f]? =some g:=by
 obtain⟨d,h1,e1⟩:=aa h
 obtain⟨l,h2,e2⟩:=aa e1
 cases d<;>simp [structOf]at h2
 subst h2
 rw [bW]at e2
 exact⟨_,h1,by simpa using e2⟩
theorem G1(hT:bw P T){t:TypeId}{x x' v:Value}{f:Nat}(h:za T t x f=some v)(hx:VR π D x x'):kc P π D v (Instr.field t x' f):=by
 intro w
 obtain⟨cs,h1,e1⟩:=aa h
 obtain⟨g,h2,e2⟩:=aa e1
 obtain rfl:=iM h1
 obtain⟨fs,h3,h4⟩:=nW h2
 obtain⟨cs',rfl,hcs,hc1⟩:=aR.iK hx
 obtain⟨v',h5,h6⟩:=iL hT e2 hcs hc1 w
 refine⟨v',?_,h6⟩
 simp only [Instr.field,Sem.run_bind,av hT h3,Result.andThen_ok,h4,asAgg,Sem.run_pure]
 exact h5
theorem Addr.add_plain(B x n:Nat):(Addr.mk B x none).add n=⟨B,x+n,none⟩:=by
 unfold Addr.add;split
 ·rename_i h;subst h;rfl
 ·rfl
theorem AR.shift{k off:Nat}{a':Addr}(h:AR π D ⟨k,off,none⟩ a')(n:Nat):AR π D ⟨k,off+n,none⟩ (a'.add n):=by
 obtain⟨b,o,s⟩:=a'
 obtain⟨hs,h⟩:=h
 simp only at hs
 subst hs
 rw [Addr.add_plain]
 refine⟨rfl,?_⟩
 rcases h with⟨i,h1,h2,h3⟩|h
 ·exact .inl ⟨i,h1,h2,by simp only at h3 ⊢;omega⟩
 ·exact .inr h
theorem xy{off z:Nat}{cs:List Value}{v x':Value}(h:A6 off z cs=some v)(hx:VR π D (fv cs) x'):∃a',x'= .pointer (some a')∧VR π D v (.pointer (some (a'.add off))):=by
 obtain⟨h1,h2⟩:=aj h
 cases h2
 rw [bk,aC]at h1
 have h1':off+z≤cs.length:=h1
 obtain⟨cs',a',cc,rfl,hs,hf,hw,ho,hv,hrd⟩:=hx.j4
 refine⟨a',rfl,?_⟩
 obtain⟨b,o,sp⟩:=a'
 simp only at hs
 subst hs
 rw [Addr.add_plain,fQ]
 have hl:=hv.1
 refine .dataP rfl ⟨cc,hf,?_⟩ (hrd.drop off)
 obtain⟨w1,w2⟩:=hw
 simp only at w1 w2
 refine⟨by simp only [List.length_drop];omega,?_⟩
 have:cs'.drop off=((cc.drop o).take cs'.length).drop off:=by rw [w2]
 rw [this,List.drop_take,List.drop_drop,List.length_take,List.length_drop]
 congr 1
 ·omega
theorem wT(hT:bw P T){t:TypeId}{x x' v:Value}{f:Nat}(h:kD T t x f=some v)(hx:VR π D x x'):kc P π D v (Instr.fieldAt t x' f):=by
 intro w
 rcases ee h with⟨vs,rfl,h⟩|h
 ·obtain⟨cs,h1,e1⟩:=aa h
  obtain⟨g,h2,e2⟩:=aa e1
  obtain⟨z,h3,e3⟩:=aa e2
  obtain⟨h4,e4⟩:=er e3
  rw [pc h1]at hx
  obtain⟨fs,h5,h6⟩:=nW h2
  obtain⟨a',rfl,hv⟩:=xy e4 hx
  refine⟨_,?_,hv⟩
  have hz:z≠0:=fun e=>by subst e;cases h4
  simp only [Instr.fieldAt,Sem.run_bind,av hT h5,Result.andThen_ok,h6,Instr.sureAddr,Sem.run_pure,fieldPlace,bV hT h3,if_neg hz]
 obtain⟨k,off,h1,e1⟩:=ae h
 obtain⟨g,h2,e2⟩:=aa e1
 obtain⟨z,h3,e3⟩:=aa e2
 obtain⟨h4,e4⟩:=er e3
 obtain rfl:=iN h1
 obtain⟨fs,h5,h6⟩:=nW h2
 obtain⟨a',rfl,ha⟩:=hx.js
 cases e4
 refine⟨.pointer (some (a'.add g.offset)),?_,.ptr rfl (ha.shift g.offset)⟩
 have hz:z≠0:=fun e=>by subst e;cases h4
 simp only [Instr.fieldAt,Sem.run_bind,av hT h5,Result.andThen_ok,h6,Instr.sureAddr,Sem.run_pure,fieldPlace,bV hT h3,if_neg hz]
theorem Bp{α:Type}{c d:List α}{z m:Nat}(h:c.length=z):(c++d).drop (z+m)=d.drop m:=by
 rw [List.drop_append,List.drop_of_length_le (by omega),List.nil_append]
 congr 1;omega
theorem bO{z:Nat}{r:Value}{rows cs:List Value}(h:aW z (r::rows)=some cs):∃c d,r= .agg ⟨c⟩∧c.length=z∧aW z rows=some d∧cs=c++d:=by
 obtain⟨c,h1,h2⟩:=aa (show andThen (wO r) (fun c=>iff (Nat.beq (aY c) z) (andThen (aW z rows) fun d=>some (gL c d)) none)=some cs from h)
 obtain⟨h3,h4⟩:=aj h2
 obtain⟨d,h5,h6⟩:=aa h4
 cases h6
 rw [beq_iff,aC]at h3
 exact⟨c,d,iM h1,h3,h5,eH _ _⟩
theorem kI{z:Nat}{c rows d:List Value}(h1:c.length=z)(h2:aW z rows=some d):aW z (.agg ⟨c⟩::rows)=some (c++d):=by
 show andThen (wO (.agg ⟨c⟩)) (fun c=>iff (Nat.beq (aY c) z) (andThen (aW z rows) fun d=>some (gL c d)) none)=some (c++d)
 show iff (Nat.beq (aY c) z) (andThen (aW z rows) fun d=>some (gL c d)) none=some (c++d)
 rw [iff_eq,if_pos (by rw [beq_iff,aC];exact h1),h2]
 show some (gL c d)=_
 rw [eH]
theorem ey{z:Nat}:∀{rows cs:List Value},aW z rows=some cs→cs.length=rows.length*z
 | [],cs,h=>by cases (show some []=some cs from h);simp
 |r::rows,cs,h=>by
  obtain⟨c,d,_,h2,h3,rfl⟩:=bO h
  rw [List.length_append,h2,ey h3,List.length_cons,Nat.succ_mul];omega
theorem nG{z:Nat}:∀{rows cs:List Value}{j:Nat}{r:Value},aW z rows=some cs→rows[j]? =some r→r= .agg ⟨(cs.drop (j*z)).take z⟩
 | [],cs,j,r,_,h=>by simp at h
 |r::rows,cs,j,r',h,hj=>by
  obtain⟨c,d,rfl,h2,h3,rfl⟩:=bO h
  cases j with
  |zero=>
   simp only [List.getElem?_cons_zero,Option.some.injEq]at hj
   subst hj
   rw [Nat.zero_mul,List.drop_zero,List.take_append_of_le_length (by omega),List.take_of_length_le (by omega)]
  |succ j=>
   refine(nG (j:=j) h3 (by simpa using hj)).trans ?_
   rw [Nat.succ_mul,Nat.add_comm (j*z) z,Bp h2]
theorem l5{z z2:Nat}:∀{rows cs cs2:List Value},aW z rows=some cs→aW z2 rows=some cs2→cs=cs2
 | [],cs,cs2,h,h2=>by cases (show some []=some cs from h);cases (show some []=some cs2 from h2);rfl
 |r::rows,cs,cs2,h,h2=>by
  obtain⟨c,d,h3,_,h4,rfl⟩:=bO h
  obtain⟨c2,d2,h5,_,h6,rfl⟩:=bO h2
  rw [h3]at h5
  cases h5
  rw [l5 h4 h6]
theorem fR{z:Nat}:∀{rows cs:List Value}(l n:Nat),aW z rows=some cs→aW z ((rows.drop l).take n)=some ((cs.drop (l*z)).take (n*z))
 | [],cs,l,n,h=>by cases (show some []=some cs from h);simp;rfl
 |r::rows,cs,l,n,h=>by
  obtain⟨c,d,rfl,h2,h3,rfl⟩:=bO h
  cases l with
  |zero=>
   cases n with
   |zero=>simp;rfl
   |succ n=>
    have ih:=fR 0 n h3
    simp only [Nat.zero_mul,List.drop_zero]at ih ⊢
    rw [List.take_succ_cons,kI h2 ih,Nat.succ_mul,List.take_append,List.take_of_length_le (l:=c) (by omega),h2,Nat.add_sub_cancel]
  |succ l=>
   have ih:=fR l n h3
   rw [List.drop_succ_cons,ih,Nat.succ_mul,Nat.add_comm (l*z) z,Bp h2]
theorem xz{z:Nat}:∀{n:Nat}{l rows:List Value},chunks z n l=some rows→rows.length=n∧n*z≤l.length∧aW z rows=some (l.take (n*z))
 |0,l,rows,h=>by cases (show some []=some rows from h);simp;rfl
 |n+1,l,rows,h=>by
  obtain⟨c,h1,h2⟩:=aa (show andThen (lq z l) (fun c=>andThen (chunks z n (jT z l)) fun r=>some (.agg ⟨c⟩::r))=some rows from h)
  obtain⟨r,h3,h4⟩:=aa h2
  cases h4
  rw [fQ]at h3
  obtain⟨h5,h6,h7⟩:=xz h3
  obtain⟨h8,rfl⟩:=ug z h1
  rw [List.length_drop]at h6
  refine⟨by simp [h5],by rw [Nat.succ_mul];omega,?_⟩
  rw [kI (by simp;omega) h7]
  congr 1
  rw [Nat.succ_mul,Nat.add_comm,List.take_add]
theorem eC.sub{cc cs:List Value}{off:Nat}(h:eC cc off cs)(m k:Nat)(hk:m+k≤cs.length):eC cc (off+m) ((cs.drop m).take k):=by
 obtain⟨h1,h2⟩:=h
 have hl:((cs.drop m).take k).length=k:=by simp;omega
 refine⟨by rw [hl];omega,?_⟩
 rw [hl]
 have:cs.drop m=((cc.drop off).take cs.length).drop m:=by rw [h2]
 rw [this,List.drop_take,List.take_take,List.drop_drop]
 congr 1
 omega
theorem G2{z j:Nat}{rows:List Value}{v x':Value}(h:rowAt z rows j=some v)(hx:VR π D (dV rows) x'):∃a' c',x'= .slice (some a') rows.length c'∧VR π D v (.pointer (some (a'.add (j*z)))):=by
 obtain⟨r,h1,h2⟩:=aa h
 obtain⟨c,h3,h4⟩:=aa h2
 obtain⟨h5,h6⟩:=aj h4
 cases h6
 rw [beq_iff,aC]at h5
 rw [bW]at h1
 obtain rfl:=iM h3
 have hj:=(List.getElem?_eq_some_iff.1 h1).1
 rcases hx.cJ with⟨rfl,_⟩|⟨cs,cs',z2,c',a',rfl,hr,hc,hf,ho,hv,hrd⟩
 ·simp at hj
 ·refine⟨a',c',rfl,?_⟩
  have hg:=nG hr h1
  cases hg
  have hlen:=ey hr
  have hz:z2=z:=by
   have h7:(j+1)*z2≤rows.length*z2:=Nat.mul_le_mul_right z2 hj
   rw [Nat.succ_mul]at h7
   simp only [List.length_take,List.length_drop]at h5
   omega
  subst hz
  rcases hf with rfl|⟨hs,cc,hf,hw⟩
  ·simp at hj
  ·have h7:(j+1)*z2≤rows.length*z2:=Nat.mul_le_mul_right z2 hj
   rw [Nat.succ_mul]at h7
   obtain⟨b,o,sp⟩:=a'
   simp only at hs
   subst hs
   rw [Addr.add_plain]
   exact .dataP rfl ⟨cc,hf,hw.sub (j*z2) z2 (by have:=hv.1;omega)⟩ ((hrd.drop (j*z2)).take z2)
theorem zn{a:Option Addr}{n c:Nat}{v':Value}(h:VR π D (.slice a n c) v'):∃a' c',v'= .slice a' n c':=by
 cases h<;>exact⟨_,_,rfl⟩
theorem Dv{a:Addr}{n c:Nat}{v':Value}(h:VR π D (.slice (some a) n c) v')(hn:0<n):∃a' c',v'= .slice (some a') n c'∧AR π D ⟨a.block,a.off,none⟩ a':=by
 cases h with
 |sl _ _ hn hs ha=>obtain⟨b,o,s⟩:=a;simp only at hs;subst hs;exact⟨_,_,rfl,ha⟩
 |slz=>omega
 |slo _ _ c' hn hs ha=>
  refine⟨_,_,rfl,ha.1,?_⟩
  rcases ha.2.2 with⟨i,h1,h2,h3,h5⟩|h
  ·rcases h5 with h5|h5
   ·exact .inl ⟨i,h1,h2,h5.1⟩
   ·omega
  ·exact .inr h
theorem wU(hT:bw P T){t:TypeId}{x x' ix ix' v:Value}(h:kC T t x ix=some v)(hx:VR π D x x')(hi:VR π D ix ix'):kc P π D v (Instr.indexAt t x' ix'):=by
 intro w
 obtain⟨k,i,h1,e1⟩:=ae h
 obtain⟨d,h2,e2⟩:=aa e1
 obtain rfl:=cY h1
 obtain rfl:=hi.aZ
 cases d<;>simp only [nR]at e2<;>try (cases e2;done)
 ·rename_i e
  rcases ee e2 with⟨vs,rfl,e2⟩|e2
  ·obtain⟨rows,h3,e3⟩:=aa e2
   obtain⟨z,h4,e4⟩:=aa e3
   obtain⟨j,h5,e5⟩:=aa e4
   rw [ig h3]at hx
   rw [aC]at h5
   obtain⟨g1,g2,rfl⟩:=gp h5
   obtain⟨a',c',rfl,hv⟩:=G2 e5 hx
   refine⟨.pointer (some (a'.add (i.toNat*z))),?_,hv⟩
   simp only [Instr.indexAt,Sem.run_bind,asIntOf,Sem.run_pure,Result.andThen_ok,av hT h2]
   rw [if_pos ⟨g1,g2⟩]
   simp only [Sem.run_bind,bV hT h4,Result.andThen_ok,Sem.run_pure]
  obtain⟨a,n,c,h3,e3⟩:=aq e2
  obtain⟨a,rfl,e4⟩:=aa e3
  obtain⟨z,h4,e5⟩:=aa e4
  obtain⟨j,h5,e6⟩:=aa e5
  obtain rfl:=gF h3
  obtain⟨g1,g2,rfl⟩:=gp h5
  obtain⟨a',c',rfl,ha⟩:=Dv hx (by omega)
  cases e6
  refine⟨.pointer (some (a'.add (i.toNat*z))),?_,.ptr rfl (ha.shift _)⟩
  simp only [Instr.indexAt,Sem.run_bind,asIntOf,Sem.run_pure,Result.andThen_ok,av hT h2]
  rw [if_pos ⟨g1,g2⟩]
  simp only [Sem.run_bind,bV hT h4,Result.andThen_ok,Sem.run_pure]
 ·rename_i len e
  rcases ee e2 with⟨vs,rfl,e2⟩|e2
  ·obtain⟨cs,h3,e3⟩:=aa e2
   obtain⟨z,h4,e4⟩:=aa e3
   obtain⟨j,h5,e5⟩:=aa e4
   rw [pc h3]at hx
   obtain⟨g1,g2,rfl⟩:=gp h5
   obtain⟨a',rfl,hv⟩:=xy e5 hx
   refine⟨.pointer (some (a'.add (i.toNat*z))),?_,hv⟩
   simp only [Instr.indexAt,Sem.run_bind,asIntOf,Sem.run_pure,Result.andThen_ok,av hT h2,Instr.sureAddr]
   rw [if_pos ⟨g1,g2⟩]
   simp only [Sem.run_bind,bV hT h4,Result.andThen_ok,Sem.run_pure]
  obtain⟨b,off,h3,e7⟩:=ae e2
  obtain⟨z,h4,e8⟩:=aa e7
  obtain⟨j,h5,e9⟩:=aa e8
  obtain rfl:=iN h3
  obtain⟨g1,g2,rfl⟩:=gp h5
  obtain⟨a',rfl,ha⟩:=hx.js
  cases e9
  refine⟨.pointer (some (a'.add (i.toNat*z))),?_,.ptr rfl (ha.shift _)⟩
  simp only [Instr.indexAt,Sem.run_bind,asIntOf,Sem.run_pure,Result.andThen_ok,av hT h2,Instr.sureAddr]
  rw [if_pos ⟨g1,g2⟩]
  simp only [Sem.run_bind,bV hT h4,Result.andThen_ok,Sem.run_pure]
theorem G3(hT:bw P T){t:TypeId}{x x' ix ix' v:Value}(h:yZ T t x ix=some v)(hx:VR π D x x')(hi:VR π D ix ix'):kc P π D v (Instr.index t x' ix'):=by
 intro w
 obtain⟨k,i,h1,e1⟩:=ae h
 obtain⟨d,h2,e2⟩:=aa e1
 obtain rfl:=cY h1
 obtain rfl:=hi.aZ
 cases d<;>simp only [Dm]at e2<;>try (cases e2;done)
 ·obtain⟨s,h3,e3⟩:=aa e2
  obtain⟨j,h4,e4⟩:=aa e3
  obtain⟨b,h5,e5⟩:=aa e4
  obtain⟨str,hstr,hl⟩:=fe h3
  subst hstr
  subst hl
  obtain rfl:=hx.bn
  obtain⟨g1,g2,rfl⟩:=gp h4
  cases e5
  rw [bW]at h5
  refine⟨.int .u8 b.toNat,?_,.int _ _⟩
  have hg:str[i.toNat]? =some b:=by
   obtain⟨⟨l⟩⟩:=str
   simp only at h5
   have hlt:=(List.getElem?_eq_some_iff.1 h5).1
   have hb:=(List.getElem?_eq_some_iff.1 h5).2
   rw [getElem?_pos (ByteArray.mk ⟨l⟩) i.toNat (show i.toNat<(ByteArray.mk ⟨l⟩).size from hlt)]
   exact congrArg some hb
  simp only [Instr.index,Sem.run_bind,asIntOf,Sem.run_pure,Result.andThen_ok,av hT h2,if_pos g1,hg]
 ·rename_i len e
  obtain⟨cs,h3,e6⟩:=aa e2
  obtain⟨z,h4,e7⟩:=aa e6
  obtain⟨j,h5,e8⟩:=aa e7
  obtain rfl:=iM h3
  obtain⟨g1,g2,rfl⟩:=gp h5
  obtain⟨cs',rfl,hcs,hc1⟩:=aR.iK hx
  obtain⟨v',h6,h7⟩:=iL hT e8 hcs hc1 w
  refine⟨v',?_,h7⟩
  simp only [Instr.index,Sem.run_bind,asIntOf,Sem.run_pure,Result.andThen_ok,av hT h2]
  rw [if_pos ⟨g1,g2⟩]
  simp only [Sem.run_bind,bV hT h4,Result.andThen_ok]
  exact h6
theorem gN{dflt most n:Nat}{v:Option Value}(h:bound dflt most v=some n):(v=none∧n=dflt)∨∃k i,v=some (.int k i)∧0≤i∧i≤most∧n=i.toNat:=by
 cases v with
 |none=>simp only [bound,Option.some.injEq]at h;exact .inl ⟨rfl,h.symm⟩
 |some v=>
  obtain⟨k,i,h1,e1⟩:=ae (show ak (mK v) (fun _ i=>oQ i most)=some n from h)
  obtain rfl:=cY h1
  exact .inr ⟨k,i,rfl,tj e1⟩
def zo(π:aK)(D:Nat→Prop)(a b:Option Value):Prop:=
 match a,b with
 |none,none=>True
 |some x,some y=>VR π D x y
 |_,_=>False
theorem zo.int{k:IntKind}{i:Int}{b:Option Value}(h:zo π D (some (.int k i)) b):b=some (.int k i):=by
 cases b with
 |none=>cases h
 |some b=>exact congrArg some (VR.aZ h)
theorem zo.none{b:Option Value}(h:zo π D none b):b=none:=by
 cases b with
 |none=>rfl
 |some b=>cases h
theorem mN{most:Nat}{k:IntKind}{i:Int}(h1:0≤i)(h2:i≤most)(code:BoundsCode)(w:World):(Instr.sliceBound (.int k i) most code).run P w= .ok i.toNat w:=by
 simp only [Instr.sliceBound,Sem.run_bind,asIntOf,Sem.run_pure,Result.andThen_ok,if_pos (And.intro h1 h2)]
theorem jv{len cap l h' m:Nat}{lo hi mx:Option Value}(h:eE len cap lo hi mx=some (l,h',m))(hlc:len≤cap):l≤h'∧h'≤m∧m≤cap∧(mx=none→m=cap):=by
 obtain⟨h0,e1⟩:=er h
 obtain⟨m1,h1,e2⟩:=aa e1
 obtain⟨h2,h3,e3⟩:=aa e2
 obtain⟨l1,h4,e4⟩:=aa e3
 cases e4
 have g1:m≤cap∧(mx=none→m=cap):=by
  rcases gN h1 with⟨a,b⟩|⟨k,i,a,b,c,d⟩
  ·exact⟨by omega,fun _=>b⟩
  ·exact⟨by omega,fun e=>by rw [a]at e;cases e⟩
 have g2:h'≤m:=by
  rcases gN h3 with⟨a,b⟩|⟨k,i,a,b,c,d⟩
  ·subst a
   cases mx with
   |none=>have:=g1.2 rfl;omega
   |some _=>simp at h0
  ·omega
 have g3:l≤h':=by
  rcases gN h4 with⟨a,b⟩|⟨k,i,a,b,c,d⟩<;>omega
 exact⟨g3,g2,g1.1,g1.2⟩
def kJ(mx:Option Value)(c m:Nat):Nat:=match mx with|none=>c|some _=>m
theorem iO{isSl:Bool}{len cap cap' l h' m:Nat}{lo hi mx lo' hi' mx':Option Value}(h:eE len cap lo hi mx=some (l,h',m))(hc:cap≤cap')(h1:zo π D lo lo')(h2:zo π D hi hi')(h3:zo π D mx mx')(w:World):
  (Instr.sliceBounds isSl len cap' lo' hi' mx').run P w= .ok (l,h',kJ mx cap' m) w:=by
 obtain⟨h0,e1⟩:=er h
 obtain⟨m1,g1,e2⟩:=aa e1
 obtain⟨h4,g2,e3⟩:=aa e2
 obtain⟨l1,g3,e4⟩:=aa e3
 cases e4
 have r3:∀code,(lo'=none∧l=0)∨∃v,lo'=some v∧∀w,(Instr.sliceBound v h' code).run P w= .ok l w:=by
  intro code
  rcases gN g3 with⟨a,b⟩|⟨k,i,a,b,c,d⟩
  ·subst a;exact .inl ⟨h1.none,b⟩
  ·subst a;subst d;exact .inr ⟨_,h1.int,fun w=>mN b c code w⟩
 cases mx with
 |none=>
  obtain rfl:=h3.none
  rcases gN g1 with⟨_,b⟩|⟨k,i,a,_⟩
  ·subst b
   rcases gN g2 with⟨a,b⟩|⟨k,i,a,b,c,d⟩
   ·subst a;obtain rfl:=h2.none;subst b
    rcases r3 .sliceB with⟨rfl,rfl⟩|⟨v,rfl,hv⟩
    ·rfl
    ·simp only [Instr.sliceBounds,Sem.run_bind,Sem.run_pure,Result.andThen_ok,Option.isSome_none,Bool.false_eq_true,if_false,hv,kJ]
   ·subst a;obtain rfl:=h2.int;subst d
    have hb:∀code w,(Instr.sliceBound (.int k i) cap' code).run P w= .ok i.toNat w:=fun code w=>mN (P:=P) b (show i≤(cap':Int) by omega) code w
    rcases r3 .sliceB with⟨rfl,rfl⟩|⟨v,rfl,hv⟩
    ·simp only [Instr.sliceBounds,Sem.run_bind,Sem.run_pure,Result.andThen_ok,hb,kJ]
    ·simp only [Instr.sliceBounds,Sem.run_bind,Sem.run_pure,Result.andThen_ok,Option.isSome_none,Bool.false_eq_true,if_false,hb,hv,kJ]
  ·cases a
 |some mv=>
  rcases gN g1 with⟨a,_⟩|⟨k,i,a,b,c,d⟩
  ·cases a
  ·cases a
   obtain rfl:=h3.int
   subst d
   rcases gN g2 with⟨a2,_⟩|⟨k2,i2,a2,b2,c2,d2⟩
   ·subst a2;simp at h0
   ·subst a2;obtain rfl:=h2.int;subst d2
    have hb:∀code w,(Instr.sliceBound (.int k i) cap' code).run P w= .ok i.toNat w:=fun code w=>mN (P:=P) b (show i≤(cap':Int) by omega) code w
    have hb2:∀code w,(Instr.sliceBound (.int k2 i2) i.toNat code).run P w= .ok i2.toNat w:=fun code w=>mN (P:=P) b2 c2 code w
    rcases r3 .slice3C with⟨rfl,rfl⟩|⟨v,rfl,hv⟩
    ·simp only [Instr.sliceBounds,hb,hb2,Sem.run_pure,Sem.run_bind,Result.andThen_ok,kJ]
    ·simp only [Instr.sliceBounds,hb,hb2,hv,Sem.run_pure,Sem.run_bind,Result.andThen_ok,Option.isSome_some,if_true,kJ]
theorem AR.cut{k off:Nat}{a':Addr}(h:AR π D ⟨k,off,none⟩ a')(z l m:Nat):AR π D ⟨k,iff (Nat.beq m l) off (Nat.add off (Nat.mul l z)),none⟩ (if m=l then a' else a'.add (l*z)):=by
 rw [iff_eq]
 by_cases h1:m=l
 ·rw [if_pos h1,if_pos ((beq_iff _ _).2 h1)];exact h
 ·rw [if_neg h1,if_neg (fun h'=>h1 ((beq_iff _ _).1 h'))];exact h.shift (l*z)
theorem ur(l:List UInt8)(a b:Nat):(ByteArray.mk ⟨l⟩).extract a b=⟨⟨(l.drop a).take (b-a)⟩⟩:=by
 apply ByteArray.ext
 rw [ByteArray.data_extract]
 apply Array.ext'
 simp [List.extract_eq_take_drop]
theorem G4{z l h' m len cap:Nat}{mx:Option Value}{a:Option Addr}{v x':Value}(h:cutAt mx z l h' m a=some v)(hx:VR π D (.slice a len cap) x')
  (hl:l≤h') (hh:h'≤m) (hm:m≤cap) (hmx:mx=none→m=cap):
  ∃a' cap',x'= .slice a' len cap'∧cap≤cap'∧VR π D v (.slice (if kJ mx cap' m=l then a' else a'.map (·.add (l*z))) (h'-l) (kJ mx cap' m-l)):=by
 cases a with
 |none=>
  obtain rfl:=hx.ju
  cases h
  have hm':kJ mx cap m=m:=by cases mx with
   |none=>exact(hmx rfl).symm
   |some _=>rfl
  refine⟨none,cap,rfl,Nat.le_refl _,?_⟩
  simp only [hm',Option.map_none,ite_self]
  exact .sl0 _ _ (Nat.sub_le_sub_right hh l)
 |some a=>
  obtain⟨k,off,sp⟩:=a
  cases sp with
  |none=>
   cases h
   cases hx with
   |sl _ _ hn hs ha=>
    rename_i a'
    have hm':kJ mx cap m=m:=by cases mx with
     |none=>exact(hmx rfl).symm
     |some _=>rfl
    refine⟨some a',cap,rfl,Nat.le_refl _,?_⟩
    simp only [hm']
    have:=ha.cut z l m
    unfold cut
    split
    ·rename_i he;rw [if_pos he]at this;exact .sl _ _ (Nat.sub_le_sub_right hh l) rfl this
    ·rename_i he;rw [if_neg he]at this;exact .sl _ _ (Nat.sub_le_sub_right hh l) rfl this
   |slz a a' hs=>
    have:l=0:=by omega
    have:h'=0:=by omega
    have:m=0:=by omega
    subst_vars
    refine⟨some a',0,rfl,Nat.le_refl _,?_⟩
    cases mx<;>exact .slz _ _ rfl
   |slo _ _ _ _ hs _=>cases hs
  |some s=>
   obtain⟨h1,h2⟩:=aj h
   rw [beq_iff]at h1
   subst h1
   cases h2
   cases hx with
   |sl _ _ _ hs _=>cases hs
   |slz _ _ hs=>cases hs
   |slo _ _ c' hn hs ha=>
    rename_i a' s'
    simp only [Option.some.injEq]at hs
    subst hs
    obtain⟨hsp,hcc,ha⟩:=ha
    refine⟨some a',c',rfl,hcc,?_⟩
    cases mx with
    |none=>
     have hm':=hmx rfl
     subst hm'
     rw [show kJ none c' m=c' from rfl]
     simp only [Option.isSome_none,iff_false,Nat.sub_eq,Nat.add_eq,Nat.mul_eq]
     rcases ha with⟨i,g1,g2,g3,g5⟩|⟨g1,g2⟩
     ·by_cases he:c'=l
      ·rw [if_pos he]
       exact .slo (s:=s) _ _ _ (by omega) rfl ⟨hsp,by omega,.inl ⟨i,g1,g2,g3,.inr ⟨by omega,by omega,by omega⟩⟩⟩
      ·rw [if_neg he]
       obtain⟨b,o,sp⟩:=a'
       simp only at hsp g2
       subst hsp
       simp only [Option.map_some,Addr.add_plain]
       rcases g5 with⟨g6,g7⟩|⟨_,_,g8⟩
       ·refine .slo (s:=s) _ _ _ (by omega) rfl ⟨rfl,by omega,.inl ⟨i,g1,g2,g3,.inl ⟨?_,?_⟩⟩⟩
        ·simp only at g6 ⊢
         rw [g6];omega
        ·simp only at g7 ⊢
         have:(c'-l)*s+l*s=c'*s:=by rw [←Nat.add_mul];congr 1;omega
         omega
       ·omega
     ·have hsp2:(a'.add (l*s)).spot=none:=by unfold Addr.add;split<;>first|exact hsp|rfl
      by_cases he:c'=l
      ·rw [if_pos he];exact .slo (s:=s) _ _ _ (by omega) rfl ⟨hsp,by omega,.inr ⟨g1,g2⟩⟩
      ·rw [if_neg he];exact .slo (s:=s) _ _ _ (by omega) rfl ⟨hsp2,by omega,.inr ⟨g1,g2⟩⟩
    |some mv=>
     rw [show kJ (some mv) c' m=m from rfl]
     simp only [Option.isSome_some,iff_true]
     rcases ha with⟨i,g1,g2,g3,g5⟩|⟨g1,g2⟩
     ·rcases g5 with⟨g6,g7⟩|⟨g6,g7,g8⟩
      ·have har:AR π D ⟨k,off,none⟩ a':=⟨hsp,.inl ⟨i,g1,g2,g6⟩⟩
       have:=har.cut s l m
       unfold cut
       split
       ·rename_i he;rw [if_pos he]at this;exact .sl _ _ (Nat.sub_le_sub_right hh l) rfl this
       ·rename_i he;rw [if_neg he]at this;exact .sl _ _ (Nat.sub_le_sub_right hh l) rfl this
      ·have e1:l=0:=by omega
       have e2:h'=0:=by omega
       have e3:m=0:=by omega
       subst e1;subst e2;subst e3
       rw [if_pos rfl]
       exact .slz _ _ rfl
     ·have hsp2:(a'.add (l*s)).spot=none:=by unfold Addr.add;split<;>first|exact hsp|rfl
      unfold cut
      split
      ·exact .sl _ _ (Nat.sub_le_sub_right hh l) rfl ⟨hsp,.inr ⟨g1,g2⟩⟩
      ·exact .sl _ _ (Nat.sub_le_sub_right hh l) rfl ⟨hsp2,.inr ⟨g1,g2⟩⟩
theorem NW{z z2:Nat}{rows cs:List Value}(h:Jc z rows=true)(hr:jr z2 rows cs):rows=[]∨z2=z:=by
 cases rows with
 |nil=>exact .inl rfl
 |cons r rows=>
  obtain⟨c,d,rfl,h2,_⟩:=bO hr
  have:Nat.beq (aY c) z=true:=h
  rw [beq_iff,aC]at this
  exact .inr (h2.symm.trans this)
theorem Dw{z l h' m:Nat}{rows:List Value}{lo hi mx:Option Value}{x' v:Value}(hz:Jc z rows=true)(hb:eE rows.length rows.length lo hi mx=some (l,h',m))(h:yY mx rows l h' m=some v)(hx:VR π D (dV rows) x'):
  ∃a' c',x'= .slice a' rows.length c'∧rows.length≤c'∧VR π D v (.slice (if kJ mx c' m=l then a' else a'.map (·.add (l*z))) (h'-l) (kJ mx c' m-l)):=by
 obtain⟨b1,b2,b3,b4⟩:=jv hb (Nat.le_refl _)
 unfold yY at h
 rw [iff_eq]at h
 rcases hx.cJ with⟨rfl,c,rfl⟩|⟨cs,cs',z2,c',a',rfl,hr,hc,hf,ho,hv,hrd⟩
 ·simp only [List.length_nil]at b3
  have e1:m=0:=by omega
  have e2:h'=0:=by omega
  have e3:l=0:=by omega
  subst e1;subst e2;subst e3
  refine⟨none,c,rfl,Nat.zero_le _,?_⟩
  have:v=dV []:=by
   split at h
   ·cases h;rfl
   ·cases h;rfl
  subst this
  have h5:(if kJ mx c 0=0 then none else(none:Option Addr).map (·.add (0*z)))=none:=by split<;>rfl
  rw [h5]
  exact .data (.nF _ _ rfl)
 ·refine⟨some a',c',rfl,hc,?_⟩
  split at h
  ·rename_i hm
   obtain⟨h6,h7⟩:=aj h
   rw [Tr.bz]at h6
   subst h6
   have e2:h'=0:=by omega
   have e3:l=0:=by omega
   subst e2;subst e3
   have:kJ mx c' 0=0:=by cases mx with|none=>cases hm|some _=>rfl
   rw [this,if_pos rfl]
   cases rows with
   |nil=>cases h7;exact .data (Rd.nil _ _)
   |cons r rows=>cases h7;exact .slz _ _ rfl
  ·rename_i hm
   have hmx:mx=none:=by cases mx with|none=>rfl|some _=>exact absurd rfl hm
   subst hmx
   rw [show kJ none c' m=c' from rfl]
   obtain⟨r,h6,h7⟩:=aa h
   cases h7
   obtain⟨h8,rfl⟩:=sub_eq h6
   by_cases hl:h'=l
   ·subst hl
    rw [Nat.sub_eq,Nat.sub_self,List.take_zero]
    have key:∀a2:Addr,VR π D (dV []) (.slice (some a2) 0 (c'-h')):=fun a2=> .data (Rd.nil _ _)
    by_cases he:c'=h'
    ·rw [if_pos he];exact key _
    ·rw [if_neg he];exact key _
   ·rw [if_neg (by omega)]
    have hlen:((rows.drop l).take (Nat.sub h' l)).length=h'-l:=by simp only [Nat.sub_eq,List.length_take,List.length_drop];omega
    rcases NW hz hr with rfl|rfl
    ·simp only [List.length_nil]at b3;omega
    rcases hf with rfl|⟨hs,cc,hf,hw⟩
    ·simp only [List.length_nil]at b3;omega
    have hp:=fR l (h'-l) hr
    have hcl:=ey hr
    have hle:l*z2+(h'-l)*z2≤cs'.length:=by
     rw [←hv.1,hcl,←Nat.add_mul];exact Nat.mul_le_mul_right _ (by omega)
    obtain⟨b,o,sp⟩:=a'
    simp only at hs
    subst hs
    have hv2:=(hrd.drop (l*z2)).take ((h'-l)*z2)
    have:=Rd.data (fr:=π.fr) (c':=c'-l) (a':=(Addr.mk b o none).add (l*z2)) hp (by rw [←Nat.sub_eq,hlen];omega) (.inr ⟨by rw [Addr.add_plain],cc,by rw [Addr.add_plain];exact hf,by rw [Addr.add_plain];exact hw.sub _ _ hle⟩) hv2.1 hv2.2
    rw [←Nat.sub_eq,hlen]at this
    exact .data this
theorem G5(hT:bw P T){t:TypeId}{x x' v:Value}{lo hi mx lo' hi' mx':Option Value}(h:qH T t x lo hi mx=some v)(hx:VR π D x x')(h1:zo π D lo lo')(h2:zo π D hi hi')(h3:zo π D mx mx'):kc P π D v (Instr.sliceAt t x' lo' hi' mx'):=by
 intro w
 obtain⟨d,e1,e2⟩:=aa h
 cases d<;>simp only [Je]at e2<;>try (cases e2;done)
 ·obtain⟨l,g1,g2⟩:=aa e2
  obtain⟨g3,g4⟩:=er g2
  obtain⟨a,b,c,g5,g6⟩:=aq g4
  obtain⟨s,hs,hl⟩:=fe g1
  subst hs;subst hl
  obtain rfl:=hx.bn
  cases g6
  cases mx with
  |some _=>cases g3
  |none=>
   obtain rfl:=h3.none
   rw [aC]at g5
   have hb:=iO (P:=P) (isSl:=false) g5 (Nat.le_refl _) h1 h2 (mx':=none) trivial w
   obtain⟨⟨bs⟩⟩:=s
   refine⟨_,?_,.string _⟩
   simp only [Instr.sliceAt,Sem.run_bind,av hT e1,Result.andThen_ok,Instr.slice,Option.isSome_none,Bool.false_eq_true,if_false]
   have hsz:(ByteArray.mk ⟨bs⟩).size=bs.length:=rfl
   simp only [hsz]
   have hb':(Instr.sliceBounds false bs.length bs.length lo' hi' none).run P w= .ok (a,b,bs.length) w:=hb
   simp only [hb',Result.andThen_ok,Sem.run_pure,ur]
   rfl
 ·rename_i e
  rcases ee e2 with⟨vs,rfl,e2⟩|e2
  ·obtain⟨rows,g1,g2⟩:=aa e2
   obtain⟨z,g3,g4⟩:=aa g2
   obtain⟨gz,g4⟩:=aj g4
   obtain⟨l,hh,m,g5,g6⟩:=aq g4
   rw [ig g1]at hx
   rw [aC]at g5
   obtain⟨a',c',rfl,hc,hv⟩:=Dw gz g5 g6 hx
   refine⟨_,?_,hv⟩
   simp only [Instr.sliceAt,Instr.slice,Sem.run_bind,av hT e1,Result.andThen_ok,iO g5 hc h1 h2 h3,bV hT g3,Sem.run_pure]
  obtain⟨a,len,cap,g1,g2⟩:=aq e2
  obtain⟨z,g3,g4⟩:=aa g2
  obtain⟨l,hh,m,g5,g6⟩:=aq g4
  obtain rfl:=gF g1
  obtain⟨b1,b2,b3,b4⟩:=jv g5 hx.Bn
  obtain⟨a',cap',rfl,hc,hv⟩:=G4 g6 hx b1 b2 b3 b4
  refine⟨_,?_,hv⟩
  simp only [Instr.sliceAt,Instr.slice,Sem.run_bind,av hT e1,Result.andThen_ok,iO g5 hc h1 h2 h3,bV hT g3,Sem.run_pure]
 ·rename_i n e
  rcases ee e2 with⟨vs,rfl,e2⟩|e2
  ·obtain⟨cs,g1,g2⟩:=aa e2
   obtain⟨z,g3,g4⟩:=aa g2
   obtain⟨gm,g4⟩:=er g4
   obtain⟨l,hh,m,g5,g6⟩:=aq g4
   obtain⟨rows,g7,g8⟩:=aa g6
   cases g8
   have hmx:mx=none:=by cases mx with|none=>rfl|some _=>cases gm
   subst hmx
   obtain rfl:=h3.none
   rw [pc g1]at hx
   obtain⟨b1,b2,b3,b4⟩:=jv g5 (Nat.le_refl _)
   have hb:=iO (P:=P) (isSl:=false) g5 (Nat.le_refl _) h1 h2 (mx':=none) trivial w
   rw [show kJ none n m=n from rfl]at hb
   obtain⟨cs',a',cc,rfl,hs,hf,hw,ho,hv,hrd⟩:=hx.j4
   refine⟨.slice (some (if n=l then a' else a'.add (l*z))) (hh-l) (n-l),?_,?_⟩
   ·simp only [Instr.sliceAt,Sem.run_bind,av hT e1,Result.andThen_ok,Instr.sureAddr,Sem.run_pure,hb,bV hT g3]
   ·rw [fQ]at g7
    obtain⟨c1,c2,c3⟩:=xz g7
    have c1':rows.length=hh-l:=c1
    have c2':(hh-l)*z≤cs.length-l*z:=by rw [List.length_drop]at c2;exact c2
    obtain⟨b,o,sp⟩:=a'
    simp only at hs
    subst hs
    rw [←c1']
    by_cases hl:hh=l
    ·have:rows=[]:=List.eq_nil_of_length_eq_zero (by omega)
     subst this
     exact .data (Rd.nil _ _)
    ·rw [if_neg (by omega),Addr.add_plain]
     have hv2:=(hrd.drop (l*z)).take ((hh-l)*z)
     by_cases hz:l*z≤cs.length
     ·exact .data (.data c3 (by rw [c1'];omega) (.inr ⟨rfl,cc,hf,hw.sub (l*z) ((hh-l)*z) (by have:=hv.1;omega)⟩) hv2.1 hv2.2)
     ·have h0:(hh-l)*z=0:=by omega
      have h1z:z=0:=by rcases Nat.mul_eq_zero.1 h0 with h|h<;>omega
      subst h1z
      simp at hz
  obtain⟨k,off,g1,g2⟩:=ae e2
  obtain⟨z,g3,g4⟩:=aa g2
  obtain⟨l,hh,m,g5,g6⟩:=aq g4
  obtain rfl:=iN g1
  obtain⟨a',rfl,ha⟩:=hx.js
  obtain⟨b1,b2,b3,b4⟩:=jv g5 (Nat.le_refl _)
  cases g6
  have hm':kJ mx n m=m:=by cases mx with
   |none=>exact(b4 rfl).symm
   |some _=>rfl
  have hb:=iO (P:=P) (isSl:=false) g5 (Nat.le_refl _) h1 h2 h3 w
  rw [hm']at hb
  refine⟨.slice (some (if m=l then a' else a'.add (l*z))) (hh-l) (m-l),?_,.sl _ _ (Nat.sub_le_sub_right b2 l) rfl (ha.cut z l m)⟩
  simp only [Instr.sliceAt,Sem.run_bind,av hT e1,Result.andThen_ok,Instr.sureAddr,Sem.run_pure,hb,bV hT g3]
theorem Dx{x x' v:Value}(h:zd x=some v)(hx:VR π D x x'):VR π D v x'∧(∀fn f c,x'= .func fn f c→∃g,fn= .func g)∧x'≠ .pointer none∧x'≠ .nilIface∧x'≠ .nilFunc:=by
 cases hx<;>simp only [zd,reduceCtorEq,Option.some.injEq]at h
 case any=>cases h
 case data=>cases h
 case dataP cs cs' a' hs hf hd=>
  have:v=fv cs:=by cases (show some (fv cs)=some v from h);rfl
  subst this
  exact⟨.dataP hs hf hd,by simp,by simp,by simp,by simp⟩
 case tuple c c' h1 _ _=>
  obtain⟨l,h2,h3⟩:=aa (show andThen (tP c) (fun cs=>some (fv cs))=some v from h)
  match c,h1,h2 with
  | [u],h1,h2=>cases Fz (show I6 u=some l from h2);cases h1
 case func fn f c f' c' hf hfs hc hcs=>
  obtain⟨h1,h2⟩:=aj h
  cases h2
  refine⟨.func fn hf hfs hc hcs,fun fn2 f2 c2 he=>?_,by simp,by simp,by simp⟩
  cases he
  cases fn<;>simp [Fj]at h1
  exact⟨_,rfl⟩
 case ptr hs ha=>subst h;exact⟨.ptr hs ha,by simp,by simp,by simp,by simp⟩
 case sl0 hn=>subst h;exact⟨.sl0 _ _ hn,by simp,by simp,by simp,by simp⟩
 case sl hn hs ha=>subst h;exact⟨.sl _ _ hn hs ha,by simp,by simp,by simp,by simp⟩
 case slz hs=>subst h;exact⟨.slz _ _ hs,by simp,by simp,by simp,by simp⟩
 case slo hn hs ha=>subst h;exact⟨.slo _ _ _ hn hs ha,by simp,by simp,by simp,by simp⟩
 case map0=>subst h;exact⟨.map0,by simp,by simp,by simp,by simp⟩
 case map hr=>subst h;exact⟨.map hr,by simp,by simp,by simp,by simp⟩
 case iface t _ _ hu=>subst h;exact⟨.iface t hu,by simp,by simp,by simp,by simp⟩
theorem G6(hT:bw P T){t:TypeId}{d:TypeDesc}(hd:desc T t=some d)(hi:isIface d=false)(x':Value)(w:World):(Instr.makeInterface t x').run P w= .ok (.iface t x') w:=by
 simp only [Instr.makeInterface,Sem.run_bind,av hT hd,Result.andThen_ok]
 cases d<;>first|rfl|cases hi
theorem Bq{i:Nat}{x x' v:Value}(h:Fl i x=some v)(hx:VR π D x x'):kc P π D v (Instr.extract x' i):=by
 intro w
 cases hx
 case any=>cases h
 case data=>cases h
 case dataP=>cases h
 all_goals simp only [Fl,reduceCtorEq]at h
 rename_i c c' h1 hc hcs
 have h:c[i]? =some v:=by
  revert h
  match c with
  | []=>intro h;cases h
  | [a]=>cases a<;>first|exact id|(intro h;cases h)
  |_::_::_=>exact id
 obtain⟨v',h1,h2⟩:=aR.get (π:=π) (D:=D) ⟨hc,hcs⟩ h
 refine⟨v',?_,h2⟩
 simp only [Instr.extract]
 have:(⟨c'⟩:Array Value)[i]? =some v':=by simpa using h1
 rw [this];rfl
theorem gv(hT:bw P T){t:TypeId}{i:TI}(hi:T.Y.get t=some i){z:List Value}(h:dY i=some z):∃zv,i.info.zero=some zv∧zv.cells=⟨zv.cells.toList⟩∧z.length=i.size∧(∀u∈z,bH u=true)∧∀π D,aR π D z zv.cells.toList:=by
 obtain⟨zv,h1,e1⟩:=aa h
 obtain⟨cs,h2,e2⟩:=aa e1
 obtain⟨h3,e3⟩:=aj e2
 cases e3
 rw [beq_iff,aC]at h3
 have hc:=fun π D=>pd h2 (iJ hT hi h1 π D)
 exact⟨zv,h1,rfl,h3,(hc ⟨fun _=>none,fun _=>none⟩ (fun _=>False)).2,fun π D=>(hc π D).1⟩
theorem NX(cs:Array Value)(off:Nat):∀(vs:List Value)(k:Nat),off+k+vs.length≤cs.size→(vs.zipIdx k).foldl (fun(cs:Array Value)(x:Value×Nat)=>cs.setIfInBounds (off+x.2) x.1) cs=ia cs (off+k) vs:=by
 intro vs
 induction vs generalizing cs with
 |nil=>intro k _;simp [ia]
 |cons v vs ih=>
  intro k hr
  have hsz:cs.toList.length=cs.size:=rfl
  simp only [List.length_cons]at hr
  rw [List.zipIdx_cons,List.foldl_cons,ih _ _ (by simp;omega)]
  simp only [ia]
  congr 1
  rw [Array.toList_setIfInBounds,List.length_cons,show off+(k+1)=(off+k)+1 from by omega,show off+k+1+vs.length=off+k+(vs.length+1)from by omega,
   List.take_set,List.drop_set,if_pos (by omega),List.take_succ_eq_append_getElem (by omega),List.set_append,if_neg (by simp;omega)]
  simp only [List.length_take,List.append_assoc]
  congr 1
  rw [show off+k-min (off+k) cs.toList.length=0 from by omega]
  rfl
theorem pf{place:Nat→Option (Nat×Nat)}:∀(ps:List (Nat×Value))(ps':List (Nat×Value))(cs:List Value)(cs':Array Value)(r:List Value),fill place ps cs=some r→aR π D cs cs'.toList→(∀u∈cs,bH u=true)→
  ps.length=ps'.length→(∀(j:Nat) p p',ps[j]? =some p→ps'[j]? =some p'→p.1=p'.1∧VR π D p.2 p'.2)→
  ∃r',Instr.fill place cs' ps'=some r'∧aR π D r r'.toList∧(∀u∈r,bH u=true)
 | [],ps',cs,cs',r,h,hc,h1,hl,_=>by
  simp only [fill,Option.some.injEq]at h
  subst h
  have:ps'=[]:=List.eq_nil_of_length_eq_zero hl.symm
  subst this
  exact⟨cs',rfl,hc,h1⟩
 |p::ps,ps',cs,cs',r,h,hc,h1,hl,hp=>by
  cases ps' with
  |nil=>simp at hl
  |cons p' ps'=>
   obtain⟨i,v⟩:=p
   obtain⟨i',v'⟩:=p'
   obtain⟨hi,hv⟩:=hp 0 _ _ rfl rfl
   simp only at hi hv
   subst hi
   simp only [fill]at h
   obtain⟨off,size,g1,e1⟩:=ae h
   obtain⟨vs,g2,e2⟩:=aa e1
   obtain⟨g3,e3⟩:=aj e2
   obtain⟨c2,g4,e4⟩:=aa e3
   obtain⟨g5,rfl⟩:=xq _ _ g4
   rw [beq_iff,aC]at g3
   obtain⟨hv1,hv2⟩:=pd g2 hv
   have hlen:=hv1.1
   have hcl:=hc.1
   have hsz:cs'.toList.length=cs'.size:=rfl
   have hvl:v'.cells.toList.length=v'.cells.size:=rfl
   have hput:aR π D (cs.take off++vs++cs.drop (off+vs.length)) (ia cs' off v'.cells.toList).toList:=by
    simp only [ia]
    rw [←hlen]
    exact((hc.take off).append hv1).append (hc.drop _)
   have hone:∀u∈cs.take off++vs++cs.drop (off+vs.length),bH u=true:=by
    intro u hu
    simp only [List.mem_append]at hu
    rcases hu with(hu|hu)|hu
    ·exact h1 u (List.mem_of_mem_take hu)
    ·exact hv2 u hu
    ·exact h1 u (List.mem_of_mem_drop hu)
   obtain⟨r',g6,g7,g8⟩:=pf ps ps' _ _ r e4 hput hone (by simpa using hl) (fun j p p' a b=>hp (j+1) p p' a b)
   refine⟨r',?_,g7,g8⟩
   simp only [Instr.fill,g1]
   rw [if_neg (by simp;omega)]
   have hf:=NX cs' off v'.cells.toList 0 (by omega)
   rw [Nat.add_zero]at hf
   rw [←Array.foldl_toList,Array.toList_zipIdx,hf]
   exact g6
theorem xA(hT:bw P T):∀(fs:List Field)(ps:List (Nat×Nat)),places T fs=some ps→∀w:World,(fs.mapM fun(f:Field)=>(do pure (f.offset,←sizeOf f.type):Sem (Nat×Nat))).run P w= .ok ps w
 | [],ps,h=>fun w=>by simp only [places,Option.some.injEq]at h;subst h;rfl
 |f::fs,ps,h=>fun w=>by
  simp only [places]at h
  obtain⟨s,g1,e1⟩:=aa h
  obtain⟨r,g2,e2⟩:=aa e1
  cases e2
  simp only [List.mapM_cons,Sem.run_bind,bV hT g1,Result.andThen_ok,Sem.run_pure,xA hT fs r g2 w]
theorem xB{ρ ρ':Operand→Value}(ps:Array (Nat×Operand))(h:∀x∈ps.toList.map (·.2),VR π D (ρ x) (ρ' x)):
  (parts ρ ps.toList).length=(ps.map fun(i,x)=>(i,ρ' x)).toList.length∧∀(j:Nat) p p',(parts ρ ps.toList)[j]? =some p→(ps.map fun(i,x)=>(i,ρ' x)).toList[j]? =some p'→p.1=p'.1∧VR π D p.2 p'.2:=by
 unfold parts
 rw [hO,Array.toList_map]
 refine⟨by simp,fun j p p' h1 h2=>?_⟩
 rw [List.getElem?_map]at h1 h2
 cases hq:ps.toList[j]? with
 |none=>rw [hq]at h1;cases h1
 |some q=>
  rw [hq]at h1 h2
  cases h1;cases h2
  exact⟨rfl,h q.2 (List.mem_map.2 ⟨q,List.mem_of_getElem? hq,rfl⟩)⟩
theorem G7(hT:bw P T){t:TypeId}{ps:List (Nat×Value)}{ps':Array (Nat×Value)}{v:Value}(h:build T t ps=some v)
  (hl:ps.length=ps'.toList.length) (hp:∀(j:Nat) p p',ps[j]? =some p→ps'.toList[j]? =some p'→p.1=p'.1∧VR π D p.2 p'.2):kc P π D v (Instr.build t ps'):=by
 intro w
 obtain⟨i,hi,e1⟩:=aa h
 obtain⟨z,hz,e2⟩:=aa e1
 obtain⟨zv,g1,_,g3,g4,g5⟩:=gv hT hi hz
 have hd:=(hT t i hi).desc
 generalize hdd:i.desc=dd at e2 hd
 cases dd<;>simp only [Ff]at e2<;>try (cases e2;done)
 ·rename_i len elem
  obtain⟨s,g6,e3⟩:=aa e2
  obtain⟨cs,g7,e4⟩:=aa e3
  cases e4
  obtain⟨r',g8,g9,g10⟩:=pf ps ps'.toList z zv.cells cs g7 (g5 π D) g4 hl hp
  refine⟨.agg ⟨r'.toList⟩,?_,g9.agg g10⟩
  simp only [Instr.build,Sem.run_bind,dM hT hi g1,Result.andThen_ok,run_underlying hd,bV hT g6]
  have:(fun(i:Nat)=>some (Nat.mul i s,s))=(fun i=>some (i*s,s)):=rfl
  rw [this]at g8
  rw [g8]
  rfl
 ·rename_i fields
  obtain⟨pl,g6,e3⟩:=aa e2
  obtain⟨cs,g7,e4⟩:=aa e3
  cases e4
  have hpl:(fun i=>aU i pl)=(fun i=>pl[i]?):=funext fun i=>bW i pl
  rw [hpl]at g7
  obtain⟨r',g8,g9,g10⟩:=pf ps ps'.toList z zv.cells cs g7 (g5 π D) g4 hl hp
  refine⟨.agg ⟨r'.toList⟩,?_,g9.agg g10⟩
  have hm:=xA hT fields.toList pl g6 w
  have hm2:(fields.mapM fun(f:Field)=>(do pure (f.offset,←sizeOf f.type):Sem (Nat×Nat))).run P w= .ok pl.toArray w:=by
   rw [Array.mapM_eq_mapM_toList,Sem.run_map,hm];rfl
  simp only [Instr.build,Sem.run_bind,dM hT hi g1,Result.andThen_ok,run_underlying hd,hm2]
  have:(fun(x:Nat)=>pl.toArray[x]?)=(fun i=>pl[i]?):=funext fun i=>by simp
  rw [this,g8]
  rfl
end
end Go.az
namespace Go.az
section
variable {P:Program} {T:ew} {σ σ':aD} {π:aK} {δ D:Nat→Prop} {H:Nat→Option aN} {w:World}
theorem Dy{k:Nat}{c:List Value}(h:σ.row k=some c):∃e aA ro,σ.obj k=some (.cells c e aA ro false):=by
 obtain⟨o,h1,h2⟩:=aa h
 obtain⟨e,aA,ro,rfl⟩:=Jv h2
 exact⟨e,aA,ro,h1⟩
theorem AR.known{k off:Nat}{a':Addr}(h:AR π D ⟨k,off,none⟩ a'):(∃i,π k=some i)∨(π k=none∧D k):=by
 rcases h.2 with⟨i,h1,_⟩|h1
 ·exact .inl ⟨i,h1⟩
 ·exact .inr h1
theorem AR.at{k off:Nat}{a':Addr}{i:PI}(h:AR π D ⟨k,off,none⟩ a')(hi:π k=some i):a'=⟨i.bm,i.sh+off,none⟩:=by
 rcases h.2 with⟨j,h2,h3,h4⟩|⟨h2,_⟩
 ·simp only at h2
  rw [hi]at h2;cases h2
  obtain⟨b,o,s⟩:=a'
  have:=h.1
  simp only at this h3 h4
  subst this;subst h3;subst h4;rfl
 ·simp only at h2;rw [hi]at h2;cases h2
theorem cC.cells(hp:cC σ σ' π δ D H w){k off:Nat}{c:List Value}{a':Addr}(h:σ.row k=some c)(ha:AR π D ⟨k,off,none⟩ a'):
  ∃B x cc elem fz,a'=⟨B,x+off,none⟩∧w.heap[B]? =some (.cells cc elem fz)∧x+c.length≤cc.size∧(∀v∈c,bH v=true)∧aR π D c ((cc.toList.drop x).take c.length):=by
 obtain⟨e,aA,ro,ho⟩:=Dy h
 obtain⟨i,hi,cc,elem,fz,h1,h2,h3,h4,h5,_⟩:=hp.here ho rfl ha.known
 exact⟨i.bm,i.sh,cc,elem,fz,ha.at hi,h1,by omega,h4,h5⟩
theorem nX{cc:Array Value}{x n off m:Nat}(h:off+m≤n):(((cc.toList.drop x).take n).drop off).take m=(cc.toList.drop (x+off)).take m:=by
 rw [List.drop_take,List.take_take,List.drop_drop,Nat.min_eq_left (by omega)]
theorem qP(hp:cC σ σ' π δ D H w){k off n:Nat}{r:List Value}{a':Addr}(h:σ.db k off n=some r)(ha:AR π D ⟨k,off,none⟩ a'):
  ∃r',(loadCells a' n).run P w= .ok ⟨r'⟩ w∧aR π D r r'∧(∀v∈r,bH v=true)∧r.length=n:=by
 obtain⟨c,h1,e1⟩:=aa h
 obtain⟨B,x,cc,elem,fz,rfl,hB,hle,h1c,hvs⟩:=hp.cells h1 ha
 obtain⟨h2,rfl⟩:=sub_eq e1
 by_cases hn:n=0
 ·subst hn
  exact⟨[],by simp [loadCells,loadCellsFrom],by simpa using aR.nil,by simp,by simp⟩
 ·have h3:=h2.resolve_left hn
  refine⟨(cc.toList.drop (x+off)).take n,run_loadCells hB (by omega),?_,fun v hv=>h1c v (List.mem_of_mem_drop (List.mem_of_mem_take hv)),by simp;omega⟩
  have:=(hvs.drop off).take n
  rwa [nX (by omega)]at this
theorem Br(hT:bw P T)(hp:cC σ σ' π δ D H w){t:TypeId}{k off:Nat}{v:Value}{a':Addr}(h:jU T σ t k off=some v)(ha:AR π D ⟨k,off,none⟩ a'):
  ∃v',(loadVar t a').run P w= .ok v' w∧VR π D v v':=by
 obtain⟨c,h1,e1⟩:=aa h
 obtain⟨i,hi,e2⟩:=aa e1
 rw [iff_eq]at e2
 by_cases ha2:i.agg=true
 ·rw [if_pos ha2]at e2
  obtain⟨r,h2,e3⟩:=aa e2
  cases e3
  have hc:σ.db k off i.size=some r:=by
   show andThen (σ.row k) _=_
   rw [h1];exact h2
  obtain⟨r',h3,h4,h5,_⟩:=qP (P:=P) hp hc ha
  refine⟨.agg ⟨r'⟩,?_,h4.agg h5⟩
  simp only [loadVar,Sem.run_bind,ed hT hi,ha2,Result.andThen_ok,if_true,eL hT hi,h3,Sem.run_pure]
 ·rw [if_neg ha2]at e2
  rw [bW]at e2
  obtain⟨B,x,cc,elem,fz,rfl,hB,hle,h1c,hvs⟩:=hp.cells h1 ha
  obtain⟨v',h3,h4⟩:=hvs.get e2
  refine⟨v',?_,h4⟩
  have hlt:=(List.getElem?_eq_some_iff.1 e2).1
  rw [List.getElem?_take,if_pos hlt,List.getElem?_drop]at h3
  have hc:w.cell? ⟨B,x+off,none⟩=some v':=by
   simp only [World.cell?,hB,Option.isSome_none,Bool.false_eq_true,if_false]
   rw [←Array.getElem?_toList];exact h3
  simp only [loadVar,Sem.run_bind,ed hT hi,Result.andThen_ok,ha2,Bool.false_eq_true,if_false,run_load,hc]
theorem G8(hT:bw P T)(hp:cC σ σ' π δ D H w){t:TypeId}{cs:List Value}{v x':Value}(h:part T t cs 0=some v)(hx:VR π D (fv cs) x'):
  ∃a',x'= .pointer (some a')∧∃v',(loadVar t a').run P w= .ok v' w∧VR π D v v':=by
 obtain⟨cs',a',cc,rfl,hs,hf,⟨hw1,hw2⟩,ho,hv,_⟩:=hx.j4
 refine⟨a',rfl,?_⟩
 obtain⟨b,x,sp⟩:=a'
 simp only at hs
 subst hs
 simp only at hf hw1 hw2
 obtain⟨elem,fz,hB⟩:=hp.rel.uh b cc hf
 obtain⟨i,hi,e2⟩:=aa h
 rw [iff_eq]at e2
 have hl:=hv.1
 by_cases ha2:i.agg=true
 ·rw [if_pos ha2]at e2
  obtain⟨r,h2,e3⟩:=aa e2
  cases e3
  obtain⟨h3,rfl⟩:=sub_eq h2
  rw [List.drop_zero]at*
  have hle:i.size≤cs.length∨i.size=0:=by omega
  have hrun:(loadCells ⟨b,x,none⟩ i.size).run P w= .ok ⟨cs'.take i.size⟩ w:=by
   rcases hle with hle|hle
   ·rw [run_loadCells hB (by show x+i.size≤cc.length;omega)]
    congr 2
    show(cc.drop x).take i.size=_
    rw [←hw2,List.take_take]
    congr 1;omega
   ·rw [hle];simp [loadCells,loadCellsFrom]
  refine⟨.agg ⟨cs'.take i.size⟩,?_,(hv.take i.size).agg fun u hu=>ho u (List.mem_of_mem_take hu)⟩
  simp only [loadVar,Sem.run_bind,ed hT hi,ha2,Result.andThen_ok,if_true,eL hT hi,hrun,Sem.run_pure]
 ·rw [if_neg ha2]at e2
  rw [bW]at e2
  obtain⟨v',h3,h4⟩:=hv.get e2
  refine⟨v',?_,h4⟩
  have hlt:=(List.getElem?_eq_some_iff.1 h3).1
  rw [←hw2,List.getElem?_take,if_pos (by rw [hw2]at*;omega),List.getElem?_drop,Nat.add_zero]at h3
  have hc:w.cell? ⟨b,x,none⟩=some v':=by
   simp only [World.cell?,hB,Option.isSome_none,Bool.false_eq_true,if_false]
   rw [←Array.getElem?_toList];exact h3
  simp only [loadVar,Sem.run_bind,ed hT hi,Result.andThen_ok,ha2,Bool.false_eq_true,if_false,run_load,hc]
def gU(P:Program)(σ σ':aD)(π:aK)(δ D:Nat→Prop)(H:Nat→Option aN)(w:World)(v:Value)(s:Sem Value):Prop:=
 ∃v' π' D' w',s.run P w= .ok v' w'∧VR π' D' v v'∧Post σ σ' π δ D H w π' D' w'
def FC(P:Program)(σ σ':aD)(π:aK)(δ D:Nat→Prop)(H:Nat→Option aN)(w:World)(s:Sem Unit):Prop:=
 ∃π' D' w',s.run P w= .ok () w'∧Post σ σ' π δ D H w π' D' w'
theorem G9(hT:bw P T)(hp:cC σ σ' π δ D H w){t:TypeId}{p p' x x':Value}(h:qI T t p x σ=some σ')(hpp:VR π D p p')(hx:VR π D x x'):FC P σ σ' π δ D H w (Instr.storeAt t p' x'):=by
 obtain⟨k,off,h1,e1⟩:=ae h
 obtain⟨z,h2,e2⟩:=aa e1
 obtain⟨vs,h3,e3⟩:=aa e2
 obtain⟨h4,e4⟩:=aj e3
 rw [beq_iff,aC]at h4
 obtain rfl:=iN h1
 obtain⟨a',rfl,ha⟩:=hpp.js
 obtain⟨hv,ho⟩:=pd h3 hx
 obtain⟨π',D',w',h5,h6⟩:=Bj (P:=P) hp e4 ha hv ho (j0 hv ho)
 refine⟨π',D',w',?_,h6⟩
 have hsz:x'.cells.size=z:=by
  have h1:=hv.1
  have h2:x'.cells.toList.length=x'.cells.size:=rfl
  omega
 simp only [Instr.storeAt,Sem.run_bind,Instr.sureAddr,Sem.run_pure,Result.andThen_ok,storeVar,bV hT h2,hsz,ne_eq,not_true_eq_false,if_false,h5]
theorem Bs{c:List Value}{cc:Array Value}{elem:TypeId}(hp:cC σ (σ.newRow c) π δ D H w)(hc:aR π D c cc.toList)(h1:∀v∈c,bH v=true):
  ∃π',Post σ (σ.newRow c) π δ D H w π' D (w.alloc (.cells cc elem))∧AR π' D ⟨σ.next,0,none⟩ ⟨w.heap.size,0,none⟩:=by
 have hsz:cc.toList.length=cc.size:=rfl
 have hl:=hc.1
 refine⟨_,ui (i:=⟨w.heap.size,0,cc.size,none,σ.next,false,c.length⟩) hp rfl ?_ ⟨Nat.le_refl _,fun _=>rfl⟩ (.inl rfl),rfl,.inl ⟨_,if_pos rfl,rfl,by simp⟩⟩
 refine⟨cc,elem,(0,0),by rw [heap_alloc,if_pos rfl],rfl,by simp only;omega,h1,?_,fun _ x _ h=>by simp only at h;omega,rfl,rfl,rfl,rfl⟩
 simp only [List.drop_zero]
 rw [List.take_of_length_le (by omega)]
 exact hc
theorem uu{t:TypeId}{c:List Value}{x':Value}(hp:cC σ (σ.newRow c) π δ D H w)(hc:aR π D c x'.cells.toList)(h1:∀v∈c,bH v=true):
  gU P σ (σ.newRow c) π δ D H w (.pointer (some ⟨σ.next,0,none⟩)) (do pure (.pointer (some (←Go.newVar t x')))):=by
 obtain⟨π',h2,h3⟩:=Bs (elem:=t) hp hc h1
 exact⟨_,π',D,_,rfl,.ptr rfl h3,h2⟩
theorem qQ{c:List Value}{v:Value}(h:newVar σ c=some (v,σ')):v= .pointer (some ⟨σ.next,0,none⟩)∧σ'=σ.newRow c:=by
 simp only [newVar,Option.some.injEq,Prod.mk.injEq]at h
 exact⟨h.1.symm,h.2.symm⟩
theorem Ha(hT:bw P T){t:TypeId}{ρ:Operand→Value}{v:Value}(h:Fm T t ρ σ=some (v,σ'))(hp:cC σ σ' π δ D H w):gU P σ σ' π δ D H w v (Instr.alloc t true (.tuple #[])):=by
 obtain⟨i,hi,e1⟩:=aa h
 obtain⟨z,hz,e2⟩:=aa e1
 obtain⟨rfl,rfl⟩:=qQ e2
 obtain⟨zv,g1,_,g3,g4,g5⟩:=gv hT hi hz
 obtain⟨v',π',D',w',h1,h2,h3⟩:=uu (P:=P) (t:=t) (x':=zv) hp (g5 π D) g4
 refine⟨v',π',D',w',?_,h2,h3⟩
 simp only [Instr.alloc,Sem.run_bind,dM hT hi g1,Result.andThen_ok]at h1 ⊢
 exact h1
theorem NY{t:TypeId}{x:Operand}{ρ:Operand→Value}{x' v:Value}(h:QB x ρ σ=some (v,σ'))(hx:VR π D (ρ x) x')(hp:cC σ σ' π δ D H w):gU P σ σ' π δ D H w v (Instr.box t x'):=by
 obtain⟨c,hc,e1⟩:=aa h
 obtain⟨rfl,rfl⟩:=qQ e1
 obtain⟨h1,h2⟩:=pd hc hx
 exact uu (P:=P) (t:=t) hp h1 h2
theorem l6{len cap:Nat}{c:List Value}{v:Value}(h:lP σ len cap c=some (v,σ')):v= .slice (some ⟨σ.next,0,none⟩) len cap∧σ'=σ.newRow c:=by
 simp only [lP,Option.some.injEq,Prod.mk.injEq]at h
 exact⟨h.1.symm,h.2.symm⟩
theorem pg{elem:TypeId}{len cap:Nat}{c:List Value}{cc:Array Value}(hp:cC σ (σ.newRow c) π δ D H w)(hc:aR π D c cc.toList)(h1:∀v∈c,bH v=true)(hlc:len≤cap):
  gU P σ (σ.newRow c) π δ D H w (.slice (some ⟨σ.next,0,none⟩) len cap) (do pure (.slice (some (←Go.newRow elem cc)) len cap)):=by
 obtain⟨π',h2,h3⟩:=Bs (elem:=elem) hp hc h1
 exact⟨_,π',D,_,rfl,.sl _ _ hlc rfl h3,h2⟩
theorem fS(z:List Value):∀n,fD z n=(List.replicate n z).flatten
 |0=>rfl
 |n+1=>by rw [fD,eH,fS z n,List.replicate_succ,List.flatten_cons]
theorem NZ(z:List Value)(n i:Nat)(h:i<n*z.length):(List.replicate n z).flatten[i]? =z[i % z.length]? :=by
 induction n generalizing i with
 |zero=>simp at h
 |succ n ih=>
  rw [List.replicate_succ,List.flatten_cons]
  by_cases hi:i<z.length
  ·rw [List.getElem?_append_left hi,Nat.mod_eq_of_lt hi]
  ·rw [List.getElem?_append_right (by omega),ih _ (by rw [Nat.succ_mul]at h;omega),←Nat.mod_eq_sub_mod (a:=i) (by omega)]
theorem ke(z:Array Value)(n:Nat):((Array.range (n*z.size)).map (z[· % z.size]!)).toList=(List.replicate n z.toList).flatten:=by
 have hsz:z.toList.length=z.size:=rfl
 apply List.ext_getElem?
 intro i
 by_cases hi:i<n*z.size
 ·rw [NZ _ _ _ (by rw [hsz];exact hi),Array.toList_map,List.getElem?_map,Array.toList_range,List.getElem?_range hi]
  have hz:0<z.size:=by
   rcases Nat.eq_zero_or_pos z.size with h|h
   ·rw [h]at hi;simp at hi
   ·exact h
  have hm:i % z.size<z.size:=Nat.mod_lt _ hz
  simp only [Option.map_some]
  rw [hsz,List.getElem?_eq_getElem (by rw [hsz];exact hm)]
  congr 1
  rw [getElem!_pos z _ hm]
  rfl
 ·rw [List.getElem?_eq_none (by simp;omega),List.getElem?_eq_none]
  rw [List.length_flatten,List.map_replicate,List.sum_replicate_nat]
  rw [hsz];omega
theorem kg{z:List Value}{n:Nat}(h:∀u∈z,bH u=true):∀u∈fD z n,bH u=true:=by
 intro u hu
 rw [fS]at hu
 obtain⟨l,hl,hu⟩:=List.mem_flatten.1 hu
 obtain⟨_,e⟩:=List.mem_replicate.1 hl
 exact h u (e▸hu)
theorem du{d:TypeDesc}{e:TypeId}(h:bL d=some e):d= .slice e:=by
 cases d<;>simp [bL]at h;subst h;rfl
theorem uv(hT:bw P T){t:TypeId}{len:Nat}{ps:List (Nat×Value)}{ps':Array (Nat×Value)}{v:Value}(h:buildSlice T t len ps σ=some (v,σ'))
  (hl:ps.length=ps'.toList.length) (hps:∀(j:Nat) p p',ps[j]? =some p→ps'.toList[j]? =some p'→p.1=p'.1∧VR π D p.2 p'.2) (hp:cC σ σ' π δ D H w):gU P σ σ' π δ D H w v (Instr.buildSlice t len ps'):=by
 obtain⟨d,hd,e1⟩:=aa h
 obtain⟨elem,he,e2⟩:=aa e1
 obtain⟨i,hi,e3⟩:=aa e2
 obtain⟨z,hz,e4⟩:=aa e3
 obtain⟨hb,e5⟩:=aj e4
 obtain⟨cs,hf,e6⟩:=aa e5
 obtain⟨rfl,rfl⟩:=l6 e6
 obtain rfl:=du he
 rw [bk]at hb
 have hb':len*i.size≤1000000:=hb
 obtain⟨zv,g1,_,g3,g4,g5⟩:=gv hT hi hz
 have hzl:=(g5 π D).1
 have hzs:zv.cells.toList.length=zv.cells.size:=rfl
 have hrow:aR π D (fD z len) ((Array.range (len*i.size)).map fun j=>(if len*i.size=0 then(#[]:Array Value)else zv.cells)[j % (if len*i.size=0 then(#[]:Array Value)else zv.cells).size]!).toList:=by
  by_cases h0:len*i.size=0
  ·rw [fS,h0]
   have:(List.replicate len z).flatten=[]:=by
    apply List.eq_nil_of_length_eq_zero
    rw [List.length_flatten,List.map_replicate,List.sum_replicate_nat,g3,h0]
   rw [this]
   simpa using aR.nil
  ·rw [if_neg h0,fS]
   have:=ke zv.cells len
   rw [show zv.cells.size=i.size from by omega]at this ⊢
   rw [this]
   exact(g5 π D).dn len
 obtain⟨r',g8,g9,g10⟩:=pf ps ps'.toList _ _ cs hf hrow (kg g4) hl hps
 obtain⟨v',π',D',w',h1,h2,h3⟩:=pg (P:=P) (elem:=elem) (cc:=r') hp g9 g10 (Nat.le_refl len)
 refine⟨v',π',D',w',?_,h2,h3⟩
 have hfn:(fun(j:Nat)=>some (Nat.mul j i.size,i.size))=(fun j=>some (j*i.size,i.size)):=rfl
 rw [hfn]at g8
 simp only [Instr.buildSlice,Sem.run_bind,av hT hd,Result.andThen_ok,eL hT hi]
 rw [if_neg (by omega)]
 by_cases h0:len*i.size=0
 ·simp only [if_pos h0]at g8 ⊢
  simp only [Sem.run_bind,Sem.run_pure,Result.andThen_ok,g8]at h1 ⊢
  exact h1
 ·simp only [if_neg h0]at g8 ⊢
  simp only [Sem.run_bind,Sem.run_pure,Result.andThen_ok,g8,dM hT hi g1]at h1 ⊢
  exact h1
end
end Go.az
end
