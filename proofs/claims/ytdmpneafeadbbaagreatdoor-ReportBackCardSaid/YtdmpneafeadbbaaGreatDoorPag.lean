/- What the card of ReportBack leans on, part 7: written with few blanks and short names by a program out of longer texts. Conditions: those of each lemma. -/
import Derived.Test.YtdmpneafeadbbaaGreatDoorPaf
set_option maxRecDepth 100000
set_option linter.unusedVariables false
set_option linter.unusedSimpArgs false
noncomputable section
namespace Go.az
section
variable {kt vt:Ty}
abbrev pU(kt vt:Ty):Type:=El kt×El vt×Int
def vA(kt vt:Ty)(k:El kt)(xs:List (pU kt vt)):Bool:= @List.rec (pU kt vt) (fun _=>Bool) false (fun x _ ih=>iff (gV kt k x.1) true ih) xs
def Cj(kt vt:Ty)(k:El kt)(d:El vt)(xs:List (pU kt vt)):El vt:= @List.rec (pU kt vt) (fun _=>El vt) d (fun x _ ih=>iff (gV kt k x.1) x.2.1 ih) xs
def Ee(kt vt:Ty)(k:El kt)(v:El vt)(xs:List (pU kt vt)):List (pU kt vt):= @List.rec (pU kt vt) (fun _=>List (pU kt vt)) [] (fun x r ih=>iff (gV kt k x.1) ((x.1,v,x.2.2)::r) (x::ih)) xs
def Ck(kt vt:Ty)(k:El kt)(xs:List (pU kt vt)):List (pU kt vt):= @List.rec (pU kt vt) (fun _=>List (pU kt vt)) [] (fun x r ih=>iff (gV kt k x.1) r (x::ih)) xs
def H5(kt vt:Ty)(k:El kt)(v:El vt)(x:El (tz kt vt)):El (tz kt vt):=
 iff (vA kt vt k x.1) (Ee kt vt k v x.1,x.2) (List.append x.1 [(k,v,x.2)],Int.ofNat (Nat.succ (Int.toNat x.2)))
def OA(kt vt:Ty)(k:El kt)(x:El (tz kt vt)):El (tz kt vt):=(Ck kt vt k x.1,x.2)
theorem OB{k:El kt}{v:El vt}{x:El (tz kt vt)}(h:vA kt vt k x.1=false):H5 kt vt k v x=(List.append x.1 [(k,v,x.2)],Int.ofNat (Nat.succ (Int.toNat x.2))):=by
 unfold H5
 rw [h];rfl
theorem Kv{k:El kt}{v:El vt}{x:El (tz kt vt)}(h:vA kt vt k x.1=true):H5 kt vt k v x=(Ee kt vt k v x.1,x.2):=by
 unfold H5
 rw [h];rfl
theorem Cl{T:ew}{t:TypeId}(hE:∀x y:El kt,wR T 3 t (aT kt x) (aT kt y)=some (gV kt x y))(k:El kt)(d v:El vt):∀(xs:List (pU kt vt))(i:Nat),
  (vA kt vt k xs=false∧lr T t (aT kt k) (xs.map (fj kt vt)) i=some none∧Cj kt vt k d xs=d∧Ck kt vt k xs=xs)∨
  (vA kt vt k xs=true∧∃j x,gV kt k x.1=true∧lr T t (aT kt k) (xs.map (fj kt vt)) i=some (some (i+j,fj kt vt x))∧Cj kt vt k d xs=x.2.1∧
   cN (aT vt v) (xs.map (fj kt vt)) j=(Ee kt vt k v xs).map (fj kt vt)∧(xs.map (fj kt vt)).eraseIdx j=(Ck kt vt k xs).map (fj kt vt))
 | [],i=> .inl ⟨rfl,rfl,rfl,rfl⟩
 |x::xs,i=>by
  have hf:lr T t (aT kt k) ((x::xs).map (fj kt vt)) i=andThen (wR T 3 t (aT kt k) (aT kt x.1)) fun b=>iff b (some (some (i,fj kt vt x))) (lr T t (aT kt k) (xs.map (fj kt vt)) (Nat.succ i)):=rfl
  have hh:vA kt vt k (x::xs)=iff (gV kt k x.1) true (vA kt vt k xs):=rfl
  have hg:Cj kt vt k d (x::xs)=iff (gV kt k x.1) x.2.1 (Cj kt vt k d xs):=rfl
  have hs:Ee kt vt k v (x::xs)=iff (gV kt k x.1) ((x.1,v,x.2.2)::xs) (x::Ee kt vt k v xs):=rfl
  have hd:Ck kt vt k (x::xs)=iff (gV kt k x.1) xs (x::Ck kt vt k xs):=rfl
  rw [hf,hh,hg,hs,hd,hE,af]
  cases hb:gV kt k x.1 with
  |true=>exact .inr ⟨rfl,0,x,hb,rfl,rfl,rfl,rfl⟩
  |false=>
   simp only [iff_false]
   rcases Cl hE k d v xs (Nat.succ i)with⟨h1,h2,h3,h4⟩|⟨h1,j,y,h2,h3,h4,h5,h6⟩
   ·exact .inl ⟨h1,h2,h3,by rw [h4]⟩
   ·refine .inr ⟨h1,j+1,y,h2,?_,h4,?_,?_⟩
    ·rw [h3];congr 3;omega
    ·show fj kt vt x::cN (aT vt v) (xs.map (fj kt vt)) j=_
     rw [h5];rfl
    ·show fj kt vt x::(xs.map (fj kt vt)).eraseIdx j=_
     rw [h6];rfl
def F6:Ty→Bool
 | .int _=>true
 |_=>false
def mz:Ty→Bool
 | .pair a b=>and (F6 a) (mz b)
 | .unit=>true
 |_=>false
def OC:Ty→Bool
 | .int _=>true
 | .str=>true
 | .bool=>true
 | .pair a b=>mz (.pair a b)
 |_=>false
theorem mY{a b:Ty}(h:mz (.pair a b)=true):(∃k,a= .int k)∧mz b=true:=by
 have h:and (F6 a) (mz b)=true:=h
 rw [Bool.and_eq_true]at h
 refine⟨?_,h.2⟩
 have h1:=h.1
 cases a<;>first|exact⟨_,rfl⟩|cases h1
theorem vC:∀{t:Ty},mz t=true→jM t=true
 | .unit,_=>rfl
 | .pair a b,h=>by
  obtain⟨⟨k,rfl⟩,h2⟩:=mY h
  show and true (jM b)=true
  rw [vC h2];rfl
theorem H6{t:Ty}(h:OC t=true):jM t=true:=by
 cases t<;>first|rfl|(cases h;done)|exact vC h
theorem Cm(a:Int):cB a a=true:=by rw [iG];exact beq_self_eq_true _
theorem nM:∀{t:Ty},mz t=true→∀x:El t,iE (ah t x) (ah t x)=true
 | .unit,_,x=>rfl
 | .pair a b,h,x=>by
  obtain⟨⟨k,rfl⟩,h2⟩:=mY h
  show and (and (sameKind k k) (cB x.1 x.1)) (iE (ah b x.2) (ah b x.2))=true
  rw [(bG k k).2 rfl,nM h2 x.2,show cB (x.1:Int) x.1=true from Cm x.1]
  rfl
theorem sameKey_self{t:Ty}(h:OC t=true)(x:El t):sameKey (aT t x) (aT t x)=true:=by
 cases t<;>first|(cases h;done)|skip
 case bool=>cases x<;>rfl
 case int k=>
  show and (sameKind k k) (cB x x)=true
  rw [(bG k k).2 rfl]
  exact Cm x
 case str=>
  exact beq_self_eq_true (α:=List UInt8) x
 case pair a b=>
  have h:mz (.pair a b)=true:=h
  show sameKey (aT (.pair a b) x) (aT (.pair a b) x)=true
  unfold aT
  rw [if_pos (show dz (.pair a b)=true from rfl)]
  exact nM h x
section
variable {T:ew} {σ:aD} {t key elem:TypeId} {x ix:Value} {b cl:Nat} {es:List MapEntry}
theorem mA(h:σ.obj b=some (.map es cl)):andThen (σ.obj b) entriesOf=some (es,cl):=by rw [h];rfl
theorem rn(h:σ.obj b=some (.map es cl)):tU σ (some b)=some es:=by
 show ak (andThen (σ.obj b) entriesOf) (fun es _=>some es)=_
 rw [mA h];rfl
theorem Ef{ok:Bool}(h1:mapType T t=some (key,elem))(hx:x= .map (some b))(ho:σ.obj b=some (.map es cl)){j:Nat}{e:MapEntry}(hf:gg T key ix es=some (some (j,e))):jo T σ t x ix ok=some (oS ok e.val true):=by
 subst hx
 unfold jo
 rw [h1,ax]
 show(andThen (tU σ (some b)) fun es=>andThen (gg T key ix es) fun hit=>_)=_
 rw [rn ho,af,hf];rfl
theorem Eg{ok:Bool}{z:Value}(h1:mapType T t=some (key,elem))(hx:x= .map (some b))(ho:σ.obj b=some (.map es cl))(hf:gg T key ix es=some none)(hz:zero T elem=some z):jo T σ t x ix ok=some (oS ok z false):=by
 subst hx
 unfold jo
 rw [h1,ax]
 show(andThen (tU σ (some b)) fun es=>andThen (gg T key ix es) fun hit=>_)=_
 rw [rn ho,af,hf,af]
 show(andThen (zero T elem) fun z=>some (oS ok z false))=_
 rw [hz];rfl
theorem Eh{v:Value}(h1:mapType T t=some (key,elem))(hx:x= .map (some b))(ho:σ.obj b=some (.map es cl)){j:Nat}{e:MapEntry}(hf:gg T key ix es=some (some (j,e)))(hk:sameKey e.key ix=true):gE T σ t x ix v=some (σ.dG b (cN v es j) cl):=by
 subst hx
 unfold gE
 rw [h1,ax,show I0 (Value.map (some b))=some (some b)from rfl,af,af,mA ho,ax,hf,af]
 show iff (sameKey e.key ix) (some (σ.dG b (cN v es j) cl)) none=_
 rw [hk];rfl
theorem Ei{v:Value}(h1:mapType T t=some (key,elem))(hx:x= .map (some b))(ho:σ.obj b=some (.map es cl))(hf:gg T key ix es=some none):gE T σ t x ix v=some (σ.dG b (es++[{key:=ix,val:=v,born:=cl}]) (Nat.succ cl)):=by
 subst hx
 unfold gE
 rw [h1,ax,show I0 (Value.map (some b))=some (some b)from rfl,af,af,mA ho,ax,hf];rfl
theorem Ej(h1:mapType T t=some (key,elem))(hx:x= .map (some b))(ho:σ.obj b=some (.map es cl)){j:Nat}{e:MapEntry}(hf:gg T key ix es=some (some (j,e))):fP T σ t x ix=some (σ.dG b (es.eraseIdx j) cl):=by
 subst hx
 unfold fP
 rw [h1,ax,show I0 (Value.map (some b))=some (some b)from rfl,af,af,mA ho,ax,hf];rfl
theorem vD(h1:mapType T t=some (key,elem))(hx:x= .map (some b))(ho:σ.obj b=some (.map es cl))(hf:gg T key ix es=some none):fP T σ t x ix=some (σ.dG b es cl):=by
 subst hx
 unfold fP
 rw [h1,ax,show I0 (Value.map (some b))=some (some b)from rfl,af,af,mA ho,ax,hf];rfl
theorem OD(hx:x= .map (some b))(ho:σ.obj b=some (.map es cl)):zg σ x=some es.length:=by
 subst hx
 show(andThen (tU σ (some b)) fun es=>some (aY es))=_
 rw [rn ho,af,aC]
end
def Cn{R:Type}(T:ew)(t:TypeId)(K:TypeId→TypeId→Ty→Ty→Option R):Option R:=
 ak (mapType T t) fun key elem=>andThen (kW T (nat_lit 3) key) fun kt=>andThen (kW T (nat_lit 10) elem) fun vt=>iff (OC kt) (K key elem kt vt) none
end
section
variable {R:Type} (T:ew)
def H7:Sym→Option Nat
 | .v (.map (some b))=>some b
 |_=>none
theorem tE{s:Sym}{b:Nat}(h:H7 s=some b):s= .v (.map (some b)):=by
 unfold H7 at h
 split at h
 ·cases h;rfl
 ·cases h
def z8(kt vt:Ty)(b:Nat)(s:ay)(K:El (tz kt vt)→Option R):Option R:=andThen (s.heap.get b) fun o=>match o with
 | .mp kt' vt' x=>andThen (gj (tz kt' vt') (tz kt vt) x) K
 |_=>none
def H8(s:ay)(b:Nat)(kt vt:Ty)(x:El (tz kt vt)):ay:=⟨s.heap.set b (.mp kt vt x),s.next,jh b s.low,s.bp⟩
def Co(t:TypeId)(r:Option Sym)(s:ay)(K:Sym→ay→Option R):Option R:=
 andThen (Dp (r.map Sym.val)) fun _=>Cn T t fun _ _ kt vt=>K (.v (.map (some s.next))) ⟨s.heap.set s.next (.mp kt vt ([],Int.ofNat (nat_lit 0))),Nat.succ s.next,s.low,s.bp⟩
def Kw(ok:Bool)(v:Sym)(b:Bool):Sym:=iff ok (.I1 (.cons v (.cons (.v (.bool b)) .nil))) v
def F7(t:TypeId)(x i:Sym)(ok:Bool)(s:ay)(K:Sym→ay→Option R):Option R:=
 Cn T t fun _ elem kt vt=>andThen (H7 x) fun b=>z8 kt vt b s fun m=>pL false (fun _=>none) kt i fun k=>andThen (zero T elem) fun z=>pL false (fun _=>none) vt (uY z) fun d=>
  K (Kw ok (nK vt (Cj kt vt k d m.1)) (vA kt vt k m.1)) s
def F8(t:TypeId)(x i y:Sym)(s:ay)(K:Sym→ay→Option R):Option R:=
 Cn T t fun _ _ kt vt=>andThen (H7 x) fun b=>z8 kt vt b s fun m=>pL false (fun _=>none) kt i fun k=>pL false (fun _=>none) vt y fun v=>K (.v undef) (H8 s b kt vt (H5 kt vt k v m))
def F9(t:TypeId)(x i:Sym)(s:ay)(K:Sym→ay→Option R):Option R:=
 Cn T t fun _ _ kt vt=>andThen (H7 x) fun b=>z8 kt vt b s fun m=>pL false (fun _=>none) kt i fun k=>K (.v undef) (H8 s b kt vt (OA kt vt k m))
def Ga(x:Sym)(s:ay)(K:Sym→ay→Option R):Option R:=
 andThen (H7 x) fun b=>andThen (s.heap.get b) fun o=>match o with
 | .mp _ _ m=>K (.v (.int .i64 (Int.ofNat (List.length m.1)))) s
 |_=>none
variable {T}
theorem Cp{f:TypeId→Option Ty}:∀(fs:List Field)(off:Nat)(t:Ty),rm f fs off=some t→dz t=true
 | [],_,t,h=>by cases (show some Ty.unit=some t from h);rfl
 |q::fs,off,t,h=>by
  rcases aG (show iff (or (q.name== "_") (not (Nat.beq q.offset off))) none (andThen (f q.type) fun t=>andThen (rm f fs (Nat.add off (al t))) fun r=>some (.pair t r))=some t from h)with⟨_,h1⟩|⟨_,h1⟩
  ·cases h1
  obtain⟨t1,_,h3⟩:=aa h1
  obtain⟨r,_,h5⟩:=aa h3
  cases h5;rfl
theorem Gb{f:TypeId→Option Ty}:∀(fs:List Field)(off:Nat)(t:Ty),rm f fs off=some t→mz t=true→∀g∈fs,g.offset<off+al t
 | [],_,_,_,_,g,hg=>by cases hg
 |q::fs,off,t,h,hi,g,hg=>by
  rcases aG (show iff (or (q.name== "_") (not (Nat.beq q.offset off))) none (andThen (f q.type) fun t=>andThen (rm f fs (Nat.add off (al t))) fun r=>some (.pair t r))=some t from h)with⟨_,h1⟩|⟨h0,h1⟩
  ·cases h1
  obtain⟨t1,h2,h3⟩:=aa h1
  obtain⟨r,h4,h5⟩:=aa h3
  cases h5
  obtain⟨⟨k,rfl⟩,h6⟩:=mY hi
  simp only [Bool.or_eq_false_iff]at h0
  have hoff:q.offset=off:=by
   have:=h0.2
   rw [Bool.not_eq_false',beq_iff]at this
   exact this
  have hs:al (.pair (.int k) r)=1+al r:=rfl
  rcases List.mem_cons.1 hg with rfl|hg
  ·rw [hs,hoff];omega
  ·have:=Gb fs (Nat.add off (al (.int k))) r h4 h6 g hg
   rw [hs]
   have h9:Nat.add off (al (.int k))=off+1:=rfl
   omega
theorem Kx:∀{d:Nat}{t:TypeId}{k:IntKind},kW T d t=some (.int k)→jn T t=true
 |0,t,k,h=>by cases (show none=some (Ty.int k)from h)
 |d+1,t,k,h=>by
  obtain⟨i,g1,g2⟩:=aa (show andThen (ty T t) (fun i=>andThen (Vn i.held (kW T d) i.desc) fun u=>iff (and (Nat.beq i.size (al u)) (i.agg==dz u)) (some u) none)=some (.int k)from h)
  obtain⟨u,g3,g4⟩:=aa g2
  obtain⟨_,g5⟩:=aj g4
  cases g5
  have hd:i.desc= .int k:=by
   cases hd:i.desc<;>rw [hd]at g3<;>first|(cases g3;done)|skip
   case int k'=>cases (show some (Ty.int k')=some (.int k)from g3);rfl
   case array n e=>
    obtain⟨t1,_,g6⟩:=aa (show andThen (kW T d e) (fun t=>some (Ty.arr n t))=some (.int k)from g3)
    cases g6
   case struct fs=>
    rcases aG (show iff i.held none (rm (kW T d) fs.toList 0)=some (.int k)from g3)with⟨_,h7⟩|⟨_,h8⟩
    ·cases h7
    ·have:=Cp _ _ _ h8
     cases this
  unfold jn desc
  rw [g1,af]
  show(match andThen (some i.desc) intKind with|some _=>true|none=>false)=true
  rw [hd]
  rfl
theorem Gc{d:Nat}:∀(fs:List Field)(off:Nat)(t:Ty),rm (kW T d) fs off=some t→mz t=true→∀g∈fs,jn T g.type=true
 | [],_,_,_,_,g,hg=>by cases hg
 |q::fs,off,t,h,hi,g,hg=>by
  rcases aG (show iff (or (q.name== "_") (not (Nat.beq q.offset off))) none (andThen (kW T d q.type) fun t=>andThen (rm (kW T d) fs (Nat.add off (al t))) fun r=>some (.pair t r))=some t from h)with⟨_,h1⟩|⟨_,h1⟩
  ·cases h1
  obtain⟨t1,h2,h3⟩:=aa h1
  obtain⟨r,h4,h5⟩:=aa h3
  cases h5
  obtain⟨⟨k,rfl⟩,h6⟩:=mY hi
  rcases List.mem_cons.1 hg with rfl|hg
  ·exact Kx h2
  ·exact Gc fs _ r h4 h6 g hg
theorem pV{t:TypeId}{K:TypeId→TypeId→Ty→Ty→Option R}{r:R}(h:Cn T t K=some r):∃key elem kt vt,mapType T t=some (key,elem)∧OC kt=true∧
  (∀x y:El kt,wR T 3 key (aT kt x) (aT kt y)=some (gV kt x y))∧(∀x:El kt,nS T key (aT kt x)=true)∧K key elem kt vt=some r:=by
 obtain⟨key,elem,h1,h⟩:=ae h
 obtain⟨kt,h2,h⟩:=aa h
 obtain⟨vt,h3,h⟩:=aa h
 obtain⟨h4,h⟩:=aj h
 refine⟨key,elem,kt,vt,h1,h4,(Ea 3 key kt h2).2,fun x=>?_,h⟩
 obtain⟨i,g1,g2⟩:=aa (show andThen (ty T key) (fun i=>andThen (Vn i.held (kW T 2) i.desc) fun u=>iff (and (Nat.beq i.size (al u)) (i.agg==dz u)) (some u) none)=some kt from h2)
 obtain⟨u,g3,g4⟩:=aa g2
 obtain⟨_,g5⟩:=aj g4
 cases g5
 unfold nS desc
 rw [g1,af]
 show zc T (aT kt x) i.desc=true
 cases hd:i.desc<;>rw [hd]at g3<;>first|(cases g3;done)|rfl|skip
 case struct fs=>
  rcases aG (show iff i.held none (rm (kW T 2) fs.toList 0)=some kt from g3)with⟨_,h7⟩|⟨_,h8⟩
  ·cases h7
  have hag:dz kt=true:=Cp _ _ _ h8
  have hin:mz kt=true:=by
   cases kt<;>first|exact h4|rfl|(cases hag;done)|(cases h4;done)
  show(match wO (aT kt x)with|some cs=>or (and (fs.toList.all fun f=>jn T f.type) (fs.toList.all fun f=>Nat.blt f.offset (aY cs))) (fs.toList.all fun f=>tf T cs f)|none=>false)=true
  unfold aT
  rw [if_pos hag]
  show or (and (fs.toList.all fun f=>jn T f.type) (fs.toList.all fun f=>Nat.blt f.offset (aY (ah kt x)))) (fs.toList.all fun f=>tf T (ah kt x) f)=true
  rw [Bool.or_eq_true]
  left
  rw [Bool.and_eq_true,aC,aH,List.all_eq_true,List.all_eq_true]
  refine⟨Gc fs.toList 0 kt h8 hin,fun f hm=>?_⟩
  rw [bK]
  have:=Gb fs.toList 0 kt h8 hin f hm
  omega
 obtain⟨t1,_,g6⟩:=aa (show andThen (kW T 2 _) (fun t=>some (Ty.arr _ t))=some kt from g3)
 cases g6
 cases h4
theorem Cq{kt vt kt' vt':Ty}{x:El (tz kt' vt')}{y:El (tz kt vt)}(h:gj (tz kt' vt') (tz kt vt) x=some y):kp kt vt y=kp kt' vt' x∧(y.2:Int)=x.2:=by
 unfold gj at h
 split at h
 ·rename_i hb
  have:=tA hb
  injection this with this _
  injection this with this
  injection this with h1 h2
  injection h2 with h2 _
  subst h1;subst h2
  cases h
  exact⟨rfl,rfl⟩
 ·cases h
theorem rq{kt vt:Ty}{b:Nat}{s:ay}{K:El (tz kt vt)→Option R}{r:R}(h:z8 kt vt b s K=some r):∃m,K m=some r∧s.g.obj b=some (.map (kp kt vt m) (Int.toNat m.2)):=by
 obtain⟨o,h1,h⟩:=aa h
 cases o<;>first|(cases h;done)|skip
 rename_i kt' vt' x
 obtain⟨m,h2,h⟩:=aa h
 refine⟨m,h,?_⟩
 rw [ay.iV,h1]
 show some (aN.map (kp kt' vt' x) (Int.toNat x.2))=_
 obtain⟨e1,e2⟩:=Cq h2
 rw [e1,e2]
theorem mB{t:Ty}{u:Sym}{K:El t→Option R}{r:R}(h:pL false (fun _=>none) t u K=some r):∃y,K y=some r∧u.val=aT t y:=by
 obtain⟨y,h1,h2,h3,h4⟩:=mX fk h
 refine⟨y,h1,?_⟩
 unfold aT
 cases ha:dz t with
 |true=>rw [if_pos rfl,Sym.gH (h4.trans ha),h2]
 |false=>
  rw [if_neg (by decide)]
  have:=Sym.mT h3 (h4.trans ha)
  rw [h2,bI ha]at this
  exact(List.cons.inj this).1.symm
theorem Ky{s:ay}{b:Nat}{kt vt:Ty}{x:El (tz kt vt)}:(H8 s b kt vt x).g=s.g.dG b (kp kt vt x) (Int.toNat x.2):=by
 unfold H8 ay.g aD.dG
 rw [dA (show cM.g (.mp kt vt x)=some (.map (kp kt vt x) (Int.toNat x.2))from rfl)]
 rfl
theorem Cr{t:TypeId}{ro:Option Operand}{ρ:Operand→Sym}{s:ay}{K:Sym→ay→Option R}{r:R}(h:Co T t (ro.map ρ) s K=some r):bZ (oT T t (ro.map fun o=>(ρ o).val) s.g) s K r:=by
 obtain⟨u,h1,h⟩:=aa h
 obtain⟨key,elem,kt,vt,h2,_,_,_,h⟩:=pV h
 refine⟨_,_,?_,h⟩
 obtain⟨d,g1,g2⟩:=aa h2
 obtain⟨a,b,g3,g4⟩:=ae g2
 unfold oT
 rw [Option.map_map]at h1
 rw [g1,af,g3,ax,show(fun o=>(ρ o).val)=Sym.val∘ρ from rfl,h1,af]
 unfold aD.new ay.g
 rw [dA (show cM.g (.mp kt vt ([],Int.ofNat 0))=some (.map [] 0)from rfl)]
 rfl
theorem Aa{key:TypeId}{kt vt:Ty}(hE:∀x y:El kt,wR T 3 key (aT kt x) (aT kt y)=some (gV kt x y))(hF:∀x:El kt,nS T key (aT kt x)=true)(k:El kt)(d v:El vt)(xs:List (pU kt vt)):
  (vA kt vt k xs=false∧gg T key (aT kt k) (xs.map (fj kt vt))=some none∧Cj kt vt k d xs=d∧Ck kt vt k xs=xs)∨
  (vA kt vt k xs=true∧∃j x,gV kt k x.1=true∧gg T key (aT kt k) (xs.map (fj kt vt))=some (some (j,fj kt vt x))∧Cj kt vt k d xs=x.2.1∧
   cN (aT vt v) (xs.map (fj kt vt)) j=(Ee kt vt k v xs).map (fj kt vt)∧(xs.map (fj kt vt)).eraseIdx j=(Ck kt vt k xs).map (fj kt vt)):=by
 unfold gg
 rw [hF,iff_true]
 rcases Cl hE k d v xs 0 with h|⟨h1,j,x,h2,h3,h4⟩
 ·exact .inl h
 ·rw [Nat.zero_add]at h3
  exact .inr ⟨h1,j,x,h2,h3,h4⟩
theorem Ek{t:TypeId}{x i:Sym}{ok:Bool}{s:ay}{K:Sym→ay→Option R}{r:R}(h:F7 T t x i ok s K=some r):bZ (val s.g (jo T s.g t x.val i.val ok)) s K r:=by
 obtain⟨key,elem,kt,vt,h1,h2,hE,hF,h⟩:=pV h
 obtain⟨b,h3,h⟩:=aa h
 obtain⟨m,h,h4⟩:=rq h
 obtain⟨k,h,h5⟩:=mB h
 obtain⟨z,h6,h⟩:=aa h
 obtain⟨d,h,h7⟩:=mB h
 rw [mU]at h7
 refine⟨_,s,?_,h⟩
 have hv:∀(y:El vt)(c:Bool),oS ok (aT vt y) c=(Kw ok (nK vt y) c).val:=fun y c=>by
  cases ok with
  |false=>exact(pG vt y).symm
  |true=>
   show Value.tuple #[aT vt y,.bool c]=Value.tuple ⟨[(nK vt y).val,.bool c]⟩
   rw [pG]
 have hx:x.val= .map (some b):=by rw [tE h3];rfl
 have:jo T s.g t x.val i.val ok=some (Kw ok (nK vt (Cj kt vt k d m.1)) (vA kt vt k m.1)).val:=by
  rcases Aa hE hF k d d m.1 with⟨g1,g2,g3,_⟩|⟨g1,j,y,_,g2,g3,_⟩
  ·rw [g1,g3,←hv,←h7]
   rw [←h5]at g2
   exact Eg h1 hx h4 g2 h6
  ·rw [g1,g3,←hv]
   rw [←h5]at g2
   exact Ef h1 hx h4 g2
 rw [this];rfl
theorem Em{t:TypeId}{x i y:Sym}{s:ay}{K:Sym→ay→Option R}{r:R}(h:F8 T t x i y s K=some r):bZ (unit (gE T s.g t x.val i.val y.val)) s K r:=by
 obtain⟨key,elem,kt,vt,h1,h2,hE,hF,h⟩:=pV h
 obtain⟨b,h3,h⟩:=aa h
 obtain⟨m,h,h4⟩:=rq h
 obtain⟨k,h,h5⟩:=mB h
 obtain⟨v,h,h6⟩:=mB h
 refine⟨_,_,?_,h⟩
 have hx:x.val= .map (some b):=by rw [tE h3];rfl
 have:gE T s.g t x.val i.val y.val=some (H8 s b kt vt (H5 kt vt k v m)).g:=by
  rw [Ky]
  rcases Aa hE hF k v v m.1 with⟨g1,g2,_⟩|⟨g1,j,q,g0,g2,_,g4,_⟩
  ·rw [OB g1]
   rw [←h5]at g2
   refine(Ei h1 hx h4 g2).trans ?_
   rw [h5,h6]
   show some (s.g.dG b (List.map (fj kt vt) m.1++[_]) _)=some (s.g.dG b (List.map (fj kt vt) (List.append m.1 [(k,v,m.2)])) _)
   rw [show List.map (fj kt vt) (List.append m.1 [(k,v,m.2)])=List.map (fj kt vt) m.1++[fj kt vt (k,v,m.2)]from List.map_append]
   rfl
  ·rw [Kv g1]
   have hk:k=q.1:=(z6 (H6 h2) k q.1).1 g0
   rw [←h5]at g2
   refine(Eh h1 hx h4 g2 ?_).trans ?_
   ·rw [h5,hk];exact sameKey_self h2 q.1
   ·rw [h6]
    show some (s.g.dG b (cN (aT vt v) (List.map (fj kt vt) m.1) j) _)=some (s.g.dG b (List.map (fj kt vt) (Ee kt vt k v m.1)) _)
    rw [g4]
 rw [this];rfl
theorem H9{t:TypeId}{x i:Sym}{s:ay}{K:Sym→ay→Option R}{r:R}(h:F9 T t x i s K=some r):bZ (andThen (fP T s.g t x.val i.val) fun σ'=>some (undef,σ')) s K r:=by
 obtain⟨key,elem,kt,vt,h1,h2,hE,hF,h⟩:=pV h
 obtain⟨b,h3,h⟩:=aa h
 obtain⟨m,h,h4⟩:=rq h
 obtain⟨k,h,h5⟩:=mB h
 refine⟨_,_,?_,h⟩
 have hx:x.val= .map (some b):=by rw [tE h3];rfl
 have:fP T s.g t x.val i.val=some (H8 s b kt vt (OA kt vt k m)).g:=by
  rw [Ky]
  have hres:∀es,fP T s.g t x.val i.val=some (s.g.dG b es (Int.toNat m.2))→es=List.map (fj kt vt) (Ck kt vt k m.1)→fP T s.g t x.val i.val=some (s.g.dG b (kp kt vt (OA kt vt k m)) (Int.toNat (OA kt vt k m).2)):=fun es e1 e2=>by
   subst e2;exact e1
  have hd:∀d:El vt,_:=fun d=>Aa hE hF k d d m.1
  cases hm:m.1 with
  |nil=>
   refine hres _ (vD h1 hx h4 ?_) ?_
   ·show gg T key i.val (List.map (fj kt vt) m.1)=some none
    rw [hm,h5]
    unfold gg
    rw [hF];rfl
   ·show List.map (fj kt vt) m.1=_
    rw [hm];rfl
  |cons e es=>
   rcases hd e.2.1 with⟨g1,g2,_,g4⟩|⟨g1,j,y,g0,g2,_,_,g5⟩
   ·exact hres _ (vD h1 hx h4 (by rw [←h5]at g2;exact g2)) (by rw [g4];rfl)
   ·exact hres _ (Ej h1 hx h4 (by rw [←h5]at g2;exact g2)) g5
 rw [this];rfl
theorem En{x:Sym}{s:ay}{K:Sym→ay→Option R}{r:R}(h:Ga x s K=some r):∃n,zg s.g x.val=some n∧K (.v (.int .i64 (Int.ofNat n))) s=some r:=by
 obtain⟨b,h1,h⟩:=aa h
 obtain⟨o,h2,h⟩:=aa h
 cases o<;>first|(cases h;done)|skip
 rename_i kt vt m
 refine⟨_,?_,h⟩
 refine(OD (b:=b) (by rw [tE h1];rfl) (show s.g.obj b=some (.map (kp kt vt m) (Int.toNat m.2))from by rw [ay.iV,h2];rfl)).trans ?_
 rw [show(kp kt vt m).length=List.length m.1 from List.length_map ..]
end
end Go.az
namespace Go.az
def bg:List Ty→Type
 | []=>Unit
 |t::ts=>El t×bg ts
def aO:(ts:List Ty)→bg ts→List Value
 | [],_=>[]
 |t::ts,x=>aT t x.1::aO ts x.2
def vE:(ts:List Ty)→bg ts→Sym
 | [],_=> .nil
 |t::ts,x=> .cons (nK t x.1) (vE ts x.2)
theorem sM:∀(ts:List Ty)(x:bg ts),(vE ts x).fy=aO ts x
 | [],_=>rfl
 |t::ts,x=>by
  show(nK t x.1).val::(vE ts x.2).fy=aT t x.1::aO ts x.2
  rw [pG,sM ts x.2]
def Vt:(ts:List Ty)→bg ts→Sym
 | [t]=>fun x=>nK t x.1
 |ts=>fun x=> .I1 (vE ts x)
theorem Cs:∀(ts:List Ty)(x:bg ts),(Vt ts x).val=ar (aO ts x)
 | [],_=>rfl
 | [t],x=>pG t x.1
 |t::u::ts,x=>by
  show Value.tuple ⟨(vE (t::u::ts) x).fy⟩=_
  rw [sM];rfl
def X6(t:Ty):lG (El t) where
 val:=aT t
 closed:=fun ι a hd=>by
  have h:=bX.closed hd (ca t a)
  unfold aT
  cases ha:dz t with
  |true=>rw [if_pos rfl];exact h.agg
  |false=>
   rw [if_neg (by decide)]
   rw [bI ha]at h
   exact h.2 0 _ _ rfl rfl
 uniq:=fun ι a b v h1 h2=>by
  unfold aT at h1 h2
  cases ha:dz t with
  |true=>
   rw [ha,if_pos rfl]at h1 h2
   exact(lG.agg (kU t)).uniq ι a b v h1 h2
  |false=>
   rw [ha,if_neg (by decide)]at h1 h2
   refine(kU t).uniq ι a b [v] ?_ ?_
   ·show bX ι (ah t a) [v]
    rw [bI ha];exact .fX h1
   ·show bX ι (ah t b) [v]
    rw [bI ha];exact .fX h2
def vF:(ts:List Ty)→ov (bg ts)
 | []=>ov.nil
 |t::ts=>ov.cons (X6 t) (vF ts)
theorem dN:∀(ts:List Ty)(x:bg ts),(vF ts).fy x=aO ts x
 | [],_=>rfl
 |t::ts,x=>by
  show aT t x.1::(vF ts).fy x.2=_
  rw [dN ts x.2];rfl
def nN(t:Ty)(xs:List (El t)):List Value:=(xs.map (ah t)).flatten
theorem pW{t:Ty}(xs:List (El t)):∀v∈nN t xs,cH v=true:=fun v hv=>by
 obtain⟨r,hr,hv⟩:=List.mem_flatten.1 hv
 obtain⟨a,_,rfl⟩:=List.mem_map.1 hr
 exact ca t a v hv
theorem Ia{t:Ty}{a b:List (El t)}(hl:a.length=b.length)(h:nN t a=nN t b):a=b:=
 (kU t).kn (ι:=pB) (cs:=nN t a) hl (bX.closed rfl (pW a)) (by
  show bX pB (nN t b) (nN t a)
  rw [h];exact bX.closed rfl (pW b))
def Eo(σ:aD):(C:List Ty)→bg C→List Value→Prop
 | [],_,cs=>cs=[]
 |t::C,y,cs=>∃b r aA ro,cs= .pointer (some ⟨b,0,none⟩)::r∧σ.obj b=some (.cells (ah t y.1) none aA ro false)∧Eo σ C y.2 r
theorem Eo.inj{σ:aD}:∀{C:List Ty}{y y':bg C}{cs:List Value},Eo σ C y cs→Eo σ C y' cs→y=y'
 | [],_,_,_,_,_=>rfl
 |t::C,(a,y),(a',y'),cs,⟨b,r,aA,ro,h1,h2,h3⟩,⟨b',r',org',ro',h1',h2',h3'⟩=>by
  rw [h1]at h1'
  cases h1'
  rw [h2]at h2'
  have h4:ah t a=ah t a':=by injection h2' with h5;injection h5
  have h5:a=a':=(kU t).uniq pB a a' (ah t a) (bX.closed rfl (ca t a)) (by
   show bX pB (ah t a') (ah t a)
   rw [h4];exact bX.closed rfl (ca t a'))
  have h6:y=y':=Eo.inj h3 h3'
  subst h5 h6
  rfl
structure Nk where
 t:Ty
 g:FuncId
 C:List Ty
 F:List (El t)→bg C→Option (List (El t))
def mZ(r:Nk)(args:List Value)(σ:aD)(v:Value)(σ':aD):Prop:=
  v= .tuple ⟨[]⟩∧∃x cs ys,args=[x,.func (.func r.g) ⟨[]⟩ ⟨cs⟩]∧Eo σ r.C ys cs∧
    ((x= .slice none 0 0∧σ'=⟨σ.heap,σ.next,0,σ.bp⟩)∨
     ∃b xs xs' aA,x= .slice (some ⟨b,0,some (al r.t)⟩) xs.length xs.length∧σ.obj b=some (.cells (nN r.t xs) (some (al r.t)) aA false false)∧r.F xs ys=some xs'∧xs'.length=xs.length∧
       σ'=⟨σ.heap.set b (.cells (nN r.t xs') (some (al r.t)) aA false false),σ.next,0,σ.bp⟩)
theorem mZ.one{r:Nk}{args:List Value}{σ σ1 σ2:aD}{v1 v2:Value}(h:mZ r args σ v1 σ1)(h':mZ r args σ v2 σ2):v1=v2∧σ1=σ2:=by
 obtain⟨rfl,x,cs,ys,h1,h2,h3⟩:=h
 obtain⟨rfl,x',cs',ys',h1',h2',h3'⟩:=h'
 rw [h1]at h1'
 cases h1'
 obtain rfl:=h2.inj h2'
 refine⟨rfl,?_⟩
 rcases h3 with⟨h3,h4⟩|⟨b,xs,xs',aA,h3,h4,h5,h6,h7⟩
 ·rcases h3' with⟨h3',h4'⟩|⟨b,xs,xs',aA,h3',h4',h5',h6',h7'⟩
  ·rw [h4,h4']
  ·rw [h3]at h3';cases h3'
 ·rcases h3' with⟨h3',h4'⟩|⟨b',zs,zs',org',h3',h4',h5',h6',h7'⟩
  ·rw [h3]at h3';cases h3'
  ·rw [h3]at h3'
   injection h3' with e1 e2 e3
   injection e1 with e1
   injection e1 with e1
   subst e1
   rw [h4]at h4'
   injection h4' with e4
   injection e4 with e5 e6 e7
   subst e7
   obtain rfl:=Ia e2 e5
   rw [h5]at h5'
   cases h5'
   rw [h7,h7']
def Gd(r:Nk):lA:=fun args σ=> @dite _ (∃p:Value×aD,mZ r args σ p.1 p.2) (Classical.propDecidable _) (fun h=>some (Classical.choose h)) (fun _=>none)
theorem Ct{r:Nk}{args:List Value}{σ σ':aD}{v:Value}(h:mZ r args σ v σ'):Gd r args σ=some (v,σ'):=by
 have hh:∃p:Value×aD,mZ r args σ p.1 p.2:=⟨(v,σ'),h⟩
 unfold Gd
 rw [dif_pos hh]
 obtain⟨h1,h2⟩:=(Classical.choose_spec hh).one h
 rw [←h1,←h2]
structure bu where
 f:FuncId
 A:List Ty
 B:List Ty
 F:bg A→Option (bg B)
 eS:Bool
 X7:Option Nk
def bu.res(c:bu)(a:bg c.A):Value:= @Option.rec (bg c.B) (fun _=>Value) undef (fun r=>ar (aO c.B r)) (c.F a)
def bu.Kz(c:bu):lA:=iff c.eS (uV (vF c.A) [] (fun a=>(c.F a).isSome=true) c.res) (sG (vF c.A) [] (fun a=>(c.F a).isSome=true) c.res)
def bu.spec(c:bu):lA:= @Option.rec Nk (fun _=>lA) c.Kz Gd c.X7
section
variable {R:Type}
def oC(nl:Bool)(hp:Nat→Option (Bool×Bool×Sym)):(ts:List Ty)→List Sym→(bg ts→Option R)→Option R
 | []=>fun l K=>match l with| []=>K ()|_::_=>none
 |t::ts=>fun l K=>match l with| []=>none|x::l=>pL nl hp t x fun y=>oC nl hp ts l fun ys=>K (y,ys)
theorem tF{ι:Ren}{nl:Bool}{hp:Nat→Option (Bool×Bool×Sym)}(hR:mu (bX ι) nl hp):∀(ts:List Ty)(l:List Sym)(K:bg ts→Option R)(r:R),oC nl hp ts l K=some r→∃y,K y=some r∧bX ι (aO ts y) (l.map Sym.val)
 | [],[],K,r,h=>⟨(),h,.nil⟩
 | [],_::_,K,r,h=>by cases h
 |t::ts,[],K,r,h=>by cases h
 |t::ts,x::l,K,r,h=>by
  obtain⟨y,h1,h2,h3,h4⟩:=mX hR (show pL nl hp t x (fun y=>oC nl hp ts l fun ys=>K (y,ys))=some r from h)
  obtain⟨ys,h5,h6⟩:=tF hR ts l _ r h1
  exact⟨(y,ys),h5,.cons (zY h2 h3 h4) h6⟩
def Zt:cM→Option (Bool×Bool×Sym)
 | .wP l _ _ _ false=>some (false,false,l)
 | .may nl nn l _ _=>some (nl,nn,l)
 |_=>none
def Ge(s:ay)(b:Nat):Option (Bool×Bool×Sym):=andThen (s.heap.get b) Zt
theorem Cu{s:ay}{b:Nat}{n nn:Bool}{ch:Sym}(h:Ge s b=some (n,nn,ch)):(n=false→s.g.row b=some ch.cells)∧(n=true→nn=false→s.g.row b=some []):=by
 obtain⟨o,h1,h2⟩:=aa h
 unfold aD.row
 rw [ay.iV,h1]
 unfold Zt at h2
 split at h2
 ·cases h2;exact⟨fun _=>rfl,fun h=>by cases h⟩
 ·cases h2
  refine⟨fun hn=>?_,fun hn hnn=>?_⟩
  ·subst hn;rfl
  ·subst hn;subst hnn;rfl
 ·cases h2
theorem OE(s:ay):mu (bX (BW [] s.g)) true (Ge s):=tB rfl (fun _=>rfl) fun _ _ _ _ h=>⟨rfl,(Cu h).1,(Cu h).2⟩
theorem OF:mu (bX (JZ [] [])) false (fun _=>none):=tB rfl (fun h=>by cases h) fun b n nn ch h=>by cases h
def OG:Value→Option Nat
 | .pointer (some ⟨b,0,none⟩)=>some b
 |_=>none
theorem OH{v:Value}{b:Nat}(h:OG v=some b):v= .pointer (some ⟨b,0,none⟩):=by
 unfold OG at h
 split at h
 ·cases h;rfl
 ·cases h
def KB:Sym→Option (FuncId×List Value)
 | .v (.func (.func g) ⟨[]⟩ ⟨cs⟩)=>some (g,cs)
 |_=>none
theorem KC{x:Sym}{g:FuncId}{cs:List Value}(h:KB x=some (g,cs)):x= .v (.func (.func g) ⟨[]⟩ ⟨cs⟩):=by
 unfold KB at h
 split at h
 ·cases h;rfl
 ·cases h
def QR:cM→Option (Bool×Bool×Sym×Nat×Nat)
 | .may nl nn l z aA=>some (nl,nn,l,z,aA)
 |_=>none
theorem KD{o:cM}{nl nn:Bool}{l:Sym}{z aA:Nat}(h:QR o=some (nl,nn,l,z,aA)):o= .may nl nn l z aA:=by
 cases o<;>first|(cases h;done)|(cases h;rfl)
def Ab:cM→Option (Sym×Nat×Bool)
 | .wP l none aA ro false=>some (l,aA,ro)
 |_=>none
theorem Ib{o:cM}{l:Sym}{aA:Nat}{ro:Bool}(h:Ab o=some (l,aA,ro)):o= .wP l none aA ro false:=by
 unfold Ab at h
 split at h
 ·cases h;rfl
 ·cases h
def Cv(s:ay):(C:List Ty)→List Value→(bg C→Option R)→Option R
 | []=>fun cs K=>match cs with| []=>K ()|_::_=>none
 |t::C=>fun cs K=>match cs with
  | []=>none
  |c::cs=>andThen (OG c) fun b=>andThen (andThen (s.heap.get b) Ab) fun o=>jL false (fun _=>none) t (dK o.1 .nil) fun y r=>zX r (Cv s C cs fun ys=>K (y,ys))
theorem Cw{s:ay}:∀{C:List Ty}{cs:List Value}{K:bg C→Option R}{r:R},Cv s C cs K=some r→∃ys,K ys=some r∧Eo s.g C ys cs
 | [],[],K,r,h=>⟨(),h,rfl⟩
 | [],_::_,K,r,h=>by cases h
 |t::C,[],K,r,h=>by cases h
 |t::C,c::cs,K,r,h=>by
  obtain⟨b,h1,k1⟩:=aa (show(andThen (OG c) fun b=>andThen (andThen (s.heap.get b) Ab) fun o=>jL false (fun _=>none) t (dK o.1 .nil) fun y r=>zX r (Cv s C cs fun ys=>K (y,ys)))=some r from h)
  clear h
  obtain⟨⟨l,aA,ro⟩,h2,h⟩:=aa k1
  clear k1
  obtain⟨o,h3,h4⟩:=aa h2
  have e4:=Ib h4
  have e1:=OH h1
  clear h1 h2 h4
  subst e1 e4
  obtain⟨y,s',c,h5,h6,h7⟩:=mW fk t _ _ _ (show jL false (fun _=>none) t (dK l .nil) (fun y r=>zX r (Cv s C cs fun ys=>K (y,ys)))=some r from h)
  obtain⟨rfl,h8⟩:=tC h5
  obtain⟨ys,h9,h10⟩:=Cw h8
  refine⟨(y,ys),h9,b,cs,aA,ro,rfl,?_,h10⟩
  rw [ay.iV,h3]
  have h7:c=ah t y:=h7
  rw [dB]at h6
  have h6:l.cells++[]=c++[]:=h6
  rw [List.append_nil,List.append_nil]at h6
  show some (aN.cells l.cells none aA ro false)=_
  rw [h6,h7]
theorem jN{α β:Type}{f:α→Option β}:∀(t:Tr α)(n:Nat)(v w:α),t.get n=some w→f v=f w→et f (t.set n v)=et f t
 | .leaf,n,v,w,h,_=>by cases (show none=some w from h)
 | .node l x r,n,v,w,h,hf=>by
  rw [Tr.cw]at h
  rw [Tr.jY]
  split
  ·rename_i h0
   rw [if_pos h0]at h
   show Tr.node (et f l) (f v) (et f r)=Tr.node (et f l) (x.bind f) (et f r)
   rw [h,hf];rfl
  ·rename_i h0
   rw [if_neg h0]at h
   split
   ·rename_i h1
    rw [if_pos h1]at h
    show Tr.node (et f (l.set (n / 2) v)) (x.bind f) (et f r)=Tr.node (et f l) (x.bind f) (et f r)
    rw [jN l _ v w h hf]
   ·rename_i h1
    rw [if_neg h1]at h
    show Tr.node (et f l) (x.bind f) (et f (r.set (n / 2-1) v))=Tr.node (et f l) (x.bind f) (et f r)
    rw [jN r _ v w h hf]
def RU(r:Nk)(ys:bg r.C)(q:Nat×Nat×Nat×Bool×Bool)(o:Bool×Bool×Sym×Nat×Nat)(s:ay)(K:Sym→ay→Option R):Option R:=
 iff (and (and (Nat.beq q.2.1 (al r.t)) (Nat.beq o.2.2.2.1 (al r.t))) (and q.2.2.2.2 (and o.2.1 (q.2.2.2.1==o.1))))
  (fo r.t (jL false (fun _=>none) r.t) 2000 (dK o.2.2.1 .nil) fun xs=>iff (or q.2.2.2.1 (Nat.beq q.2.2.1 xs.length))
   (andThen (iff q.2.2.2.1 (some xs) (r.F xs ys)) fun zs=>iff (or q.2.2.2.1 (Nat.beq zs.length xs.length))
    (K (.I1 .nil) ⟨s.heap.set q.1 (.may q.2.2.2.1 true (.rw r.t zs) (al r.t) o.2.2.2.2),s.next,0,s.bp⟩) none) none) none
def KE(r:Nk)(args:List Sym)(s:ay)(K:Sym→ay→Option R):Option R:=
 match args with
 | [x,h]=>ak (KB h) fun g cs=>iff (Nat.beq g r.g) (Cv s r.C cs fun ys=>andThen (D0 x) fun q=>andThen (andThen (s.heap.get q.1) QR) fun o=>RU r ys q o s K) none
 |_=>none
theorem KF{r:Nk}{args:List Sym}{s:ay}{K:Sym→ay→Option R}{a:R}(h:KE r args s K=some a):bZ (Gd r (args.map Sym.val) s.g) s K a:=by
 unfold KE at h
 split at h
 ·rename_i x hf
  obtain⟨g,cs,h1,k1⟩:=ae h
  clear h
  obtain⟨h2,k2⟩:=aj k1
  clear k1
  obtain⟨ys,k3,hcap⟩:=Cw k2
  clear k2
  obtain⟨⟨b,z,len,nl,nn⟩,h3,k4⟩:=aa k3
  clear k3
  obtain⟨⟨nl',nn',l,z',aA⟩,h4,k5⟩:=aa k4
  clear k4
  obtain⟨o,h5,h6⟩:=aa h4
  clear h4
  have e1:=KC h1
  have e2:=(beq_iff _ _).1 h2
  have e3:=jF h3
  have e4:=KD h6
  clear h1 h2 h3 h6
  subst e1 e3 e4
  have e2:g=r.g:=e2
  subst e2
  obtain⟨hc,h⟩:=aj (show iff (and (and (Nat.beq z (al r.t)) (Nat.beq z' (al r.t))) (and nn (and nn' (nl==nl')))) (fo r.t (jL false (fun _=>none) r.t) 2000 (dK l .nil) fun xs=>iff (or nl (Nat.beq len xs.length))
   (andThen (iff nl (some xs) (r.F xs ys)) fun zs=>iff (or nl (Nat.beq zs.length xs.length)) (K (.I1 .nil) ⟨s.heap.set b (.may nl true (.rw r.t zs) (al r.t) aA),s.next,0,s.bp⟩) none) none) none=some a from k5)
  simp only [Bool.and_eq_true,beq_iff,beq_iff_eq]at hc
  obtain⟨⟨rfl,rfl⟩,rfl,rfl,rfl⟩:=hc
  obtain⟨xs,h,hx⟩:=iW fk (mW fk r.t) _ _ _ _ h
  have hx:(dK l .nil).cells=(xs.map (ah r.t)).flatten:=hx
  rw [dB]at hx
  have hx:l.cells++[]=nN r.t xs:=hx
  rw [List.append_nil]at hx
  obtain⟨hl,h⟩:=aj h
  obtain⟨zs,hz,h⟩:=aa h
  obtain⟨hzl,hk⟩:=aj h
  refine⟨.I1 .nil,_,?_,hk⟩
  have hobj:s.g.obj b=(cM.may nl true l (al r.t) aA).g:=by rw [ay.iV,h5];rfl
  cases nl with
  |true=>
   refine Ct ⟨rfl,_,cs,ys,rfl,hcap,.inl ⟨rfl,?_⟩⟩
   show aD.mk (et cM.g (s.heap.set b (.may true true (.rw r.t zs) (al r.t) aA))) s.next 0 s.bp=aD.mk (et cM.g s.heap) s.next 0 s.bp
   rw [jN s.heap b (.may true true (.rw r.t zs) (al r.t) aA) _ h5 rfl]
  |false=>
   have hl:Nat.beq len xs.length=true:=hl
   rw [beq_iff]at hl
   subst hl
   have hz:r.F xs ys=some zs:=hz
   have hzl:Nat.beq zs.length xs.length=true:=hzl
   rw [beq_iff]at hzl
   refine Ct ⟨rfl,_,cs,ys,rfl,hcap,.inr ⟨b,xs,zs,aA,rfl,?_,hz,hzl,?_⟩⟩
   ·rw [hobj]
    show some (aN.cells l.cells (some (al r.t)) aA false false)=_
    rw [hx]
   ·show aD.mk (et cM.g (s.heap.set b (.may false true (.rw r.t zs) (al r.t) aA))) s.next 0 s.bp=aD.mk ((et cM.g s.heap).set b _) s.next 0 s.bp
    rw [dA (f:=cM.g) (w:= .cells (nN r.t zs) (some (al r.t)) aA false false) rfl]
 ·cases h
def KG(c:bu)(args:List Sym)(s:ay)(K:Sym→ay→Option R):Option R:=
 oC c.eS (fun b=>iff c.eS (Ge s b) none) c.A args fun a=>andThen (c.F a) fun r=>K (Vt c.B r) s
def OI(c:bu)(args:List Sym)(s:ay)(K:Sym→ay→Option R):Option R:=
 @Option.rec Nk (fun _=>Option R) (KG c args s K) (fun r=>KE r args s K) c.X7
def KH(tab:List bu)(f:FuncId)(args:List Sym)(s:ay)(K:Sym→ay→Option R):Option R:=
 @List.rec bu (fun _=>Option R) none (fun c _ ih=>iff (Nat.beq f c.f) (OI c args s K) ih) tab
def iZ(tab:List bu):cD:=sD (tab.map fun c=>(c.f,c.spec))
theorem KI{c:bu}{args:List Sym}{s:ay}{K:Sym→ay→Option R}{r:R}(h:KG c args s K=some r):bZ (c.Kz (args.map Sym.val) s.g) s K r:=by
 unfold KG at h
 unfold bu.Kz
 cases hl:c.eS with
 |true=>
  rw [hl]at h
  obtain⟨a,h1,h2⟩:=tF (OE s) _ _ _ _ (show oC true (Ge s) c.A args _=some r from h)
  obtain⟨y,h3,h4⟩:=aa h1
  refine⟨_,s,?_,h4⟩
  rw [iff_true,BX (a:=a) (ok:=fun a=>(c.F a).isSome=true) (tabs:=[]) rfl (show(c.F a).isSome=true by rw [h3];rfl) (by rw [dN];exact h2),Cs]
  unfold bu.res
  rw [h3]
 |false=>
  rw [hl]at h
  obtain⟨a,h1,h2⟩:=tF OF _ _ _ _ (show oC false (fun _=>none) c.A args _=some r from h)
  obtain⟨y,h3,h4⟩:=aa h1
  refine⟨_,s,?_,h4⟩
  rw [iff_false,uW (a:=a) (ok:=fun a=>(c.F a).isSome=true) (tabs:=[]) rfl (show(c.F a).isSome=true by rw [h3];rfl) (by rw [dN];exact h2),Cs]
  unfold bu.res
  rw [h3]
theorem OJ{c:bu}{args:List Sym}{s:ay}{K:Sym→ay→Option R}{r:R}(h:OI c args s K=some r):bZ (c.spec (args.map Sym.val) s.g) s K r:=by
 unfold OI at h
 unfold bu.spec
 cases hs:c.X7 with
 |none=>rw [hs]at h;exact KI h
 |some q=>rw [hs]at h;exact KF h
theorem Cx:∀{tab:List bu}{f:FuncId}{args:List Sym}{s:ay}{K:Sym→ay→Option R}{r:R},KH tab f args s K=some r→bZ (iZ tab f (args.map Sym.val) s.g) s K r
 | [],f,args,s,K,r,h=>by cases (show none=some r from h)
 |c::tab,f,args,s,K,r,h=>by
  show bZ (iff (Nat.beq f c.f) (c.spec (args.map Sym.val) s.g) (iZ tab f (args.map Sym.val) s.g)) s K r
  rcases aG (show iff (Nat.beq f c.f) (OI c args s K) (KH tab f args s K)=some r from h)with⟨h1,h⟩|⟨h1,h⟩
  ·rw [h1];exact OJ h
  ·rw [h1];exact Cx h
variable (T:ew) (tab:List bu)
def RV(b:Bool)(args:List Sym)(s:ay)(K:Sym→ay→Option R):Option R:=
 ak (jV args) fun x r=>andThen (Jj b (r.map Sym.val) x.val) fun v=>K (.v v) s
theorem OK{b:Bool}{args:List Sym}{s:ay}{K:Sym→ay→Option R}{r:R}(h:RV b args s K=some r):bZ (NF b (args.map Sym.val) s.g) s K r:=by
 obtain⟨x,xs,h1,h⟩:=ae h
 obtain⟨v,h2,h⟩:=aa h
 refine⟨.v v,s,?_,h⟩
 unfold NF
 rw [vw h1,ax,h2];rfl
def QS(bT:List TypeId)(args:List Sym)(s:ay)(K:Sym→ay→Option R):Option R:=
 ak (jV bT) fun t _=>ak (jV args) fun x _=>andThen (desc T t) fun d=>match d with
 | .map _ _=>Ga x s K
 |_=>A9 T bT args s K
def Vu(bT:List TypeId)(args:List Sym)(s:ay)(K:Sym→ay→Option R):Option R:=
 ak (jV bT) fun t _=>ak (tV args) fun x i=>F9 T t x i s K
def vG(b:Builtin)(bT:List TypeId)(args:List Sym)(s:ay)(K:Sym→ay→Option R):Option R:=
 match b with
 | .append=>F5 T bT args s K
 | .len=>QS T bT args s K
 | .delete=>Vu T bT args s K
 | .min=>RV true args s K
 | .max=>RV false args s K
 |_=>none
theorem KJ{bT:List TypeId}{args:List Sym}{s:ay}{K:Sym→ay→Option R}{r:R}(h:QS T bT args s K=some r):bZ (Jk T bT (args.map Sym.val) s.g) s K r:=by
 obtain⟨t,tr,h1,h⟩:=ae h
 obtain⟨x,xr,h2,h⟩:=ae h
 obtain⟨d,h3,h⟩:=aa h
 cases d<;>first|exact Oo h|skip
 obtain⟨n,h4,h5⟩:=En h
 refine⟨_,s,?_,h5⟩
 unfold Jk
 rw [h1,ax,vw h2,ax]
 unfold Ji
 rw [h3,af]
 show val s.g (Fk (zg s.g x.val))=_
 rw [h4];rfl
theorem OL{bT:List TypeId}{args:List Sym}{s:ay}{K:Sym→ay→Option R}{r:R}(h:Vu T bT args s K=some r):bZ (zi T bT (args.map Sym.val) s.g) s K r:=by
 obtain⟨t,tr,h1,h⟩:=ae h
 obtain⟨x,i,h2,h⟩:=ae h
 unfold zi
 rw [h1,ax,Ca h2,ax]
 exact H9 h
theorem Cy{b:Builtin}{bT:List TypeId}{args:List Sym}{s:ay}{K:Sym→ay→Option R}{r:R}(h:vG T b bT args s K=some r):bZ (jW b T bT (args.map Sym.val) s.g) s K r:=by
 unfold vG at h
 cases b<;>first|(cases h;done)|exact Ed h|exact KJ T h|exact OL T h|exact OK h
def KK:Sym→Option FuncId
 | .v (.func (.func g) ⟨[]⟩ ⟨[]⟩)=>some g
 |_=>none
theorem KL{x:Sym}{g:FuncId}(h:KK x=some g):x= .v (.func (.func g) ⟨[]⟩ ⟨[]⟩):=by
 unfold KK at h
 split at h
 ·cases h;rfl
 ·cases h
def Ac(ρ:Operand→Sym)(s:ay)(bT:List TypeId)(args:List Sym)(K:Sym→ay→Option R):Callee→Option R
 | .builtin b=>vG T b bT args s K
 | .value f=>andThen (KK (ρ f)) fun g=>KH tab g args s K
 |_=>none
theorem Ep{ρ:Operand→Sym}{s:ay}{bT:List TypeId}{args:List Sym}{K:Sym→ay→Option R}{c:Callee}{r:R}(h:Ac T tab ρ s bT args K c=some r):bZ (tY c T (iZ tab) (fun o=>(ρ o).val) s.g bT (args.map Sym.val)) s K r:=by
 cases c with
 |builtin b=>exact Cy T h
 |invoke r n=>cases h
 |value f=>
  obtain⟨g,h1,h⟩:=aa h
  show bZ (Fs T (iZ tab) s.g (args.map Sym.val) (ρ f).val) s K r
  rw [KL h1]
  show bZ (iZ tab g (gL (gL [] (args.map Sym.val)) []) s.g) s K r
  rw [eH,eH,List.nil_append,List.append_nil]
  exact Cx h
def X8:Sym→Bool
 | .p _ _=>true
 | .rp .. =>true
 |_=>false
def Vv(op:Op)(ρ:Operand→Sym)(x:Sym)(s:ay)(K:Sym→ay→Option R):Option R:=iff (X8 x) (K x s) (iX T op ρ s K)
theorem OM{op:Op}{ρ:Operand→Sym}{xo:Operand}{s:ay}{K:Sym→ay→Option R}{r:R}(ho:op= .nilCheck xo)(h:Vv T op ρ (ρ xo) s K=some r):bZ (zl op T (fun o=>(ρ o).val) s.g) s K r:=by
 rcases aG h with⟨h1,k⟩|⟨_,k⟩
 ·clear h
  subst ho
  refine⟨_,s,?_,k⟩
  show val s.g (zd (ρ xo).val)=_
  cases hx:ρ xo<;>rw [hx]at h1<;>first|(cases h1;done)|rfl
 ·exact eu k
def two{α β:Type}(o:Option α)(p:Option β):Option (α×β):=andThen o fun x=>andThen p fun y=>some (x,y)
theorem KM{α β:Type}{o:Option α}{p:Option β}{x:α}{y:β}(h:two o p=some (x,y)):o=some x∧p=some y:=by
 obtain⟨x',h1,h⟩:=aa h
 obtain⟨y',h2,h⟩:=aa h
 cases h
 exact⟨h1,h2⟩
def QT(c a b:Sym)(s:ay)(K:Sym→ay→Option R):Option R:=
 andThen (andThen (zV c) sd) fun t=>
  kz (two (andThen (zV a) sd) (andThen (zV b) sd)) (fun p=>K (.v (.bool (iff t p.1 p.2))) s) <|
  kz (two (B4 a) (B4 b)) (fun p=>iff (sameKind p.1.1 p.2.1) (K (.v (.int p.1.1 (iff t p.1.2 p.2.2))) s) none) <|
  iff t (K a s) (K b s)
theorem KN{ρ:Operand→Sym}{c a b:Operand}{s:ay}{K:Sym→ay→Option R}{r:R}(h:QT (ρ c) (ρ a) (ρ b) s K=some r):bZ (qJ c a b (fun o=>(ρ o).val) s.g) s K r:=by
 obtain⟨t,h1,h⟩:=aa h
 obtain⟨v,h2,h3⟩:=aa h1
 have hc:sd (ρ c).val=some t:=by rw [eM h2];exact h3
 have hp:qJ c a b (fun o=>(ρ o).val) s.g=some (iff t (ρ a).val (ρ b).val,s.g):=by
  unfold qJ
  rw [hc];rfl
 rw [hp]
 rcases bR h with⟨⟨x,y⟩,h4,h⟩|⟨_,h⟩
 ·obtain⟨h4,h5⟩:=KM h4
  obtain⟨v1,h6,h7⟩:=aa h4
  obtain⟨v2,h8,h9⟩:=aa h5
  obtain rfl:=gq h7
  obtain rfl:=gq h9
  refine⟨_,s,?_,h⟩
  rw [eM h6,eM h8]
  cases t<;>rfl
 rcases bR h with⟨⟨⟨k,x⟩,k',y⟩,g4,h⟩|⟨_,h⟩
 ·obtain⟨h4,h5⟩:=KM g4
  clear g4
  obtain⟨h6,g2⟩:=aj h
  have h6:k=k':=(bG k k').1 h6
  clear h
  subst h6
  refine⟨_,s,?_,g2⟩
  rw [fY h4,fY h5]
  cases t<;>rfl
 ·rcases aG h with⟨rfl,h⟩|⟨rfl,h⟩
  ·exact⟨_,s,rfl,h⟩
  ·exact⟨_,s,rfl,h⟩
def KO:Sym→Option (Nat×Nat×Nat)
 | .v (.slice (some ⟨b,off,_⟩) len _)=>some (b,off,len)
 | .sl b z lo len _ _=>some (b,Nat.mul lo z,len)
 | .os b _ len=>some (b,0,len)
 |_=>none
theorem KP{x:Sym}{b off len:Nat}(h:KO x=some (b,off,len)):∃sp c,x.val= .slice (some ⟨b,off,sp⟩) len c:=by
 unfold KO at h
 split at h
 ·cases h;exact⟨_,_,rfl⟩
 ·cases h;exact⟨_,_,rfl⟩
 ·cases h;exact⟨_,_,rfl⟩
 ·cases h
def KQ:cM→Option Sym
 | .wP l _ _ _ false=>some l
 |_=>none
theorem KR{o:cM}{l:Sym}(h:KQ o=some l):∃e aA ro,o= .wP l e aA ro false:=by
 unfold KQ at h
 split at h
 ·cases h;exact⟨_,_,_,rfl⟩
 ·cases h
def KS(x:Sym)(s:ay):Option (List UInt8):=
 au (KO x) fun b off len=>andThen (andThen (s.heap.get b) KQ) fun l=>andThen (fo (.int .u8) (jL false (fun _=>none) (.int .u8)) 2000 (dK l .nil) some) fun xs=>
  iff (Nat.ble (Nat.add off len) xs.length) (some (X5 ((xs.drop off).take len))) none
theorem tG:∀xs:List (El (.int .u8)),(xs.map (ah (.int .u8))).flatten=xs.map fun x:El (.int .u8)=>Value.int .u8 (show Int from x)
 | []=>rfl
 |x::xs=>by
  show Value.int .u8 x::(xs.map (ah (.int .u8))).flatten=_
  rw [tG xs];rfl
theorem Ic{x:Sym}{s:ay}{l:List UInt8}(h:KS x s=some l):∃a n c,x.val= .slice (some a) n c∧andThen (s.g.db a.block a.off n) bytesOf=some l:=by
 obtain⟨b,off,len,h1,h⟩:=aq h
 obtain⟨ch,h2,h⟩:=aa h
 obtain⟨o,h3,h4⟩:=aa h2
 obtain⟨xs,h5,h⟩:=aa h
 obtain⟨h6,h⟩:=aj h
 cases h
 obtain⟨e,aA,ro,rfl⟩:=KR h4
 obtain⟨ys,h7,hx⟩:=iW fk (mW fk (.int .u8)) _ _ _ _ h5
 obtain rfl:ys=xs:=Option.some.inj h7
 have hx:(dK ch .nil).cells=(ys.map (ah (.int .u8))).flatten:=hx
 rw [dB]at hx
 have hx:ch.cells++[]=(ys.map (ah (.int .u8))).flatten:=hx
 rw [List.append_nil]at hx
 obtain⟨sp,c,hv⟩:=KP h1
 refine⟨_,_,_,hv,?_⟩
 have hrow:s.g.row b=some ch.cells:=by
  unfold aD.row
  rw [ay.iV,h3];rfl
 have hle:off+len≤ys.length:=Nat.le_of_ble_eq_true h6
 show andThen (andThen (s.g.row b) fun c=>sub c off len) bytesOf=_
 rw [hrow,af,hx,oy (by rw [tG,List.length_map];exact hle),af]
 have:(((ys.map (ah (.int .u8))).flatten).drop off).take len=(((ys.drop off).take len).map (ah (.int .u8))).flatten:=by
  rw [tG,tG,List.map_take,List.map_drop]
 rw [this]
 exact kX _ fun _=>rfl
def RW:TypeDesc→Bool
 | .string=>true
 |_=>false
def KT(src dst:TypeId)(x:Sym)(s:ay)(K:Sym→ay→Option R):Option R:=
 kz (andThen (desc T src) fun ds=>andThen (desc T dst) fun dd=>andThen (bL ds) fun e=>iff (and (RW dd) (qG T e)) (KS x s) none) (fun l=>K (.v (.string ⟨⟨l⟩⟩)) s) (QP T src dst x s K)
theorem Ie{src dst:TypeId}{x:Sym}{s:ay}{K:Sym→ay→Option R}{r:R}(h:KT T src dst x s K=some r):bZ (tQ T src dst x.val s.g) s K r:=by
 rcases bR h with⟨l,h1,h⟩|⟨_,h⟩
 ·obtain⟨ds,h2,h1⟩:=aa h1
  obtain⟨dd,h3,h1⟩:=aa h1
  obtain⟨e,h4,h1⟩:=aa h1
  obtain⟨h5,h1⟩:=aj h1
  rw [Bool.and_eq_true]at h5
  obtain⟨a,n,c,h6,h7⟩:=Ic h1
  refine⟨_,s,?_,h⟩
  unfold tQ
  rw [h2,af,h3,af,h6]
  obtain rfl:dd= .string:=by
   cases dd<;>first|rfl|(have h5:=h5.1;cases h5)
  show(andThen (bL ds) fun e=>iff (qG T e) (andThen (s.g.db a.block a.off n) fun cs=>andThen (bytesOf cs) fun l=>some (Value.string ⟨⟨l⟩⟩,s.g)) none)=_
  rw [h4,af,h5.2,iff_true]
  obtain⟨cs,h8,h9⟩:=aa h7
  rw [h8,af,h9,af];rfl
 ·exact Kl h
def KU(t:TypeId)(s:ay)(K:Sym→ay→Option R):Option R:=andThen (ty T t) fun i=>andThen (dY i) fun z=>RJ (ow z) s K
def Vw(x:Sym)(s:ay)(K:Sym→ay→Option R):Option R:=iff x.ok (RJ (.cons x .nil) s K) none
def X9(op:Op)(ρ:Operand→Sym)(s:ay)(K:Sym→ay→Option R):Option R:=
 match op with
 | .move x=>K (ρ x) s
 | .assign x=>K (ρ x) s
 | .pick c a b=>QT (ρ c) (ρ a) (ρ b) s K
 | .alloc t=>KU T t s K
 | .box _ x=>Vw (ρ x) s K
 | .build t ps=>D8 T t (rj ρ ps.toList) s K
 | .buildSlice t n ps=>vo T t n (rj ρ ps.toList) s K
 | .load t a=>B1 T t (ρ a) s K
 | .store t a x=>D7 T t (ρ a) (ρ x) s K
 | .nilCheck x=>Vv T op ρ (ρ x) s K
 | .binOp bo t x y _=>RO T op ρ t bo (ρ x) (ρ y) s K
 | .unOp .. =>iX T op ρ s K
 | .convert src dst x=>KT T src dst (ρ x) s K
 | .slice t x lo hi mx=>Kg T op ρ t (ρ x) (lo.map ρ) (hi.map ρ) (mx.map ρ) s K
 | .fieldAddr t x f=>ox T op ρ t (ρ x) f s K
 | .field t x f=>J9 T t (ρ x) f s K
 | .indexAddr t x i=>vv T t (ρ x) (ρ i) s K
 | .index t x i=>Ke T t (ρ x) (ρ i) s K
 | .extract x i=>Cb T op ρ (ρ x) i s K
 | .makeMap t r=>Co T t (r.map ρ) s K
 | .lookup t x i ok=>F7 T t (ρ x) (ρ i) ok s K
 | .mapUpdate t m k x=>F8 T t (ρ m) (ρ k) (ρ x) s K
 | .makeFunc .. =>iX T op ρ s K
 | .call c=>Ac T tab ρ s c.argTypes.toList (nq ρ c.args.toList) K c.callee
 |_=>none
theorem KV{op:Op}{ρ:Operand→Sym}{s:ay}{K:Sym→ay→Option R}{r:R}(h:X9 T tab op ρ s K=some r):bZ (gX T (iZ tab) op (fun o=>(ρ o).val) s.g) s K r:=by
 cases op<;>first|(cases h;done)|skip
 case move x=>exact⟨ρ x,s,rfl,h⟩
 case assign x=>exact⟨ρ x,s,rfl,h⟩
 case pick c a b=>exact KN h
 case alloc t=>
  obtain⟨i,h1,h⟩:=aa (show KU T t s K=some r from h)
  obtain⟨z,h2,h⟩:=aa h
  show bZ (andThen (ty T t) fun i=>andThen (dY i) fun z=>newVar s.g z) s K r
  rw [h1,af,h2,af,←kV z]
  exact FY h
 case box t x=>
  obtain⟨h1,h⟩:=aj (show Vw (ρ x) s K=some r from h)
  show bZ (andThen (flat (ρ x).val) (newVar s.g)) s K r
  rw [Sym.zR h1,af]
  have:=FY h
  rwa [show(Sym.cons (ρ x) .nil).cells=(ρ x).cells from List.append_nil _]at this
 case build t ps=>
  have:=HV T (show D8 T t (rj ρ ps.toList) s K=some r from h)
  rwa [vm]at this
 case buildSlice t n ps=>
  have:=B3 T (show vo T t n (rj ρ ps.toList) s K=some r from h)
  rwa [vm]at this
 case load t a=>
  obtain⟨u,h1,h2⟩:=B2 T (show B1 T t (ρ a) s K=some r from h)
  exact⟨u,s,h1,h2⟩
 case store t a x=>
  obtain⟨u,s',h1,h2⟩:=HU T (show D7 T t (ρ a) (ρ x) s K=some r from h)
  exact⟨u,s',h1,h2⟩
 case nilCheck x=>exact OM T rfl h
 case binOp bo t x y yt=>exact Ou rfl h
 case unOp=>exact eu h
 case convert src dst x=>exact Ie T h
 case slice t x lo hi mx=>exact H4 rfl h
 case fieldAddr t x f=>exact xe T rfl h
 case field t x f=>exact HW T h
 case indexAddr t x i=>exact xf T h
 case index t x i=>exact H0 T h
 case extract x i=>exact Cc rfl h
 case makeMap t ro=>exact Cr (ro:=ro) h
 case lookup t x i ok=>exact Ek h
 case mapUpdate t m k x=>exact Em h
 case makeFunc=>exact eu h
 case call c=>
  have:=Ep T tab (show Ac T tab ρ s c.argTypes.toList (nq ρ c.args.toList) K c.callee=some r from h)
  show bZ (tY c.callee T (iZ tab) (fun o=>(ρ o).val) s.g c.argTypes.toList (nq (fun o=>(ρ o).val) c.args.toList)) s K r
  rw [hO,List.map_map]at this
  rw [hO]
  exact this
end
end Go.az
namespace Go.az
def ay.Di(s:ay):ay:=⟨s.heap,s.next,s.next,s.next⟩
def KX(e:aI)(u:Sym)(d:Option Tmp):aI:= @Option.rec Tmp (fun _=>aI) e (fun d=>e.set d u) d
theorem KY(e:aI)(u:Sym)(d:Option Tmp):aI.g (KX e u d)=put (aI.g e) u.val d:=by
 cases d with
 |none=>rfl
 |some d=>exact dA (f:=fun s:Sym=>some s.val) (v:=u) (w:=u.val) rfl e d
theorem aI.Cz(e:aI)(d:Nat):(aI.g e).get d=(e.get d).map Sym.val:=by
 unfold aI.g
 rw [ko]
 cases e.get d<;>rfl
theorem ru{e:aI}{d:Nat}{b:Bool}(h:e.get d=some (.v (.bool b))):aI.g (e.set d (.v (.bool b)))=aI.g e:=by
 unfold aI.g
 rw [dA (f:=fun s:Sym=>some s.val) (v:= .v (.bool b)) (w:= .bool b) rfl]
 apply Tr.mV
 have:=aI.Cz e d
 unfold aI.g at this
 rw [this,h];rfl
def KZ(x:Sym):Option Bool:=andThen (zV x) sd
theorem Ae{x:Sym}{b:Bool}(h:KZ x=some b):x= .v (.bool b):=by
 obtain⟨v,h1,h2⟩:=aa h
 rw [eM h1,gq h2]
def Af:Sym→Bool
 | .v (.tuple ⟨[]⟩)=>true
 |_=>false
theorem Et{x:Sym}(h:Af x=true):x= .v (.tuple ⟨[]⟩):=by
 unfold Af at h
 split at h
 ·rfl
 ·cases h
section
variable {R:Type} (T:ew) (tab:List bu)
def Gf(want:Bool)(d:Nat)(e:aI)(K:Bool→aI→Option R)(x:Sym):Option R:=
 kz (KZ x) (fun b=>iff b (K (true==want) (e.set d (.v (.bool true)))) (K (false==want) (e.set d (.v (.bool false))))) (iff (Af x) (K false e) none)
def Eu(ops:List Oper)(e:aI)(g:Option (Nat×Bool))(K:Bool→aI→Option R):Option R:=
 @Option.rec (Nat×Bool) (fun _=>Option R) (K true e) (fun p=>kz (aU p.1 ops) (fun oj=>kz oj.dst (fun d=>andThen (e.get d) (Gf p.2 d e K)) (K false e)) (K false e)) g
theorem Ig{ops:List Oper}{e:aI}{g:Option (Nat×Bool)}{K:Bool→aI→Option R}{r:R}(h:Eu ops e g K=some r):∃b e',wanted ops (aI.g e) g=some b∧aI.g e'=aI.g e∧K b e'=some r:=by
 cases g with
 |none=>exact⟨true,e,rfl,rfl,h⟩
 |some p=>
  have hw:wanted ops (aI.g e) (some p)=(match aU p.1 ops with|some oj=>lT (aI.g e) p.2 oj|none=>some false):=rfl
  rcases bR (show kz (aU p.1 ops) (fun oj=>kz oj.dst (fun d=>andThen (e.get d) (Gf p.2 d e K)) (K false e)) (K false e)=some r from h)with⟨oj,h1,h⟩|⟨h1,h⟩
  ·rw [h1]at hw
   have hy:lT (aI.g e) p.2 oj=(match oj.dst with|none=>some false|some d=>andThen ((aI.g e).get d) (guardOf p.2)):=rfl
   rcases bR h with⟨d,h2,h⟩|⟨h2,h⟩
   ·obtain⟨x,h3,h⟩:=aa h
    rw [h2]at hy
    have hy:lT (aI.g e) p.2 oj=andThen ((aI.g e).get d) (guardOf p.2):=hy
    rw [aI.Cz,h3]at hy
    have hy:lT (aI.g e) p.2 oj=guardOf p.2 x.val:=hy
    have hw:wanted ops (aI.g e) (some p)=guardOf p.2 x.val:=hw.trans hy
    rcases bR h with⟨b,h4,h⟩|⟨_,h⟩
    ·obtain rfl:=Ae h4
     have hw:wanted ops (aI.g e) (some p)=some (b==p.2):=hw
     rcases aG h with⟨rfl,h⟩|⟨rfl,h⟩
     ·exact⟨_,_,hw,ru h3,h⟩
     ·exact⟨_,_,hw,ru h3,h⟩
    ·obtain⟨h4,h⟩:=aj h
     obtain rfl:=Et h4
     exact⟨false,e,hw,rfl,h⟩
   ·rw [h2]at hy
    exact⟨false,e,hw.trans hy,rfl,h⟩
  ·rw [h1]at hw
   exact⟨false,e,hw,rfl,h⟩
def Ya(bar draw:Bool)(op:Op)(ρ:Operand→Sym)(s:ay)(K:Sym→ay→Option R):Option R:=
 iff draw (X9 T tab op ρ ⟨s.heap,s.next,s.next,s.bp⟩ fun u s'=>iff (or (Nat.ble s.next s'.low) bar) (K u ⟨s'.heap,s'.next,jh s.low s'.low,s'.bp⟩) none) (X9 T tab op ρ s K)
theorem RX{bar draw:Bool}{op:Op}{ρ:Operand→Sym}{s:ay}{K:Sym→ay→Option R}{r:R}(h:Ya T tab bar draw op ρ s K=some r):bZ (ua T (iZ tab) bar draw op (fun o=>(ρ o).val) s.g) s K r:=by
 rcases aG h with⟨hd,k⟩|⟨hd,k⟩
 ·clear h
  subst hd
  obtain⟨u,s',h1,h2⟩:=KV T tab k
  obtain⟨h3,h4⟩:=aj h2
  refine⟨u,_,?_,h4⟩
  show ak (gX T (iZ tab) op (fun o=>(ρ o).val) ⟨s.g.heap,s.g.next,s.g.next,s.g.bp⟩) (fun v σ'=>iff (or (Nat.ble s.g.next σ'.low) bar) (some (v,(⟨σ'.heap,σ'.next,jh s.g.low σ'.low,σ'.bp⟩:aD))) none)=_
  rw [show(⟨s.g.heap,s.g.next,s.g.next,s.g.bp⟩:aD)=(⟨s.heap,s.next,s.next,s.bp⟩:ay).g from rfl,h1,ax]
  rw [show(or (Nat.ble s.g.next s'.g.low) bar)=true from h3,iff_true]
  rfl
 ·clear h
  subst hd
  exact KV T tab k
def K1(ops:List Oper)(bar:Nat→Bool)(draw:Bool)(K:aI→ay→Option R)(l:List Oper):Nat→aI→ay→Option R:=
 @List.rec Oper (fun _=>Nat→aI→ay→Option R) (fun _ e s=>K e s)
  (fun o _ ih i e s=>Eu ops e o.guard fun g e=>iff g (Ya T tab (bar i) draw o.op (pI e) s fun u s'=>ih (Nat.succ i) (KX e u o.dst) s') (ih (Nat.succ i) (KX e (.v undef) o.dst) s)) l
theorem K2(e:aI):(fun o=>(pI e o).val)=env (aI.g e):=funext fun o=>pJ e o
theorem Ag{ops:List Oper}{bar:Nat→Bool}{draw:Bool}{K:aI→ay→Option R}{r:R}:∀(l:List Oper)(i:Nat)(e:aI)(s:ay),K1 T tab ops bar draw K l i e s=some r→∃e' s',gT T (iZ tab) ops bar draw l i (aI.g e) s.g=some (aI.g e',s'.g)∧K e' s'=some r
 | [],i,e,s,h=>⟨e,s,rfl,h⟩
 |o::l,i,e,s,h=>by
  obtain⟨b,e1,h1,h2,h⟩:=Ig (show Eu ops e o.guard (fun g e=>iff g (Ya T tab (bar i) draw o.op (pI e) s fun u s'=>K1 T tab ops bar draw K l (i+1) (KX e u o.dst) s') (K1 T tab ops bar draw K l (i+1) (KX e (.v undef) o.dst) s))=some r from h)
  rw [jy,h1,af]
  rcases aG h with⟨rfl,h⟩|⟨rfl,h⟩
  ·obtain⟨u,s',h3,h4⟩:=RX T tab h
   rw [K2,h2]at h3
   rw [iff_true,h3,ax,←h2,←KY]
   exact Ag l (i+1) _ _ h4
  ·rw [iff_false,←h2,show undef=(Sym.v undef).val from rfl,←KY]
   exact Ag l (i+1) _ _ h
end
end Go.az
namespace Go.az
inductive bj where
 |d (t:Ty)
 |p (t:Ty)
 |own (i:Nat)
 |at(i off:Nat)
 |RY (i:Nat)
 |mp (kt vt:Ty)
 |ag (l:bj)
 |nil
 |cons (a r:bj)
def XS:bj→Type
 | .d t=>El t
 | .p t=>El t
 | .own _=>Unit
 | .at _ _=>Unit
 | .RY _=>Unit
 | .mp kt vt=>El (tz kt vt)
 | .ag l=>XS l
 | .nil=>Unit
 | .cons a r=>XS a×XS r
def K3:List (Nat×bj)→Type
 | []=>Unit
 |p::l=>XS p.2×K3 l
def QU:List (Nat×Ty×Bool)→Type
 | []=>Unit
 |p::l=>Option (List (El p.2.1))×QU l
structure Cut where
 sl:List (Nat×bj)
 gl:List (Nat×Ty×Bool)
 bl:List (Nat×bj)
 n:Nat
def Cut.X(c:Cut):Type:=K3 c.sl×QU c.gl×K3 c.bl
structure GI where
 z:Nat
 len:Nat
 nl:Bool
 nn:Bool
def aM{α:Type}(o:Option (List α)):List α:= @Option.rec (List α) (fun _=>List α) [] (fun l=>l) o
def fp{α:Type}(o:Option (List α)):Bool:= @Option.rec (List α) (fun _=>Bool) true (fun _=>false) o
def ny:(l:List (Nat×Ty×Bool))→QU l→Nat→Option GI
 | [],_,_=>none
 |p::l,x,i=>iff (Nat.beq i p.1) (some ⟨al p.2.1,(aM x.1).length,fp x.1,p.2.2⟩) (ny l x.2 i)
def vS(g:Nat→Option GI):(sh:bj)→XS sh→Sym
 | .d t=>fun x=>nK t x
 | .p t=>fun x=> .p t x
 | .own i=>fun _=> @Option.rec GI (fun _=>Sym) (.v .nilFunc) (fun q=> .mo i q.z q.len q.nl q.nn) (g i)
 | .at i off=>fun _=> .v (.pointer (some ⟨i,off,none⟩))
 | .RY i=>fun _=> .v (.map (some i))
 | .mp _ _=>fun _=> .nil
 | .ag l=>fun x=> .agg (vS g l x)
 | .nil=>fun _=> .nil
 | .cons a r=>fun x=> .cons (vS g a x.1) (vS g r x.2)
def XB(g:Nat→Option GI):(l:List (Nat×bj))→K3 l→List (Nat×Sym)
 | [],_=>[]
 |p::l,x=>(p.1,vS g p.2 x.1)::XB g l x.2
def vB(g:Nat→Option GI)(i:Nat):(sh:bj)→XS sh→cM
 | .mp kt vt=>fun x=> .mp kt vt x
 |sh=>fun x=> .wP (vS g sh x) none i false false
def Nl(g:Nat→Option GI):(l:List (Nat×bj))→K3 l→List (Nat×cM)
 | [],_=>[]
 |p::l,x=>(p.1,vB g p.1 p.2 x.1)::Nl g l x.2
def Nn:(l:List (Nat×Ty×Bool))→QU l→List (Nat×cM)
 | [],_=>[]
 |p::l,x=>(p.1,.may (fp x.1) p.2.2 (.cons (.rw p.2.1 (aM x.1)) .nil) (al p.2.1) p.1)::Nn l x.2
def jG(c:Cut)(x:c.X):aI:=xb (XB (ny c.gl x.2.1) c.sl x.1)
def dL(c:Cut)(x:c.X):ay:=⟨xb (ON (Nn c.gl x.2.1) (Nl (ny c.gl x.2.1) c.bl x.2.2)),c.n,c.n,c.n⟩
where ON (a b:List (Nat×cM)):List (Nat×cM):= @List.rec (Nat×cM) (fun _=>List (Nat×cM)) b (fun x _ ih=>x::ih) a
theorem CA{α:Type}:∀(l:List (Nat×α))(k:Nat),(xb l).get k=(l.find? (fun p=>Nat.beq p.1 k)).map (·.2)
 | [],k=>rfl
 |p::l,k=>by
  show((xb l).set p.1 p.2).get k=_
  rw [Tr.dm,CA l k,List.find?_cons]
  by_cases h:k=p.1
  ·rw [if_pos h,(beq_iff _ _).2 h.symm];rfl
  ·rw [if_neg h]
   cases hb:Nat.beq p.1 k with
   |true=>exact absurd ((beq_iff _ _).1 hb).symm h
   |false=>rfl
theorem CB{α:Type}{l:List (Nat×α)}{k:Nat}{a:α}(h:(xb l).get k=some a):(k,a)∈l:=by
 rw [CA]at h
 obtain⟨p,h1,h2⟩:=Option.map_eq_some_iff.1 h
 have h3:=List.find?_some h1
 have:p.1=k:=(beq_iff _ _).1 h3
 rw [←this,←h2]
 exact List.mem_of_find?_eq_some h1
section
variable {R:Type}
def QV:Sym→Option (Option Nat)
 | .v (.slice none _ _)=>some none
 | .v (.slice (some ⟨b,_,none⟩) _ _)=>some (some b)
 | .os b _ _=>some (some b)
 | .mo b _ _ _ _=>some (some b)
 |_=>none
def Ih:Sym→Option Nat
 | .v (.map (some b))=>some b
 |_=>none
theorem OO{s:Sym}{b:Nat}(h:Ih s=some b):s= .v (.map (some b)):=by
 unfold Ih at h
 split at h
 ·cases h;rfl
 ·cases h
def bj.Vx:bj→Bool
 | .mp _ _=>true
 |_=>false
abbrev lB:=List (Nat×Option Nat)
def numOf(i:Nat)(m:lB):Option (Option Nat):= @List.rec (Nat×Option Nat) (fun _=>Option (Option Nat)) none (fun p _ ih=>iff (Nat.beq i p.1) (some p.2) ih) m
def ry(i:Nat)(o:Option Nat)(m:lB):lB:= @Option.rec (Option Nat) (fun _=>lB) ((i,o)::m) (fun _=>m) (numOf i m)
def xh:bj→Sym→lB→(lB→Sym→Option R)→Option R
 | .d t=>fun s m K=>sI s (al t) (K m)
 | .p _=>fun s m K=>dC s fun _ r=>K m r
 | .own i=>fun s m K=>dC s fun a r=>andThen (QV a) fun o=>K (ry i o m) r
 | .at i _=>fun s m K=>dC s fun a r=>ak (s9 a) fun b _=>K (ry i (some b) m) r
 | .RY i=>fun s m K=>dC s fun a r=>andThen (Ih a) fun b=>K (ry i (some b) m) r
 | .mp _ _=>fun s m K=>K m s
 | .ag l=>xh l
 | .nil=>fun s m K=>K m s
 | .cons a b=>fun s m K=>xh a s m fun m s=>xh b s m K
def Gg:List (Nat×bj)→aI→lB→(lB→Option R)→Option R
 | [],_,m,K=>K m
 |p::l,e,m,K=>andThen (e.get p.1) fun a=>xh p.2 (dK a .nil) m fun m _=>Gg l e m K
def yf:List (Nat×bj)→ay→lB→(lB→Option R)→Option R
 | [],_,m,K=>K m
 |p::l,s,m,K=>andThen (numOf p.1 m) fun ob=>andThen ob fun b=>andThen (s.heap.get b) fun o=>iff p.2.Vx (yf l s m K) (andThen (my o) fun ch=>xh p.2 (dK ch .nil) m fun m _=>yf l s m K)
def aX(m:lB):List Nat:= @List.rec (Nat×Option Nat) (fun _=>List Nat) [] (fun p _ ih=> @Option.rec Nat (fun _=>List Nat) ih (fun b=>b::ih) p.2) m
def pX(q:GI)(ob:Option Nat):Sym→Bool
 | .os b z n=>and (and (RZ ob b) (Nat.beq z q.z)) (and (not q.nl) (Nat.beq n q.len))
 | .mo b z n nl nn=>and (and (RZ ob b) (and (Nat.beq z q.z) (nn==q.nn))) (and (nl==q.nl) (or q.nl (Nat.beq n q.len)))
 | .v (.slice none n c)=>and (and (dS n) (dS c)) (and q.nn q.nl)
 | .v (.slice (some ⟨_,_,none⟩) n c)=>and (and (dS n) (dS c)) (and (not q.nn) q.nl)
 |_=>false
where RZ (ob:Option Nat) (b:Nat):Bool:= @Option.rec Nat (fun _=>Bool) false (fun b'=>Nat.beq b b') ob
def vH(hp:Nat→Option (Bool×Bool×Sym))(g:Nat→Option GI)(m:lB)(ks:List Nat):(sh:bj)→Sym→(XS sh→Sym→Option R)→Option R
 | .d t=>jL true hp t
 | .p t=>fun s K=>dC s fun a r=>andThen (Vy t a) fun x=>K x r
 | .own i=>fun s K=>dC s fun a r=>andThen (g i) fun q=>andThen (numOf i m) fun ob=>iff (pX q ob a) (K () r) none
 | .at i off=>fun s K=>dC s fun a r=>ak (s9 a) fun b off'=>andThen (numOf i m) fun ob=>iff (and (jK i ks) (and (pX.RZ ob b) (Nat.beq off' off))) (K () r) none
 | .RY i=>fun s K=>dC s fun a r=>andThen (Ih a) fun b=>andThen (numOf i m) fun ob=>iff (and (jK i ks) (pX.RZ ob b)) (K () r) none
 | .mp _ _=>fun _ _=>none
 | .ag l=>vH hp g m ks l
 | .nil=>fun s K=>K () s
 | .cons a b=>fun s K=>vH hp g m ks a s fun x r=>vH hp g m ks b r fun y r'=>K (x,y) r'
where Vy (t:Ty):Sym→Option (El t)
 | .p t' x=>gj t' t x
 |_=>none
def bj.isAgg:bj→Bool
 | .d t=>dz t
 | .ag _=>true
 |_=>false
def bj.K8:bj→Bool
 | .mp _ _=>false
 | .nil=>false
 | .cons _ _=>false
 |_=>true
def CC(hp:Nat→Option (Bool×Bool×Sym))(g:Nat→Option GI)(m:lB)(ks:List Nat):(l:List (Nat×bj))→aI→(K3 l→Option R)→Option R
 | [],_,K=>K ()
 |p::l,e,K=>andThen (e.get p.1) fun u=>iff (and (and u.ok p.2.K8) (u.isAgg==p.2.isAgg)) (vH hp g m ks p.2 (dK u .nil) fun x r=>zX r (CC hp g m ks l e fun y=>K (x,y))) none
def R0(hp:Nat→Option (Bool×Bool×Sym))(g:Nat→Option GI)(m:lB)(ks:List Nat)(o:cM):(sh:bj)→(XS sh→Option R)→Option R
 | .mp kt vt=>fun K=>match o with
  | .mp kt' vt' x=>andThen (gj (tz kt' vt') (tz kt vt) x) K
  |_=>none
 |sh=>fun K=>au (vj o) fun ch e _=>iff e.isNone (vH hp g m ks sh (dK ch .nil) fun x r=>zX r (K x)) none
def CD(hp:Nat→Option (Bool×Bool×Sym))(g:Nat→Option GI)(m:lB)(ks:List Nat):(l:List (Nat×bj))→ay→(K3 l→Option R)→Option R
 | [],_,K=>K ()
 |p::l,s,K=>andThen (numOf p.1 m) fun ob=>andThen ob fun b=>andThen (s.heap.get b) fun o=>R0 hp g m ks o p.2 fun x=>CD hp g m ks l s fun y=>K (x,y)
def Gh(hp:Nat→Option (Bool×Bool×Sym))(t:Ty)(ch:Sym)(K:List (El t)→Option R):Option R:=iff (dS (al t)) none (fo t (jL true hp t) 2000 (dK ch .nil) K)
def Gi(hp:Nat→Option (Bool×Bool×Sym))(t:Ty)(nn:Bool)(K:Option (List (El t))→Option R)(o:cM):Option R:=
 kz (vj o) (fun q=> @Option.rec Nat (fun _=>Option R) (iff (and (not nn) (dS q.1.size)) (K none) none) (fun z=>iff (Nat.beq z (al t)) (Gh hp t q.1 fun xs=>K (some xs)) none) q.2.1) <|
 kz (RQ o) (fun q=>iff (and (Nat.beq q.2.2.2.1 (al t)) (q.2.1==nn)) (Gh hp t q.2.2.1 fun xs=>K (iff q.1 none (some xs))) none) none
def pY(hp:Nat→Option (Bool×Bool×Sym))(m:lB):(l:List (Nat×Ty×Bool))→ay→(QU l→Option R)→Option R
 | [],_,K=>K ()
 |p::l,s,K=>andThen (numOf p.1 m) fun ob=> @Option.rec Nat (fun _=>Option R) (iff p.2.2 (pY hp m l s fun y=>K (none,y)) none) (fun b=>andThen (s.heap.get b) (Gi hp p.2.1 p.2.2 fun x=>pY hp m l s fun y=>K (x,y))) ob
def bY(used:List Nat)(s:ay)(b:Nat):Option (Bool×Bool×Sym):=iff (jK b used) none (andThen (s.heap.get b) K9)
where K9:cM→Option (Bool×Bool×Sym)
 | .wP l _ _ false false=>some (false,false,l)
 | .may nl nn l _ _=>some (nl,nn,l)
 |_=>none
def Ah(c:Cut):List Nat:=c.gl.map (·.1)++c.bl.map (·.1)
def QW(c:Cut):Bool:=and (gh (Ah c)) (J0 c.n (Ah c))
def vJ(c:Cut)(e:aI)(s:ay)(K:c.X→Option R):Option R:=
 iff (QW c) (Gg c.sl e [] fun m=>yf c.bl s m fun m=>iff (gh (aX m)) (pY (bY (aX m) s) m c.gl s fun y=>CC (bY (aX m) s) (ny c.gl y) m (c.bl.map (·.1)) c.sl e fun x=>CD (bY (aX m) s) (ny c.gl y) m (c.bl.map (·.1)) c.bl s fun z=>K (x,y,z)) none) none
end
end Go.az
namespace Go.az
structure R1(s:ay)(used:List Nat)(ι:Ren):Prop where
 dt:ι.dt=true
 zI:ι.zI=true
 fz:∀b,ι.fz b=iff (jK b used) none (ownRow s.g b)
structure Ev(s:ay)(m:lB)(g:Nat→Option GI)(ks:List Nat)(ι:Ren):Prop where
 base:R1 s (aX m) ι
 own:∀i q b,g i=some q→q.nl=false→numOf i m=some (some b)→ι.loc i=some (b,0)
 at_:∀i b,jK i ks=true→numOf i m=some (some b)→ι.loc i=some (b,0)
theorem Gj{I:Ren→Prop}{nl:Bool}{hp:Nat→Option (Bool×Bool×Sym)}(h:∀ι,I ι→mu (bX ι) nl hp):mu (fun a b=>∀ι,I ι→bX ι a b) nl hp where
 nil:=fun _ _=> .nil
 app:=fun h1 h2 ι hi=>(h1 ι hi).append (h2 ι hi)
 self:=fun t x ι hi=>(h ι hi).self t x
 none:=fun hn t c ι hi=>(h ι hi).none hn t c
 own:=fun b nn ch t xs sp c h1 h2 ι hi=>(h ι hi).own b nn ch t xs sp c h1 (h2 ι hi)
 B0:=fun b nn ch t xs sp c off h1 h2 ι hi=>(h ι hi).B0 b nn ch t xs sp c off h1 h2
 mo:=fun hn b n nn ch t xs z len q h1 h2 h3 ι hi=>(h ι hi).mo hn b n nn ch t xs z len q h1 h2 fun hq=>⟨(h3 hq).1,(h3 hq).2.1,(h3 hq).2.2 ι hi⟩
theorem CE{used:List Nat}{s:ay}{b:Nat}{n nn:Bool}{ch:Sym}(h:bY used s b=some (n,nn,ch)):jK b used=false∧(n=false→ownRow s.g b=some ch.cells)∧(n=true→nn=false→ownRow s.g b=some []):=by
 rcases aG h with⟨_,h⟩|⟨hm,h⟩
 ·cases h
 refine⟨hm,?_⟩
 obtain⟨o,h1,h2⟩:=aa h
 unfold ownRow
 rw [ay.iV,h1]
 unfold bY.K9 at h2
 split at h2
 ·cases h2;exact⟨fun _=>rfl,fun h=>by cases h⟩
 ·cases h2
  refine⟨fun hn=>?_,fun hn hnn=>?_⟩
  ·subst hn;rfl
  ·subst hn;subst hnn;rfl
 ·cases h2
theorem R1.Zu{s:ay}{used:List Nat}{ι:Ren}(h:R1 s used ι):mu (bX ι) true (bY used s):=tB h.dt (fun _=>h.zI) fun b n nn ch hp=>by
 obtain⟨h1,h2,h3⟩:=CE hp
 refine⟨h.zI,fun hn=>?_,fun hn hnn=>?_⟩
 ·rw [h.fz,h1,iff_false];exact h2 hn
 ·rw [h.fz,h1,iff_false];exact h3 hn hnn
section
variable {R:Type} {s:ay} {m:lB}
theorem Ai{ob:Option Nat}{b:Nat}(h:pX.RZ ob b=true):ob=some b:=by
 cases ob with
 |none=>cases h
 |some b'=>rw [show b=b' from(beq_iff _ _).1 h]
theorem R2{g:Nat→Option GI}{ks:List Nat}{ι:Ren}(hι:Ev s m g ks ι){i:Nat}{q:GI}{ob:Option Nat}{a:Sym}(hq:g i=some q)(hm:numOf i m=some ob)(h:pX q ob a=true):bX ι [(Sym.mo i q.z q.len q.nl q.nn).val] a.cells:=by
 obtain⟨z,len,nl,nn⟩:=q
 show bX ι [Nj i z len nl nn] a.cells
 unfold pX at h
 split at h
 ·simp only [Bool.and_eq_true,beq_iff,Bool.not_eq_true']at h
  obtain⟨⟨h1,rfl⟩,rfl,rfl⟩:=h
  obtain rfl:=Ai h1
  have hl:=hι.own i _ _ hq rfl hm
  exact .fX (.sl _ _ hl rfl)
 ·rename_i b z' n nl' nn'
  simp only [Bool.and_eq_true,beq_iff,beq_iff_eq,Bool.or_eq_true]at h
  obtain⟨⟨h1,rfl,rfl⟩,rfl,h2⟩:=h
  obtain rfl:=Ai h1
  show bX ι [Nj i z' len nl' nn'] [Nj b z' n nl' nn']
  cases nl' with
  |true=>
   cases nn' with
   |true=>exact .fX (.sl0 0 0)
   |false=>exact .fX (.slz _ _ rfl rfl)
  |false=>
   have hl:=hι.own i _ _ hq rfl hm
   rcases h2 with h2|rfl
   ·cases h2
   ·exact .fX (.sl _ _ hl rfl)
 ·simp only [Bool.and_eq_true,Tr.bz]at h
  obtain⟨⟨rfl,rfl⟩,rfl,rfl⟩:=h
  exact .fX (.sl0 0 0)
 ·simp only [Bool.and_eq_true,Tr.bz,Bool.not_eq_true']at h
  obtain⟨⟨rfl,rfl⟩,rfl,rfl⟩:=h
  exact .fX (.slz _ _ rfl rfl)
 ·cases h
def Yb(s:ay)(m:lB)(g:Nat→Option GI)(ks:List Nat)(a b:List Value):Prop:=∀ι,Ev s m g ks ι→bX ι a b
theorem OP{g:Nat→Option GI}{ks:List Nat}:mu (Yb s m g ks) true (bY (aX m) s):=Gj fun _ hi=>hi.base.Zu
theorem Gk{g:Nat→Option GI}{ks:List Nat}:∀(sh:bj)(u:Sym)(K:XS sh→Sym→Option R)(r:R),vH (bY (aX m) s) g m ks sh u K=some r→∃x u' c,K x u'=some r∧u.cells=c++u'.cells∧Yb s m g ks (vS g sh x).cells c:=by
 intro sh
 induction sh with
 |d t=>
  intro u K r h
  obtain⟨y,s',c,h1,h2,h3⟩:=mW OP t _ _ _ (show jL true (bY (aX m) s) t u K=some r from h)
  refine⟨y,s',c,h1,h2,?_⟩
  show Yb s m g ks (nK t y).cells c
  rw [eR];exact h3
 |p t=>
  intro u K r h
  obtain⟨a,s',hs,h⟩:=dD (show dC u (fun a r=>andThen (vH.Vy t a) fun x=>K x r)=some r from h)
  obtain⟨x,h1,h⟩:=aa h
  refine⟨x,s',a.cells,h,by rw [hs];rfl,fun ι hi=>?_⟩
  cases a<;>first|(cases h1;done)|skip
  rename_i t' y
  have:=(u9 (show gj t' t y=some x from h1)).1
  show bX ι [fv (ah t x)] [fv (ah t' y)]
  rw [this]
  exact .fX (.dataP _ hi.base.dt)
 |own i=>
  intro u K r h
  obtain⟨a,s',hs,h⟩:=dD (show dC u (fun a r=>andThen (g i) fun q=>andThen (numOf i m) fun ob=>iff (pX q ob a) (K () r) none)=some r from h)
  obtain⟨q,h1,h⟩:=aa h
  obtain⟨ob,h2,h⟩:=aa h
  obtain⟨h3,h⟩:=aj h
  refine⟨(),s',a.cells,h,by rw [hs];rfl,fun ι hi=>?_⟩
  have:(vS g (.own i) ()).cells=[(Sym.mo i q.z q.len q.nl q.nn).val]:=by
   show(@Option.rec GI (fun _=>Sym) (.v .nilFunc) (fun q=> .mo i q.z q.len q.nl q.nn) (g i):Sym).cells=_
   rw [h1];rfl
  rw [this]
  exact R2 hi h1 h2 h3
 | «at» i off=>
  intro u K r h
  obtain⟨a,s',hs,h⟩:=dD (show dC u (fun a r=>ak (s9 a) fun b off'=>andThen (numOf i m) fun ob=>iff (and (jK i ks) (and (pX.RZ ob b) (Nat.beq off' off))) (K () r) none)=some r from h)
  obtain⟨b,off',h1,k1⟩:=ae h
  obtain⟨ob,h2,k2⟩:=aa k1
  obtain⟨h3,k3⟩:=aj k2
  clear h k1 k2
  simp only [Bool.and_eq_true,beq_iff]at h3
  obtain⟨h3,h4,rfl⟩:=h3
  obtain rfl:=Ai h4
  refine⟨(),s',a.cells,k3,by rw [hs];rfl,fun ι hi=>?_⟩
  rw [pN h1]
  exact .fX (.ptr (hi.at_ i b h3 h2) (Nat.zero_add _).symm)
 |RY i=>
  intro u K r h
  obtain⟨a,s',hs,h⟩:=dD (show dC u (fun a r=>andThen (Ih a) fun b=>andThen (numOf i m) fun ob=>iff (and (jK i ks) (pX.RZ ob b)) (K () r) none)=some r from h)
  obtain⟨b,h1,k1⟩:=aa h
  obtain⟨ob,h2,k2⟩:=aa k1
  obtain⟨h3,k3⟩:=aj k2
  clear h k1 k2
  simp only [Bool.and_eq_true]at h3
  obtain⟨h3,h4⟩:=h3
  obtain rfl:=Ai h4
  refine⟨(),s',a.cells,k3,by rw [hs];rfl,fun ι hi=>?_⟩
  rw [OO h1]
  exact .fX (.map (hi.at_ i b h3 h2))
 |mp kt vt=>intro u K r h;cases h
 |ag l ih=>
  intro u K r h
  exact ih u K r h
 |nil=>intro u K r h;exact⟨(),u,[],h,rfl,fun ι _=> .nil⟩
 |cons a b iha ihb=>
  intro u K r h
  obtain⟨x,s1,c1,h1,h2,h3⟩:=iha _ _ _ (show vH (bY (aX m) s) g m ks a u (fun x r=>vH (bY (aX m) s) g m ks b r fun y r'=>K (x,y) r')=some r from h)
  obtain⟨y,s2,c2,h4,h5,h6⟩:=ihb _ _ _ h1
  refine⟨(x,y),s2,c1++c2,h4,by rw [h2,h5,List.append_assoc],fun ι hi=>?_⟩
  exact(h3 ι hi).append (h6 ι hi)
theorem Lc{g:Nat→Option GI}:∀(sh:bj)(x:XS sh),sh.K8=true→(vS g sh x).ok=true∧(vS g sh x).isAgg=sh.isAgg
 | .d t,x,_=>⟨DY t x,zS t x⟩
 | .p t,x,_=>⟨rfl,rfl⟩
 | .own i,x,_=>by
  show(@Option.rec GI (fun _=>Sym) (.v .nilFunc) (fun q=> .mo i q.z q.len q.nl q.nn) (g i):Sym).ok=true∧(@Option.rec GI (fun _=>Sym) (.v .nilFunc) (fun q=> .mo i q.z q.len q.nl q.nn) (g i):Sym).isAgg=false
  cases g i<;>exact⟨rfl,rfl⟩
 | .at i off,x,_=>⟨rfl,rfl⟩
 | .RY i,x,_=>⟨rfl,rfl⟩
 | .mp _ _,x,h=>by cases h
 | .ag l,x,_=>⟨rfl,rfl⟩
 | .nil,x,h=>by cases h
 | .cons _ _,x,h=>by cases h
theorem CF{g:Nat→Option GI}{ks:List Nat}{e:aI}:∀(l:List (Nat×bj))(K:K3 l→Option R)(r:R),CC (bY (aX m) s) g m ks l e K=some r→
  ∃x,K x=some r∧∀p∈XB g l x,∃u,e.get p.1=some u∧∀ι,Ev s m g ks ι→VA ι p.2.val u.val
 | [],K,r,h=>⟨(),h,fun p hp=>by cases hp⟩
 |q::l,K,r,h=>by
  obtain⟨u,h1,h⟩:=aa (show(andThen (e.get q.1) fun u=>iff (and (and u.ok q.2.K8) (u.isAgg==q.2.isAgg)) (vH (bY (aX m) s) g m ks q.2 (dK u .nil) fun x r=>zX r (CC (bY (aX m) s) g m ks l e fun y=>K (x,y))) none)=some r from h)
  obtain⟨h2,h⟩:=aj h
  simp only [Bool.and_eq_true,beq_iff_eq]at h2
  obtain⟨⟨hok,hone⟩,hag⟩:=h2
  obtain⟨x,u',c,h3,h4,h5⟩:=Gk _ _ _ _ h
  obtain⟨rfl,h3⟩:=tC h3
  obtain⟨y,h6,h7⟩:=CF l _ r h3
  rw [dB]at h4
  have h4:u.cells++[]=c++[]:=h4
  rw [List.append_nil,List.append_nil]at h4
  subst h4
  refine⟨(x,y),h6,fun p hp=>?_⟩
  rcases List.mem_cons.1 (show p∈(q.1,vS g q.2 x)::XB g l y from hp)with rfl|hp
  ·refine⟨u,h1,fun ι hi=>?_⟩
   obtain⟨g1,g2⟩:=Lc (g:=g) q.2 x hone
   have hv:=h5 ι hi
   show VA ι (vS g q.2 x).val u.val
   cases ha:q.2.isAgg with
   |true=>
    rw [Sym.gH (g2.trans ha),Sym.gH (hag.trans ha)]
    exact hv.agg
   |false=>
    rw [Sym.mT g1 (g2.trans ha),Sym.mT hok (hag.trans ha)]at hv
    exact hv.2 0 _ _ rfl rfl
  ·exact h7 p hp
theorem Aj{ι:Ren}{k aA:Nat}{e:Option Nat}{c c':List Value}(h:bX ι c c'):jl ι k 0 (.cells c e k false false) (.cells c' e aA false false):=by
 refine⟨rfl,rfl,rfl,rfl,by rw [h.1];omega,?_,fun _=>⟨rfl,rfl,h.1⟩⟩
 rw [List.drop_zero,h.1,List.take_length]
 exact h
theorem Gl{ι:Ren}(hd:ι.dt=true)(t:Ty)(x:El t):VA ι (aT t x) (aT t x):=by
 have h:=bX.closed hd (ca t x)
 unfold aT
 cases ha:dz t with
 |true=>rw [if_pos rfl];exact h.agg
 |false=>
  rw [if_neg (by decide)]
  rw [bI ha]at h
  exact h.2 0 _ _ rfl rfl
theorem OQ{g:Nat→Option GI}{i:Nat}:∀(sh:bj)(x:XS sh),∃o,(vB g i sh x).g=some o:=by
 intro sh x;cases sh<;>exact⟨_,rfl⟩
theorem Ii{ι:Ren}(kt vt:Ty)(x:El (tz kt vt))(hd:ι.dt=true):JT ι (kp kt vt x) (kp kt vt x):=⟨rfl,fun i e e' h1 h2=>by
 rw [h1]at h2
 cases h2
 obtain⟨y,_,rfl⟩:=List.mem_map.1 (List.mem_of_getElem? h1)
 exact⟨Gl hd kt y.1,Gl hd vt y.2.1,rfl⟩⟩
theorem OR{g:Nat→Option GI}{ks:List Nat}{b:Nat}{o:cM}(h2:s.heap.get b=some o):∀(sh:bj)(i:Nat)(K:XS sh→Option R)(r:R),R0 (bY (aX m) s) g m ks o sh K=some r→
  ∃x,K x=some r∧∃o',s.g.obj b=some o'∧∀w,(vB g i sh x).g=some w→∀ι,Ev s m g ks ι→jl ι i 0 w o':=by
 intro sh i K r h
 have rest:(au (vj o) fun ch e _=>iff e.isNone (vH (bY (aX m) s) g m ks sh (dK ch .nil) fun x r=>zX r (K x)) none)=some r→(∀x,vB g i sh x= .wP (vS g sh x) none i false false)→
   ∃x,K x=some r∧∃o',s.g.obj b=some o'∧∀w,(vB g i sh x).g=some w→∀ι,Ev s m g ks ι→jl ι i 0 w o':=fun k2 hv=>by
  obtain⟨ch,e,aA,h3,k3⟩:=aq k2
  obtain⟨he,k4⟩:=aj k3
  clear k2 k3
  obtain rfl:e=none:=by cases e with|none=>rfl|some z=>cases he
  obtain⟨x,u',c,h4,h5,h6⟩:=Gk _ _ _ _ k4
  obtain⟨hu,k5⟩:=tC h4
  subst hu
  rw [dB]at h5
  have h5:ch.cells++[]=c++[]:=h5
  rw [List.append_nil,List.append_nil]at h5
  subst h5
  refine⟨x,k5,_,z7 h2 h3,fun w hw ι hi=>?_⟩
  rw [hv]at hw
  cases hw
  exact Aj (h6 ι hi)
 cases sh with
 |mp kt vt=>
  cases o with
  |mp kt' vt' x=>
   obtain⟨y,h3,h4⟩:=aa (show andThen (gj (tz kt' vt') (tz kt vt) x) K=some r from h)
   obtain⟨h5,h6⟩:=Cq h3
   refine⟨y,h4,_,by rw [ay.iV,h2];rfl,fun w hw ι hi=>?_⟩
   cases (show some (aN.map (kp kt vt y) (Int.toNat y.2))=some w from hw)
   rw [h5,h6]
   exact⟨rfl,rfl,Ii _ _ _ hi.base.dt⟩
  |_=>cases h
 |_=>exact rest h fun _=>rfl
theorem CG{g:Nat→Option GI}{ks:List Nat}:∀(l:List (Nat×bj))(K:K3 l→Option R)(r:R),CD (bY (aX m) s) g m ks l s K=some r→
  ∃x,K x=some r∧∀p∈Nl g l x,∃b o',numOf p.1 m=some (some b)∧s.g.obj b=some o'∧∀o,p.2.g=some o→∀ι,Ev s m g ks ι→jl ι p.1 0 o o'
 | [],K,r,h=>⟨(),h,fun p hp=>by cases hp⟩
 |q::l,K,r,h=>by
  obtain⟨ob,h1,h⟩:=aa (show(andThen (numOf q.1 m) fun ob=>andThen ob fun b=>andThen (s.heap.get b) fun o=>R0 (bY (aX m) s) g m ks o q.2 fun x=>CD (bY (aX m) s) g m ks l s fun y=>K (x,y))=some r from h)
  obtain⟨b,hob,k1⟩:=aa h
  obtain⟨o,h2,k2⟩:=aa k1
  clear h k1
  subst hob
  obtain⟨x,k5,o',g1,g2⟩:=OR h2 q.2 q.1 _ _ k2
  obtain⟨y,h7,h8⟩:=CG l _ r k5
  refine⟨(x,y),h7,fun p hp=>?_⟩
  rcases List.mem_cons.1 (show p∈(q.1,vB g q.1 q.2 x)::Nl g l y from hp)with rfl|hp
  ·exact⟨b,o',h1,g1,g2⟩
  ·exact h8 p hp
def XC(s:ay)(used:List Nat)(a b:List Value):Prop:=∀ι,R1 s used ι→bX ι a b
theorem Gm{used:List Nat}:mu (XC s used) true (bY used s):=Gj fun _ hi=>hi.Zu
theorem CH{used:List Nat}{t:Ty}{ch:Sym}{K:List (El t)→Option R}{r:R}(h:Gh (bY used s) t ch K=some r):∃xs,K xs=some r∧XC s used (xs.map (ah t)).flatten ch.cells:=by
 rcases aG h with⟨_,h⟩|⟨_,h⟩
 ·cases h
 obtain⟨xs,h1,h2⟩:=iW Gm (mW Gm t) _ _ _ _ h
 rw [dB]at h2
 have h2:XC s used (xs.map (ah t)).flatten (ch.cells++[]):=h2
 rw [List.append_nil]at h2
 exact⟨xs,h1,h2⟩
def CI(i:Nat)(t:Ty)(nn:Bool)(x:Option (List (El t))):cM:= .may (fp x) nn (.cons (.rw t (aM x)) .nil) (al t) i
theorem yg{ι:Ren}{i aA:Nat}{t:Ty}{nn:Bool}{xs:List (El t)}{c:List Value}{o:aN}(h:bX ι (xs.map (ah t)).flatten c)(ho:(CI i t nn (some xs)).g=some o):jl ι i 0 o (.cells c (some (al t)) aA false false):=by
 have ho:some (aN.cells ((xs.map (ah t)).flatten++[]) (some (al t)) i false false)=some o:=ho
 cases ho
 rw [List.append_nil]
 exact Aj h
theorem yh{ι:Ren}{i aA:Nat}{t:Ty}{o:aN}(ho:(CI i t false none).g=some o):jl ι i 0 o (.cells [] none aA false false):=by
 cases (show some (aN.cells [] none i false false)=some o from ho)
 exact Aj .nil
theorem Ld{used:List Nat}{i b:Nat}{t:Ty}{nn:Bool}{o:cM}{K:Option (List (El t))→Option R}{r:R}(hb:s.heap.get b=some o)(h:Gi (bY used s) t nn K o=some r):
  ∃x,K x=some r∧∀w,(CI i t nn x).g=some w→∃o',s.g.obj b=some o'∧∀ι,R1 s used ι→jl ι i 0 w o':=by
 rcases bR h with⟨⟨ch,e,aA⟩,h1,h⟩|⟨_,h⟩
 ·have ho:=z7 hb h1
  cases e with
  |none=>
   obtain⟨h2,k⟩:=aj (show iff (and (not nn) (dS ch.size)) (K none) none=some r from h)
   clear h
   rw [Bool.and_eq_true,Tr.bz,Bool.not_eq_true']at h2
   obtain⟨rfl,h2⟩:=h2
   refine⟨none,k,fun w hw=>⟨_,ho,fun ι _=>?_⟩⟩
   have:ch.cells=[]:=List.eq_nil_of_length_eq_zero (by rw [Sym.size_eq];exact h2)
   rw [this]
   exact yh hw
  |some z=>
   obtain⟨h2,k⟩:=aj (show iff (Nat.beq z (al t)) (Gh (bY used s) t ch fun xs=>K (some xs)) none=some r from h)
   clear h
   rw [beq_iff]at h2
   subst h2
   obtain⟨xs,h3,h4⟩:=CH k
   exact⟨_,h3,fun w hw=>⟨_,ho,fun ι hi=>yg (h4 ι hi) hw⟩⟩
 rcases bR h with⟨⟨nl,nn',ch,z,aA⟩,h1,h⟩|⟨_,h⟩
 ·obtain⟨h2,k⟩:=aj h
  clear h
  rw [Bool.and_eq_true,beq_iff,beq_iff_eq]at h2
  obtain⟨h2,h3⟩:=h2
  have h2:z=al t:=h2
  have h3:nn'=nn:=h3
  subst h2;subst h3
  obtain⟨xs,h3,h4⟩:=CH k
  have h4:XC s used (xs.map (ah t)).flatten ch.cells:=h4
  refine⟨_,h3,fun w hw=>?_⟩
  have ho:s.g.obj b=cM.g (.may nl nn' ch (al t) aA):=by rw [ay.iV,hb,F2 h1];rfl
  cases nl with
  |true=>
   have hw:(CI i t nn' (none:Option (List (El t)))).g=some w:=hw
   cases nn' with
   |true=>cases hw
   |false=>exact⟨_,ho,fun ι _=>yh hw⟩
  |false=>
   have hw:(CI i t nn' (some xs)).g=some w:=hw
   exact⟨_,ho,fun ι hi=>yg (h4 ι hi) hw⟩
 ·cases h
theorem vL:∀(l:List (Nat×Ty×Bool))(K:QU l→Option R)(r:R),pY (bY (aX m) s) m l s K=some r→
  ∃x,K x=some r∧∀p∈Nn l x,∀w,p.2.g=some w→∃b o',numOf p.1 m=some (some b)∧s.g.obj b=some o'∧∀ι,R1 s (aX m) ι→jl ι p.1 0 w o'
 | [],K,r,h=>⟨(),h,fun p hp=>by cases hp⟩
 |q::l,K,r,h=>by
  obtain⟨ob,h1,h⟩:=aa (show(andThen (numOf q.1 m) fun ob=> @Option.rec Nat (fun _=>Option R) (iff q.2.2 (pY (bY (aX m) s) m l s fun y=>K (none,y)) none) (fun b=>andThen (s.heap.get b) (Gi (bY (aX m) s) q.2.1 q.2.2 fun x=>pY (bY (aX m) s) m l s fun y=>K (x,y))) ob)=some r from h)
  cases ob with
  |none=>
   obtain⟨h2,h⟩:=aj (show iff q.2.2 (pY (bY (aX m) s) m l s fun y=>K (none,y)) none=some r from h)
   obtain⟨y,h3,h4⟩:=vL l _ r h
   refine⟨(none,y),h3,fun p hp w hw=>?_⟩
   rcases List.mem_cons.1 (show p∈(q.1,CI q.1 q.2.1 q.2.2 none)::Nn l y from hp)with rfl|hp
   ·have hw:(CI q.1 q.2.1 q.2.2 none).g=some w:=hw
    rw [h2]at hw
    cases hw
   ·exact h4 p hp w hw
  |some b=>
   obtain⟨o,h2,h⟩:=aa (show andThen (s.heap.get b) (Gi (bY (aX m) s) q.2.1 q.2.2 fun x=>pY (bY (aX m) s) m l s fun y=>K (x,y))=some r from h)
   obtain⟨x,h3,h4⟩:=Ld (i:=q.1) h2 h
   obtain⟨y,h5,h6⟩:=vL l _ r h3
   refine⟨(x,y),h5,fun p hp w hw=>?_⟩
   rcases List.mem_cons.1 (show p∈(q.1,CI q.1 q.2.1 q.2.2 x)::Nn l y from hp)with rfl|hp
   ·obtain⟨o',g1,g2⟩:=h4 w hw
    exact⟨b,o',h1,g1,g2⟩
   ·exact h6 p hp w hw
theorem Gn:∀a b:List (Nat×cM),dL.ON a b=a++b
 | [],b=>rfl
 |x::a,b=>by
  show x::dL.ON a b=_
  rw [Gn a b];rfl
theorem CJ:∀(l:List (Nat×Ty×Bool))(x:QU l),(Nn l x).map (·.1)=l.map (·.1)
 | [],_=>rfl
 |p::l,x=>by
  show p.1::(Nn l x.2).map (·.1)=_
  rw [CJ l x.2];rfl
theorem vN{g:Nat→Option GI}:∀(l:List (Nat×bj))(x:K3 l),(Nl g l x).map (·.1)=l.map (·.1)
 | [],_=>rfl
 |p::l,x=>by
  show p.1::(Nl g l x.2).map (·.1)=_
  rw [vN l x.2];rfl
theorem Ij{α:Type}{l:List (Nat×α)}(hn:gh (l.map (·.1))=true){k:Nat}{a:α}(h:(k,a)∈l):(xb l).get k=some a:=by
 induction l with
 |nil=>cases h
 |cons p l ih=>
  have hn:(not ((l.map (·.1)).contains p.1)&&gh (l.map (·.1)))=true:=hn
  simp only [Bool.and_eq_true,Bool.not_eq_true',List.contains_eq_mem,decide_eq_false_iff_not]at hn
  show((xb l).set p.1 p.2).get k=_
  rw [Tr.dm]
  rcases List.mem_cons.1 h with h|h
  ·rw [←h,if_pos rfl]
  ·rw [if_neg fun hk=>hn.1 (List.mem_map.2 ⟨_,h,hk⟩)]
   exact ih hn.2 h
theorem Le:∀(l:List (Nat×Ty×Bool))(x:QU l){i:Nat}{q:GI},ny l x i=some q→∃nl nn ch z,(i,cM.may nl nn ch z i)∈Nn l x∧q.nl=nl
 | [],_,i,q,h=>by cases h
 |p::l,x,i,q,h=>by
  rcases aG (show iff (Nat.beq i p.1) (some ⟨al p.2.1,(aM x.1).length,fp x.1,p.2.2⟩) (ny l x.2 i)=some q from h)with⟨h1,h⟩|⟨_,h⟩
  ·cases h
   obtain rfl:=(beq_iff _ _).1 h1
   exact⟨_,_,_,_,List.mem_cons_self ..,rfl⟩
  ·obtain⟨nl,nn,ch,z,h1,h2⟩:=Le l x.2 h
   exact⟨nl,nn,ch,z,List.mem_cons_of_mem _ h1,h2⟩
theorem pZ:∀{m:lB}{i b:Nat},numOf i m=some (some b)→b∈aX m
 | [],i,b,h=>by cases h
 |p::m,i,b,h=>by
  rcases aG (show iff (Nat.beq i p.1) (some p.2) (numOf i m)=some (some b)from h)with⟨_,h⟩|⟨_,h⟩
  ·have h:p.2=some b:=Option.some.inj h
   show b∈ @Option.rec Nat (fun _=>List Nat) (aX m) (fun b=>b::aX m) p.2
   rw [h]
   exact List.mem_cons_self ..
  ·have:=pZ (m:=m) h
   show b∈ @Option.rec Nat (fun _=>List Nat) (aX m) (fun b=>b::aX m) p.2
   cases p.2 with
   |none=>exact this
   |some c=>exact List.mem_cons_of_mem _ this
theorem CK:∀{m:lB}{i j b:Nat},gh (aX m)=true→numOf i m=some (some b)→numOf j m=some (some b)→i=j
 | [],i,j,b,_,h,_=>by cases h
 |p::m,i,j,b,hn,h,h'=>by
  have hu:aX (p::m)= @Option.rec Nat (fun _=>List Nat) (aX m) (fun b=>b::aX m) p.2:=rfl
  have htail:gh (aX m)=true:=by
   rw [hu]at hn
   cases hp:p.2 with
   |none=>rw [hp]at hn;exact hn
   |some c=>
    rw [hp]at hn
    have hn:(not ((aX m).contains c)&&gh (aX m))=true:=hn
    rw [Bool.and_eq_true]at hn
    exact hn.2
  have hout:p.2=some b→¬b∈aX m:=fun hp=>by
   rw [hu,hp]at hn
   have hn:(not ((aX m).contains b)&&gh (aX m))=true:=hn
   simp only [Bool.and_eq_true,Bool.not_eq_true',List.contains_eq_mem,decide_eq_false_iff_not]at hn
   exact hn.1
  rcases aG (show iff (Nat.beq i p.1) (some p.2) (numOf i m)=some (some b)from h)with⟨h1,h⟩|⟨h1,h⟩
  ·rcases aG (show iff (Nat.beq j p.1) (some p.2) (numOf j m)=some (some b)from h')with⟨h2,_⟩|⟨_,h'⟩
   ·rw [(beq_iff _ _).1 h1,(beq_iff _ _).1 h2]
   ·exact absurd (pZ h') (hout (Option.some.inj h))
  ·rcases aG (show iff (Nat.beq j p.1) (some p.2) (numOf j m)=some (some b)from h')with⟨_,h'⟩|⟨_,h'⟩
   ·exact absurd (pZ h) (hout (Option.some.inj h'))
   ·exact CK htail h h'
theorem yi{c:Cut}{e:aI}{s:ay}{K:c.X→Option R}{r:R}(h:vJ c e s K=some r):∃x,K x=some r∧∃ι,Match (fun _=>false) fg ι (aI.g e) s.g (aI.g (jG c x)) (dL c x).g:=by
 obtain⟨hc,h⟩:=aj h
 have key:∀m,iff (gh (aX m)) (pY (bY (aX m) s) m c.gl s fun y=>CC (bY (aX m) s) (ny c.gl y) m (c.bl.map (·.1)) c.sl e fun x=>CD (bY (aX m) s) (ny c.gl y) m (c.bl.map (·.1)) c.bl s fun z=>K (x,y,z)) none=some r→
   ∃x,K x=some r∧∃ι,Match (fun _=>false) fg ι (aI.g e) s.g (aI.g (jG c x)) (dL c x).g:=by
  clear h
  intro m h
  obtain⟨hn,h⟩:=aj h
  obtain⟨y,h,hG⟩:=vL _ _ _ h
  obtain⟨x,h,hX⟩:=CF _ _ _ h
  obtain⟨z,h,hB⟩:=CG _ _ _ h
  refine⟨(x,y,z),h,?_⟩
  let L:=Nn c.gl y++Nl (ny c.gl y) c.bl z
  have hL:(dL c (x,y,z)).heap=xb L:=by
   show xb (dL.ON _ _)=_
   rw [Gn]
  have hkeys:L.map (·.1)=Ah c:=by
   show(Nn c.gl y++Nl (ny c.gl y) c.bl z).map (·.1)=_
   rw [List.map_append,CJ,vN];rfl
  unfold QW at hc
  rw [Bool.and_eq_true]at hc
  have hobj:∀k,(dL c (x,y,z)).g.obj k=((xb L).get k).bind cM.g:=fun k=>by rw [ay.iV,hL]
  have hin:∀k o,(dL c (x,y,z)).g.obj k=some o→∃so,(k,so)∈L∧so.g=some o:=fun k o ho=>by
   rw [hobj]at ho
   obtain⟨so,h1,h2⟩:=Option.bind_eq_some_iff.1 ho
   exact⟨so,CB h1,h2⟩
  have hat:∀k so o,(k,so)∈L→so.g=some o→(dL c (x,y,z)).g.obj k=some o:=fun k so o h1 h2=>by
   rw [hobj,Ij (by rw [hkeys];exact hc.1) h1]
   exact h2
  let ι:Ren:=⟨fun i=> @Option.rec (Option Nat) (fun _=>Option (Nat×Nat)) none (fun ob=> @Option.rec Nat (fun _=>Option (Nat×Nat)) none (fun b=>iff ((dL c (x,y,z)).g.obj i).isSome (some (b,0)) none) ob) (numOf i m),fun b=>iff (jK b (aX m)) none (ownRow s.g b),true,true⟩
  have hloc:∀i b,numOf i m=some (some b)→((dL c (x,y,z)).g.obj i).isSome=true→ι.loc i=some (b,0):=fun i b h1 h2=>by
   show @Option.rec (Option Nat) (fun _=>Option (Nat×Nat)) none _ (numOf i m)=_
   rw [h1]
   show iff ((dL c (x,y,z)).g.obj i).isSome (some (b,0)) none=_
   rw [h2];rfl
  have hlocI:∀i p,ι.loc i=some p→∃b,numOf i m=some (some b)∧p=(b,0)∧((dL c (x,y,z)).g.obj i).isSome=true:=fun i p h1=>by
   have h1: @Option.rec (Option Nat) (fun _=>Option (Nat×Nat)) none (fun ob=> @Option.rec Nat (fun _=>Option (Nat×Nat)) none (fun b=>iff ((dL c (x,y,z)).g.obj i).isSome (some (b,0)) none) ob) (numOf i m)=some p:=h1
   cases h2:numOf i m with
   |none=>rw [h2]at h1;cases h1
   |some ob=>
    rw [h2]at h1
    cases ob with
    |none=>cases h1
    |some b=>
     obtain⟨h3,h4⟩:=aj (show iff ((dL c (x,y,z)).g.obj i).isSome (some (b,0)) none=some p from h1)
     cases h4
     exact⟨b,rfl,rfl,h3⟩
  have hι:R1 s (aX m) ι:=⟨rfl,rfl,fun _=>rfl⟩
  have hι2:Ev s m (ny c.gl y) (c.bl.map (·.1)) ι:=⟨hι,fun i q b h1 h2 h3=>by
   obtain⟨nl,nn,ch,zz,h4,h5⟩:=Le _ _ h1
   refine hloc i b h3 ?_
   rw [h2]at h5
   subst h5
   rw [hat i _ _ (List.mem_append_left _ h4) rfl];rfl,fun i b h1 h2=>by
   rw [km]at h1
   rw [←vN (g:=ny c.gl y) c.bl z]at h1
   obtain⟨⟨k,so⟩,h3,rfl⟩:=List.mem_map.1 h1
   refine hloc k b h2 ?_
   have hso:∃o,so.g=some o:=by
    have:∀(l:List (Nat×bj))(z:K3 l),(k,so)∈Nl (ny c.gl y) l z→∃o,so.g=some o:=by
     intro l
     induction l with
     |nil=>intro z hz;cases hz
     |cons p l ih=>
      intro z hz
      rcases List.mem_cons.1 (show(k,so)∈(p.1,vB (ny c.gl y) p.1 p.2 z.1)::Nl (ny c.gl y) l z.2 from hz)with h4|h4
      ·cases h4
       exact OQ p.2 z.1
      ·exact ih z.2 h4
    exact this _ _ h3
   obtain⟨o,ho⟩:=hso
   rw [hat k so o (List.mem_append_right _ h3) ho];rfl⟩
  refine⟨ι,Nat.le_refl _,fun k hk=>?_,fun k₁ k₂ k s₁ s₂ h1 h2=>?_,fun k o ho=>?_,fun t v hv=>?_,fun k p hk=>?_,fun g hg=>(by cases hg),fun k hk=>(by cases hk),fun b cells hb=>?_⟩
  ·cases ho:(dL c (x,y,z)).g.obj k with
   |none=>rfl
   |some o=>
    obtain⟨so,h1,_⟩:=hin k o ho
    have h2:k∈Ah c:=by rw [←hkeys];exact List.mem_map.2 ⟨_,h1,rfl⟩
    have h3:=(bK _ _).1 (List.all_eq_true.1 hc.2 k h2)
    have hk:c.n≤k:=hk
    omega
  ·obtain⟨b1,g1,g2,_⟩:=hlocI _ _ h1
   obtain⟨b2,g3,g4,_⟩:=hlocI _ _ h2
   cases g2;cases g4
   exact CK hn g1 g3
  ·obtain⟨so,h1,h2⟩:=hin k o ho
   rcases List.mem_append.1 h1 with h3|h3
   ·obtain⟨b,o',g1,g2,g3⟩:=hG _ h3 o h2
    exact⟨b,0,o',hloc k b g1 (by rw [ho];rfl),g2,g3 ι hι⟩
   ·obtain⟨b,o',g1,g2,g3⟩:=hB _ h3
    exact⟨b,0,o',hloc k b g1 (by rw [ho];rfl),g2,g3 o h2 ι hι2⟩
  ·rw [aI.Cz]at hv
   obtain⟨u,h1,rfl⟩:=Option.map_eq_some_iff.1 hv
   obtain⟨w,g1,g2⟩:=hX _ (CB h1)
   refine⟨w.val,?_,g2 ι hι2⟩
   rw [aI.Cz,g1];rfl
  ·obtain⟨b,_,_,h3⟩:=hlocI k p hk
   exact h3
  ·rcases aG (show iff (jK b (aX m)) none (ownRow s.g b)=some cells from hb)with⟨_,hb⟩|⟨hm,hb⟩
   ·cases hb
   obtain⟨o,h2,h3⟩:=aa hb
   obtain⟨c',e',org',h4,h5⟩:=aq h3
   cases h5
   rw [mM h4]at h2
   refine⟨⟨e',org',h2⟩,fun k sh hk=>?_⟩
   obtain⟨b',g1,g2,_⟩:=hlocI k _ hk
   cases g2
   rw [(km _ _).2 (pZ g1)]at hm
   cases hm
 have h1:∀(sh:bj)(u:Sym)(m:lB)(K:lB→Sym→Option R)(r:R),xh sh u m K=some r→∃m' u',K m' u'=some r:=by
   intro sh
   induction sh with
   |d t=>intro u m K r h;obtain⟨u',h1,_⟩:=uZ _ _ _ _ (show sI u (al t) (K m)=some r from h);exact⟨m,u',h1⟩
   |p t=>intro u m K r h;obtain⟨a,u',_,h1⟩:=dD (show dC u (fun _ r=>K m r)=some r from h);exact⟨m,u',h1⟩
   |own i=>
    intro u m K r h
    obtain⟨a,u',_,h1⟩:=dD (show dC u (fun a r=>andThen (QV a) fun o=>K (ry i o m) r)=some r from h)
    obtain⟨o,_,h2⟩:=aa h1
    exact⟨_,u',h2⟩
   | «at» i off=>
    intro u m K r h
    obtain⟨a,u',_,h1⟩:=dD (show dC u (fun a r=>ak (s9 a) fun b _=>K (ry i (some b) m) r)=some r from h)
    obtain⟨b,o,_,h2⟩:=ae h1
    exact⟨_,u',h2⟩
   |RY i=>
    intro u m K r h
    obtain⟨a,u',_,h1⟩:=dD (show dC u (fun a r=>andThen (Ih a) fun b=>K (ry i (some b) m) r)=some r from h)
    obtain⟨b,_,h2⟩:=aa h1
    exact⟨_,u',h2⟩
   |mp kt vt=>intro u m K r h;exact⟨m,u,h⟩
   |ag l ih=>intro u m K r h;exact ih u m K r h
   |nil=>intro u m K r h;exact⟨m,u,h⟩
   |cons a b iha ihb=>
    intro u m K r h
    obtain⟨m1,u1,h1⟩:=iha _ _ _ _ (show xh a u m (fun m s=>xh b s m K)=some r from h)
    exact ihb _ _ _ _ h1
 have hnum:∀(l:List (Nat×bj))(m:lB)(K:lB→Option R)(r:R),Gg l e m K=some r→∃m',K m'=some r:=by
  intro l
  induction l with
  |nil=>intro m K r h;exact⟨m,h⟩
  |cons p l ih=>
   intro m K r h
   obtain⟨a,_,h2⟩:=aa (show(andThen (e.get p.1) fun a=>xh p.2 (dK a .nil) m fun m _=>Gg l e m K)=some r from h)
   obtain⟨m1,u1,h3⟩:=h1 _ _ _ _ _ h2
   exact ih _ _ _ h3
 have hnumB:∀(l:List (Nat×bj))(m:lB)(K:lB→Option R)(r:R),yf l s m K=some r→∃m',K m'=some r:=by
  intro l
  induction l with
  |nil=>intro m K r h;exact⟨m,h⟩
  |cons p l ih=>
   intro m K r h
   obtain⟨ob,_,h2⟩:=aa (show(andThen (numOf p.1 m) fun ob=>andThen ob fun b=>andThen (s.heap.get b) fun o=>iff p.2.Vx (yf l s m K) (andThen (my o) fun ch=>xh p.2 (dK ch .nil) m fun m _=>yf l s m K))=some r from h)
   obtain⟨b,_,h2⟩:=aa h2
   obtain⟨o,_,h2⟩:=aa h2
   rcases aG h2 with⟨_,h2⟩|⟨_,h2⟩
   ·exact ih _ _ _ h2
   obtain⟨ch,_,h2⟩:=aa h2
   obtain⟨m1,u1,h3⟩:=h1 _ _ _ _ _ h2
   exact ih _ _ _ h3
 obtain⟨m,h⟩:=hnum _ _ _ _ h
 obtain⟨m,h⟩:=hnumB _ _ _ _ h
 exact key m h
end
end Go.az
namespace Go.az
def p4:List Oper→Option (Tmp×Tmp×Tmp×TypeId)
 | [⟨some d1,.move (.tmp x),_,_,_,none⟩,⟨some d2,.binOp .eql t (.tmp y) (.const (.slice none n c)) _,_,_,_,none⟩]=>iff (and (Nat.beq y d1) (and (dS n) (dS c))) (some (x,d1,d2,t)) none
 |_=>none
theorem Ew{l:List Oper}{x d1 d2:Tmp}{t:TypeId}(h:p4 l=some (x,d1,d2,t)):
  ∃y1 a1 p1 yt y2 a2 p2,l=[⟨some d1,.move (.tmp x),y1,a1,p1,none⟩,⟨some d2,.binOp .eql t (.tmp d1) (.const (.slice none 0 0)) yt,y2,a2,p2,none⟩]:=by
 unfold p4 at h
 split at h
 ·rename_i n c _ _ _ _
  obtain⟨hc,h9⟩:=aj h
  clear h
  rw [Bool.and_eq_true,Bool.and_eq_true,beq_iff]at hc
  obtain⟨rfl,h1,h2⟩:=hc
  have h1:n=0:=(beq_iff _ _).1 h1
  have h2:c=0:=(beq_iff _ _).1 h2
  subst h1
  subst h2
  cases h9
  exact⟨_,_,_,_,_,_,_,rfl⟩
 ·cases h
section
variable {P:Program} {T:ew} {G:bP} {S:Nat→Bool} {N:Nat} {e:Env} {σ:aD} {Q:gn→Env→aD→Prop}
theorem OS{el t:TypeId}{o:Option Addr}{n c:Nat}{ρ:Operand→Value}{x y:Operand}{q:Oper}{yt:TypeId}(hT:bw P T)(hd:desc T t=some (.slice el))(hq:q.op= .binOp .eql t x y yt)(h:ρ x= .slice o n c)(h0:ρ y= .slice none 0 0)(w:World):
  (execOp ρ q).run P w= .ok (.value (.bool o.isNone)) w:=by
 obtain⟨dst,op,ty,pos,after,guard⟩:=q
 simp only at hq
 subst hq
 have hu:=dp hT hd
 have hg:(eqGuard .eql t x y (.slice o n c) (.slice none 0 0)).run P w= .ok () w:=by simp [eqGuard]
 have hb:(Go.binOp .eql t (.slice o n c) (.slice none 0 0)).run P w= .ok (.bool o.isNone) w:=by
  simp only [Go.binOp,Sem.run_bind,Op.equal,Op.maxDepth]
  cases o with
  |none=>rw [show(10000:Nat)=9999+1 from rfl,Jw w _ hu];rfl
  |some a=>rw [show(10000:Nat)=9999+1 from rfl,Jy w _ hu];rfl
 simp only [execOp,Sem.run_bind,h,h0,hg,hb,Result.andThen_ok,Sem.run_pure]
theorem CL(hT:bw P T){id:Nat}{ops:Array Oper}(hok:ki G N ops false=true){x d1 d2:Tmp}{t el:TypeId}(hn:p4 ops.toList=some (x,d1,d2,t))(hd:desc T t=some (.slice el))(he:env e (.tmp x)=dV [])
  (hq:∀b:Bool,Q .normal ((e.set d1 (dV [])).set d2 (.bool b)) σ):eD P G S N (.region id ops false) e σ Q:=by
 intro A w₀ π D w a M hr hea hg hM
 obtain⟨y1,a1,p1,yt,y2,a2,p2,hl⟩:=Ew hn
 obtain⟨hops,_,_⟩:=sw hok
 have ho1:ops= #[⟨some d1,.move (.tmp x),y1,a1,p1,none⟩,⟨some d2,.binOp .eql t (.tmp d1) (.const (.slice none 0 0)) yt,y2,a2,p2,none⟩]:=by
  apply Array.ext'
  rw [hl]
 have hd1:d1<N:=(hops _ (by rw [hl];exact List.mem_cons_self ..)).dst d1 rfl
 have hd2:d2<N:=(hops _ (by rw [hl];exact List.mem_cons_of_mem _ (List.mem_cons_self ..))).dst d2 rfl
 have hx:VR π D (dV []) (a.eval (.tmp x)):=by
  have:=hea.tmp x
  rw [show fM (e.get x)=dV []from he]at this
  exact this
 have hpre:=hr.pre (Nat.le_refl σ.next)
 subst ho1
 apply wp_region
 show wpOps P _ M [0,1] a w
 rw [wpOps_cons]
 unfold wpOp
 rw [show(#[(⟨some d1,.move (.tmp x),y1,a1,p1,none⟩:Oper),⟨some d2,.binOp .eql t (.tmp d1) (.const (.slice none 0 0)) yt,y2,a2,p2,none⟩]:Array Oper)[0]? =some ⟨some d1,.move (.tmp x),y1,a1,p1,none⟩from rfl]
 simp only
 rw [if_pos (by rfl)]
 refine .inl (mb.wp (σ:=σ) (σ':=σ) (π:=π) (δ:=bd σ) (D:=D) (H:=fun _=>none) (v:=dV []) (.inl ⟨_,a.eval (.tmp x),π,D,w,rfl,.inl rfl,hx,.refl hpre⟩) fun v' π1 D1 w1 hv hpo=>?_)
 rw [wpOps_cons]
 unfold wpOp
 rw [show(#[(⟨some d1,.move (.tmp x),y1,a1,p1,none⟩:Oper),⟨some d2,.binOp .eql t (.tmp d1) (.const (.slice none 0 0)) yt,y2,a2,p2,none⟩]:Array Oper)[1]? =some ⟨some d2,.binOp .eql t (.tmp d1) (.const (.slice none 0 0)) yt,y2,a2,p2,none⟩from rfl]
 simp only
 rw [if_pos (by rfl)]
 have hr1:=hr.post hpo
 have hs:=hpo.lv hpre
 have hea1:jJ N π1 D1 (e.set d1 (dV [])) (a.put (some d1) v'):=(hea.mono hs).put (dst:=some d1) hv fun d h=>by cases h;exact hd1
 have hv1:(a.put (some d1) v').eval (.tmp d1)=v':=by
  have hsz:d1<a.tmps.size:=by rw [hea.size];exact hd1
  show(a.tmps.setIfInBounds d1 v').getD d1 undef=v'
  rw [Array.getD_eq_getD_getElem?]
  simp [hsz]
 have key:∃b:Bool,∀w:World,(execOp (a.put (some d1) v').eval ⟨some d2,.binOp .eql t (.tmp d1) (.const (.slice none 0 0)) yt,y2,a2,p2,none⟩).run P w= .ok (.value (.bool b)) w:=by
  have hex:∃(o:Option Addr)(n c:Nat),v'= .slice o n c:=by
   rcases hv.cJ with⟨_,c,rfl⟩|⟨cs,cs',z,c',a',rfl,_⟩
   ·exact⟨_,_,_,rfl⟩
   ·exact⟨_,_,_,rfl⟩
  obtain⟨o,n,c,rfl⟩:=hex
  exact⟨o.isNone,fun w=>OS hT hd rfl hv1 rfl w⟩
 obtain⟨b,hb⟩:=key
 refine .inl (mb.wp (σ:=σ) (σ':=σ) (π:=π1) (δ:=bd σ) (D:=D1) (H:=fun _=>none) (v:= .bool b) (.inl ⟨_,.bool b,π1,D1,w1,hb w1,.inl rfl,.bool b,.refl (hr1.pre (Nat.le_refl σ.next))⟩) fun v2 π2 D2 w2 hv2 hpo2=>?_)
 have hs2:=hpo2.lv (hr1.pre (Nat.le_refl σ.next))
 exact hM .normal _ σ π2 D2 w2 _ (hq b) (hr1.post hpo2) ((hea1.mono hs2).put (dst:=some d2) hv2 fun d h=>by cases h;exact hd2) ((hg.mono hs).mono hs2)
end
end Go.az
namespace Go.az
structure dU where
 loops:List (Nat×Cut)
 Lf:List (Nat×Cut)
 un:List (Nat×Nat)
def rz(k:Nat)(l:List (Nat×Cut)):Option Cut:= @List.rec (Nat×Cut) (fun _=>Option Cut) none (fun p _ ih=>iff (Nat.beq k p.1) (some p.2) ih) l
def cp{X R:Type}(body:X→Option (X⊕R))(n:Nat):X→Option R:=
 @Nat.rec (fun _=>X→Option R) (fun _=>none) (fun _ ih x=>andThen (body x) fun y=> @Sum.rec X R (fun _=>Option R) ih some y) n
def cq{X R:Type}(f:X→Option R)(y:X⊕R):Option R:= @Sum.rec X R (fun _=>Option R) f some y
def thenS{R:Type}(k:aI→ay→Option R)(K:gn→aI→ay→Option R)(x:gn)(e:aI)(s:ay):Option R:= @gn.rec (fun _=>Option R) (k e s) (fun id=>K (.exit id) e s) (K .ret e s) x
def xi{X R:Type}(K:gn→aI→ay→Option R)(x:gn)(e:aI)(s:ay):Option (X⊕R):=andThen (K x e s) fun r=>some (.inr r)
def xj{R:Type}(c:Cut)(e:aI)(s:ay):Option (c.X⊕R):=vJ c e s fun x=>some (.inl x)
def Ak(c:Operand)(b:Bool)(e:aI):aI:=match c with
 | .tmp d=>e.set d (.v (.bool b))
 |_=>e
def Vz{R:Type}(c:Operand)(e:aI)(K:Bool→aI→Option R):Option R:=andThen (KZ (pI e c)) fun b=>iff b (K true (Ak c true e)) (K false (Ak c false e))
def p6{R:Type}(body:aI→ay→(gn→aI→ay→Option R)→Option R)(K:gn→aI→ay→Option R)(n:Nat):aI→ay→Option R:=
 @Nat.rec (fun _=>aI→ay→Option R) (fun _ _=>none) (fun _ ih e s=>body e s (thenS ih K)) n
abbrev XD:=(R:Type)→aI→ay→(gn→aI→ay→Option R)→Option R
theorem vP{e:aI}{d:Nat}{u:Sym}(h:e.get d=some u):aI.g (e.set d u)=aI.g e:=by
 unfold aI.g
 rw [dA (f:=fun s:Sym=>some s.val) (v:=u) (w:=u.val) rfl]
 apply Tr.mV
 rw [ko,h];rfl
def Gp{R:Type}(a b:Option R):Option R:= @ite (Option R) (a=b) (Classical.propDecidable _) a none
theorem Lg{R:Type}{a b:Option R}{r:R}(h:Gp a b=some r):a=some r∧b=some r:=by
 unfold Gp at h
 split at h
 ·rename_i hab
  exact⟨h,hab▸h⟩
 ·cases h
def Lh(T:ew)(t:TypeId):Bool:= @Option.rec TypeDesc (fun _=>Bool) false (fun d=>(bL d).isSome) (desc T t)
theorem Li{T:ew}{t:TypeId}(h:Lh T t=true):∃el,desc T t=some (.slice el):=by
 unfold Lh at h
 cases hd:desc T t with
 |none=>rw [hd]at h;cases h
 |some d=>
  rw [hd]at h
  have h:(bL d).isSome=true:=h
  cases d<;>first|(cases h;done)|exact⟨_,rfl⟩
def Lj(q:Tmp×Tmp×Tmp×TypeId)(b:Bool)(t:Ty)(e:aI):aI:=((e.set q.1 (.d (.slice t) [])).set q.2.1 (.d (.slice t) [])).set q.2.2.1 (.v (.bool b))
section
variable (T:ew) (tab:List bu) (pl:dU) (fuel:Nat)
def rA{R:Type}(ops:Array Oper)(draw:Bool)(K:gn→aI→ay→Option R)(e:aI)(s:ay):Option R:=K1 T tab ops.toList (eF ops.toList) draw (fun e s=>K .normal e s.Di) ops.toList (nat_lit 0) e s
def VB{R:Type}(ops:Array Oper)(draw:Bool)(K:gn→aI→ay→Option R)(e:aI)(s:ay)(q:Tmp×Tmp×Tmp×TypeId)(p:(t:Ty)×List (El t)):Option R:=
 iff (Lh T q.2.2.2) (@List.rec (El p.1) (fun _=>Option R) (Gp (K .normal (Lj q true p.1 e) s.Di) (K .normal (Lj q false p.1 e) s.Di)) (fun y ys _=>rA T tab ops draw K (e.set q.1 (.d (.slice p.1) (y::ys))) s) p.2) none
def Al{R:Type}(ops:Array Oper)(draw:Bool)(e:aI)(s:ay)(K:gn→aI→ay→Option R):Option R:=
 kz (iff draw none (p4 ops.toList)) (fun q=>kz (vq (pI e (.tmp q.1))) (VB T tab ops draw K e s q) (rA T tab ops draw K e s)) (rA T tab ops draw K e s)
def QX(c:Code)(fc:XD):XD:=fun R e s K=>
 @Option.rec Cut (fun _=>Option R) none (fun ct=>vJ ct e s (cp (fun x=>fc (ct.X⊕R) (jG ct x) (dL ct x) (thenS (xj ct) (xi K))) fuel)) (rz (eh c) pl.loops)
def fC(c:Code):XD:=
 @Code.rec (fun _=>XD)
  (fun _ e s K=>K .normal e s.Di)
  (fun _ ops draw _ e s K=>Al T tab ops draw e s K)
  (fun _ b fa fb R e s K=> @Option.rec Cut (fun _=>Option R) (fa R e s (thenS (fun e s=>fb R e s K) K))
   (fun ct=>andThen (fa (ct.X⊕R) e s (thenS (xj ct) (xi K))) (cq fun x=>fb R (jG ct x) (dL ct x) K)) (rz (eh b) pl.Lf))
  (fun c _ _ fa fb R e s K=>Vz c e fun t e=>iff t (fa R e s K) (fb R e s K))
  (fun id _ fc R e s K=>fc R e s fun x=>K (leaves id x))
  (fun c fc R e s K=>iff (dS (zL (eh c) pl.un)) (QX pl fuel c fc R e s K) (p6 (fc R) K (zL (eh c) pl.un) e s))
  (fun _ _ _ _ _ _ _ _ _ _=>none)
  (fun id _ e s K=>K (.exit id) e s.Di)
  (fun _ fc=>fc)
  (fun _ _ e s K=>K .normal e s.Di)
  (fun _ _ _ _ _=>none)
  (fun _ e s K=>K .ret e s.Di)
  (fun _ _ _ _ _=>none) c
end
def Fin{R:Type}(K:gn→aI→ay→Option R)(r:R)(x:gn)(e:Env)(σ:aD):Prop:=∃se ss,e=aI.g se∧norm σ=ay.g ss∧K x se ss=some r
section
variable {P:Program} {N:Nat} {T:ew} {tab:List bu} {pl:dU} {fuel:Nat}
theorem Ll{c:Operand}{e:aI}{b:Bool}(h:KZ (pI e c)=some b):aI.g (Ak c b e)=aI.g e:=by
 cases c with
 |tmp d=>
  show aI.g (e.set d (.v (.bool b)))=_
  apply ru
  have h1:=Ae h
  have h1:FO (e.get d)= .v (.bool b):=h1
  cases hg:e.get d with
  |none=>rw [hg]at h1;cases h1
  |some v=>rw [hg]at h1;rw [show v= .v (.bool b)from h1]
 |_=>rfl
theorem tH{X R:Type}{K:gn→aI→ay→Option R}{x:gn}{e:aI}{s:ay}{y:X⊕R}(h:xi K x e s=some y):∃r,y= .inr r∧K x e s=some r:=by
 obtain⟨r,h1,h2⟩:=aa h
 cases h2
 exact⟨r,rfl,h1⟩
theorem Gq{R:Type}{c:Cut}{e:aI}{s:ay}{y:c.X⊕R}(h:xj c e s=some y):∃x,y= .inl x∧∃ι,Match (fun _=>false) fg ι (aI.g e) s.g (aI.g (jG c x)) (dL c x).g:=by
 obtain⟨x,h1,h2⟩:=yi h
 cases h1
 exact⟨x,rfl,h2⟩
def OT(c:Cut)(x:c.X)(e:Env)(σ:aD):Prop:=∃σ0,(σ0=σ∨σ0=norm σ)∧∃ι,Match (fun _=>false) fg ι e σ0 (aI.g (jG c x)) (dL c x).g
theorem OT.Zv{c:Cut}{x:c.X}{e:Env}{σ:aD}(h:OT c x e σ){d:Code}{Q:gn→Env→aD→Prop}(hq:eD P fg (fun _=>false) N d (aI.g (jG c x)) (dL c x).g Q):eD P fg (fun _=>false) N d e σ Q:=by
 obtain⟨σ0,h1,ι,h2⟩:=h
 rcases h1 with rfl|rfl
 ·exact xV h2 hq
 ·exact uQ (xV h2 hq)
theorem VC(hx:P.follows .mixedOrders=true)(hT:bw P T)(hc:fT P fg (iZ tab))(hm:iR (iZ tab)):∀(c:Code),codeOk fg N c=true→∀(R:Type) e s K (r:R),fC T tab pl fuel c R e s K=some r→eD P fg (fun _=>false) N c (aI.g e) s.g (Fin K r):=by
 intro c
 induction c with
 |skip=>intro _ R e s K r h;exact JP ⟨e,s.Di,rfl,rfl,h⟩
 |region id ops draw=>
  intro hok R e s K r h
  have plain:∀e,rA T tab ops draw K e s=some r→eD P fg (fun _=>false) N (.region id ops draw) (aI.g e) s.g (Fin K r):=fun e h=>by
   obtain⟨e',s',h1,h2⟩:=Ag T tab _ _ _ _ (show K1 T tab ops.toList (eF ops.toList) draw (fun e s=>K .normal e s.Di) ops.toList 0 e s=some r from h)
   refine N6 (uO (lf:=0) hx hT hc hm hok) (fun e σ x e' σ' hr=>gw hm _ e σ x e' σ' hr) (x:= .normal) (e':=aI.g e') (σ':=s'.g) ?_ ⟨e',s'.Di,rfl,rfl,h2⟩
   show Ft (gT T (iZ tab) ops.toList (eF ops.toList) draw ops.toList 0 (aI.g e) s.g)=_
   rw [h1];rfl
  rcases bR (show kz (iff draw none (p4 ops.toList)) (fun q=>kz (vq (pI e (.tmp q.1))) (VB T tab ops draw K e s q) (rA T tab ops draw K e s)) (rA T tab ops draw K e s)=some r from h)with⟨q,h1,h2⟩|⟨_,h2⟩
  ·rcases bR h2 with⟨p,h3,h4⟩|⟨_,h4⟩
   ·obtain⟨h5,h6⟩:=aj h4
    rcases aG h1 with⟨_,h7⟩|⟨hdr,h7⟩
    ·cases h7
    subst hdr
    obtain⟨x,d1,d2,ty⟩:=q
    obtain⟨t,l⟩:=p
    have hx0:e.get x=some (.d (.slice t) l):=by
     have h3:vq (FO (e.get x))=some ⟨t,l⟩:=h3
     cases hg:e.get x with
     |none=>rw [hg]at h3;cases h3
     |some u=>
      rw [hg]at h3
      rw [show u= .d (.slice t) l from im h3]
    obtain⟨el,hel⟩:=Li h5
    cases l with
    |nil=>
     obtain⟨g1,g2⟩:=Lg (show Gp (K .normal (Lj (x,d1,d2,ty) true t e) s.Di) (K .normal (Lj (x,d1,d2,ty) false t e) s.Di)=some r from h6)
     refine CL hT hok h7 hel ?_ fun b=>?_
     ·show fM ((aI.g e).get x)=dV []
      rw [aI.Cz,hx0];rfl
     ·refine⟨Lj (x,d1,d2,ty) b t e,s.Di,?_,rfl,by cases b;exact g2;exact g1⟩
      have e1:aI.g (e.set x (.d (.slice t) []))=aI.g e:=vP hx0
      have e2:aI.g ((e.set x (.d (.slice t) [])).set d1 (.d (.slice t) []))=(aI.g e).set d1 (dV []):=by
       rw [←e1]
       exact dA (f:=fun s:Sym=>some s.val) (v:= .d (.slice t) []) (w:=dV []) rfl _ _
      show((aI.g e).set d1 (dV [])).set d2 (.bool b)=aI.g (((e.set x (.d (.slice t) [])).set d1 (.d (.slice t) [])).set d2 (.v (.bool b)))
      rw [←e2]
      exact(dA (f:=fun s:Sym=>some s.val) (v:= .v (.bool b)) (w:= .bool b) rfl _ _).symm
    |cons y ys=>
     have:=plain _ (show rA T tab ops false K (e.set x (.d (.slice t) (y::ys))) s=some r from h6)
     rwa [vP hx0]at this
   ·exact plain e h4
  ·exact plain e h2
 |seq a b iha ihb=>
  intro hok R e s K r h
  simp only [codeOk,Bool.and_eq_true]at hok
  apply N8
  have h: @Option.rec Cut (fun _=>Option R) (fC T tab pl fuel a R e s (thenS (fun e s=>fC T tab pl fuel b R e s K) K))
   (fun ct=>andThen (fC T tab pl fuel a (ct.X⊕R) e s (thenS (xj ct) (xi K))) (cq fun x=>fC T tab pl fuel b R (jG ct x) (dL ct x) K)) (rz (eh b) pl.Lf)=some r:=h
  cases hj:rz (eh b) pl.Lf with
  |none=>
   rw [hj]at h
   refine(iha hok.1 R e s _ r h).mono fun x e1 σ1 hq=>?_
   obtain⟨se,ss,rfl,h2,h3⟩:=hq
   cases x with
   |normal=>exact uQ (h2▸ihb hok.2 R se ss K r h3)
   |exit id=>exact⟨se,ss,rfl,h2,h3⟩
   |ret=>exact⟨se,ss,rfl,h2,h3⟩
  |some ct=>
   rw [hj]at h
   obtain⟨y,h1,h2⟩:=aa (show andThen (fC T tab pl fuel a (ct.X⊕R) e s (thenS (xj ct) (xi K))) (cq fun x=>fC T tab pl fuel b R (jG ct x) (dL ct x) K)=some r from h)
   refine(iha hok.1 _ e s _ y h1).mono fun x e1 σ1 hq=>?_
   obtain⟨se,ss,rfl,h3,h4⟩:=hq
   cases x with
   |normal=>
    obtain⟨x,rfl,ι,h5⟩:=Gq h4
    exact OT.Zv ⟨ss.g,.inr h3.symm,ι,h5⟩ (ihb hok.2 R _ _ K r h2)
   |exit id=>
    obtain⟨r',rfl,h5⟩:=tH h4
    cases h2
    exact⟨se,ss,rfl,h3,h5⟩
   |ret=>
    obtain⟨r',rfl,h5⟩:=tH h4
    cases h2
    exact⟨se,ss,rfl,h3,h5⟩
 |cond c a b iha ihb=>
  intro hok R e s K r h
  simp only [codeOk,Bool.and_eq_true]at hok
  obtain⟨t,h1,h⟩:=aa (show(andThen (KZ (pI e c)) fun b'=>iff b' (iff true (fC T tab pl fuel a R (Ak c true e) s K) (fC T tab pl fuel b R (Ak c true e) s K)) (iff false (fC T tab pl fuel a R (Ak c false e) s K) (fC T tab pl fuel b R (Ak c false e) s K)))=some r from h)
  have hc':sd (env (aI.g e) c)=some t:=by rw [←pJ,Ae h1];rfl
  refine JR hc' hok.1 (fun ht=>?_) (fun ht=>?_)
  ·subst ht
   have:=iha hok.2.1 R (Ak c true e) s K r h
   rwa [Ll h1]at this
  ·subst ht
   have:=ihb hok.2.2 R (Ak c false e) s K r h
   rwa [Ll h1]at this
 |block id c ih=>
  intro hok R e s K r h
  apply Ht
  exact ih hok R e s (fun x=>K (leaves id x)) r h
 |loop c ih=>
  intro hok R e s K r h
  rcases aG (show iff (dS (zL (eh c) pl.un)) (QX pl fuel c (fC T tab pl fuel c) R e s K) (p6 (fC T tab pl fuel c R) K (zL (eh c) pl.un) e s)=some r from h)with⟨_,h⟩|⟨_,h⟩
  ·have h: @Option.rec Cut (fun _=>Option R) none (fun ct=>vJ ct e s (cp (fun x=>fC T tab pl fuel c (ct.X⊕R) (jG ct x) (dL ct x) (thenS (xj ct) (xi K))) fuel)) (rz (eh c) pl.loops)=some r:=h
   cases hj:rz (eh c) pl.loops with
   |none=>rw [hj]at h;cases h
   |some ct=>
    rw [hj]at h
    obtain⟨x0,h1,ι,h2⟩:=yi (show vJ ct e s (cp (fun x=>fC T tab pl fuel c (ct.X⊕R) (jG ct x) (dL ct x) (thenS (xj ct) (xi K))) fuel)=some r from h)
    clear h
    refine BO (fun n e σ=>∃x,cp (fun x=>fC T tab pl fuel c (ct.X⊕R) (jG ct x) (dL ct x) (thenS (xj ct) (xi K))) n x=some r∧OT ct x e σ) (fun n e σ hI=>?_) (n:=fuel) ⟨x0,h1,s.g,.inl rfl,ι,h2⟩
    obtain⟨x,h3,h4⟩:=hI
    cases n with
    |zero=>cases h3
    |succ n=>
     obtain⟨y,h5,h6⟩:=aa (show(andThen (fC T tab pl fuel c (ct.X⊕R) (jG ct x) (dL ct x) (thenS (xj ct) (xi K))) fun y=> @Sum.rec ct.X R (fun _=>Option R) (cp (fun x=>fC T tab pl fuel c (ct.X⊕R) (jG ct x) (dL ct x) (thenS (xj ct) (xi K))) n) some y)=some r from h3)
     refine h4.Zv ((ih hok _ _ _ _ y h5).mono fun x2 e2 σ2 hq=>?_)
     obtain⟨se,ss,rfl,g1,g2⟩:=hq
     cases x2 with
     |normal=>
      obtain⟨x',rfl,ι',g3⟩:=Gq g2
      exact⟨n,Nat.lt_succ_self n,x',h6,ss.g,.inr g1.symm,ι',g3⟩
     |exit id=>
      obtain⟨r',rfl,g3⟩:=tH g2
      cases h6
      exact⟨se,ss,rfl,g1,g3⟩
     |ret=>
      obtain⟨r',rfl,g3⟩:=tH g2
      cases h6
      exact⟨se,ss,rfl,g1,g3⟩
  ·refine BO (fun n e σ=>∃se ss,e=aI.g se∧(ss.g=σ∨ss.g=norm σ)∧p6 (fC T tab pl fuel c R) K n se ss=some r) (fun n e σ hI=>?_) ⟨e,s,rfl,.inl rfl,h⟩
   obtain⟨se,ss,rfl,h1,h2⟩:=hI
   cases n with
   |zero=>cases h2
   |succ n=>
    have h3:=ih hok R se ss (thenS (p6 (fC T tab pl fuel c R) K n) K) r h2
    have h4:eD P fg (fun _=>false) N c (aI.g se) σ (Fin (thenS (p6 (fC T tab pl fuel c R) K n) K) r):=by
     rcases h1 with h1|h1
     ·rw [←h1];exact h3
     ·exact uQ (h1▸h3)
    refine h4.mono fun x2 e2 σ2 hq=>?_
    obtain⟨se2,ss2,rfl,g1,g2⟩:=hq
    cases x2 with
    |normal=>exact⟨n,Nat.lt_succ_self n,se2,ss2,rfl,.inr g1.symm,g2⟩
    |exit id=>exact⟨se2,ss2,rfl,g1,g2⟩
    |ret=>exact⟨se2,ss2,rfl,g1,g2⟩
 |rangeFunc=>intro _ R e s K r h;cases (show none=some r from h)
 |exit id=>intro _ R e s K r h;exact JQ ⟨e,s.Di,rfl,rfl,h⟩
 |scope c ih=>intro hok R e s K r h;exact Hu (ih hok R e s K r h)
 |label=>intro _ R e s K r h;exact Hs ⟨e,s.Di,rfl,rfl,h⟩
 |goto=>intro _ R e s K r h;cases (show none=some r from h)
 |ret=>intro _ R e s K r h;exact N7 ⟨e,s.Di,rfl,rfl,h⟩
 |refuse=>intro _ R e s K r h;cases (show none=some r from h)
def Lm(l:List Sym):Nat→aI→aI:= @List.rec Sym (fun _=>Nat→aI→aI) (fun _ e=>e) (fun u _ ih i e=>ih (Nat.succ i) (e.set i u)) l
theorem Gr:∀(l:List Sym)(i:Nat)(e:aI),aI.g (Lm l i e)=eG (l.map Sym.val) i (aI.g e)
 | [],i,e=>rfl
 |u::l,i,e=>by
  show aI.g (Lm l (i+1) (e.set i u))=eG (l.map Sym.val) (i+1) ((aI.g e).set i u.val)
  rw [Gr l]
  congr 1
  exact dA (f:=fun s:Sym=>some s.val) (v:=u) (w:=u.val) rfl e i
def Gs:(ts:List Ty)→bg ts→List Sym
 | [],_=>[]
 |t::ts,x=>nK t x.1::Gs ts x.2
theorem yj:∀(ts:List Ty)(x:bg ts),(Gs ts x).map Sym.val=aO ts x
 | [],_=>rfl
 |t::ts,x=>by
  show(nK t x.1).val::(Gs ts x.2).map Sym.val=_
  rw [pG,yj ts x.2];rfl
variable (T)
def ja{R:Type}:List ResultVar→aI→ay→(List Sym→Option R)→Option R
 | []=>fun _ _ K=>K []
 | .tmp t::rs=>fun e s K=>ja rs e s fun l=>K (pI e (.tmp t)::l)
 | .cell a t::rs=>fun e s K=>iff (s9 (pI e (.tmp a))).isSome (B1 T t (pI e (.tmp a)) s fun u _=>ja rs e s fun l=>K (u::l)) none
theorem mC{R:Type}{e:aI}{s:ay}:∀(rs:List ResultVar)(K:List Sym→Option R)(r:R),ja T rs e s K=some r→∃l,K l=some r∧bq T s.g (aI.g e) rs=some (l.map Sym.val)
 | [],K,r,h=>⟨[],h,rfl⟩
 | .tmp t::rs,K,r,h=>by
  obtain⟨l,h1,h2⟩:=mC rs _ r h
  refine⟨_,h1,?_⟩
  show andThen (bq T s.g (aI.g e) rs) (fun vs=>some (env (aI.g e) (.tmp t)::vs))=_
  rw [h2,←pJ];rfl
 | .cell a t::rs,K,r,h=>by
  obtain⟨h0,h⟩:=aj (show iff (s9 (pI e (.tmp a))).isSome (B1 T t (pI e (.tmp a)) s fun u _=>ja T rs e s fun l=>K (u::l)) none=some r from h)
  obtain⟨u,h1,h2⟩:=B2 T h
  obtain⟨l,h3,h4⟩:=mC rs _ r h2
  refine⟨_,h3,?_⟩
  obtain⟨⟨b,off⟩,hp⟩:=Option.isSome_iff_exists.1 h0
  rw [pN hp]at h1
  show ak (fN (env (aI.g e) (.tmp a))) (fun k off=>andThen (jU T s.g t k off) fun v=>andThen (bq T s.g (aI.g e) rs) fun vs=>some (v::vs))=_
  rw [←pJ,pN hp]
  show(andThen (jU T s.g t b off) fun v=>andThen (bq T s.g (aI.g e) rs) fun vs=>some (v::vs))=_
  have h5:val s.g (jU T s.g t b off)=some (u.val,s.g):=h1
  rw [(FW h5).1,af,h4];rfl
def Ik(fn:Func)(B:List Ty)(eS:Bool)(x:gn)(e:aI)(s:ay):Option (bg B):=
 @gn.rec (fun _=>Option (bg B)) (ja T fn.results.toList e s fun l=>oC (not eS) (fun b=>iff eS none (bY [] s b)) B l some) (fun _=>none) (ja T fn.results.toList e s fun l=>oC (not eS) (fun b=>iff eS none (bY [] s b)) B l some) x
def Zw:ay:=⟨.leaf,0,0,0⟩
def fF(tab:List bu)(pl:dU)(fuel:Nat)(fn:Func)(A B:List Ty)(eS:Bool)(a:bg A):Option (bg B):=fC T tab pl fuel (oo fn) (bg B) (Lm (Gs A a) 0 .leaf) Zw (Ik T fn B eS)
variable {T}
theorem vQ{l:List Value}(h:l.length≠1):dF l=false:=by
 cases l with
 |nil=>rfl
 |cons a l=>
  cases l with
  |nil=>exact absurd rfl h
  |cons b l=>rfl
theorem bX.Ex{ι:Ren}{l l':List Value}(h:bX ι l l'):VA ι (ar l) (ar l'):=by
 by_cases hl:l.length=1
 ·match l,l',h,hl with
  | [a],[b],h,_=>exact h.2 0 _ _ rfl rfl
  | [a],[],h,_=>exact absurd h.1 (by simp)
  | [a],_::_::_,h,_=>exact absurd h.1 (by simp)
 ·have hl':l'.length≠1:=fun h1=>hl (h.1.trans h1)
  have:∀{m:List Value},m.length≠1→ar m= .tuple ⟨m⟩:=fun{m} hm=>by
   match m,hm with
   | [],_=>rfl
   | [a],hm=>exact absurd rfl hm
   |a::b::m,_=>rfl
  rw [this hl,this hl']
  exact h.tuple (vQ hl) (vQ hl')
theorem yk{R:Type}:∀(ts:List Ty)(l:List Sym)(K:bg ts→Option R)(r:R),oC false (fun _=>none) ts l K=some r→∃y,K y=some r∧aO ts y=l.map Sym.val
 | [],[],K,r,h=>⟨(),h,rfl⟩
 | [],_::_,K,r,h=>by cases h
 |t::ts,[],K,r,h=>by cases h
 |t::ts,x::l,K,r,h=>by
  obtain⟨y,h1,h2,h3,h4⟩:=mX fk (show pL false (fun _=>none) t x (fun y=>oC false (fun _=>none) ts l fun ys=>K (y,ys))=some r from h)
  obtain⟨ys,h5,h6⟩:=yk ts l _ r h1
  refine⟨(y,ys),h5,?_⟩
  show aT t y::aO ts ys=x.val::l.map Sym.val
  rw [h6]
  congr 1
  have h2:x.cells=ah t y:=h2
  unfold aT
  cases ha:dz t with
  |true=>rw [if_pos rfl,Sym.gH (h4.trans ha),h2]
  |false=>
   rw [if_neg (by decide)]
   rw [bI ha,Sym.mT h3 (h4.trans ha)]at h2
   exact(List.cons.inj h2).1.symm
def cn:Ty→Bool
 | .slice _=>false
 | .pair a b=>and (cn a) (cn b)
 | .arr _ t=>cn t
 |_=>true
theorem na{ι:Ren}:∀(t:Ty)(x:El t),cn t=true→bX ι (ah t x) (ah t x)
 | .bool,x,_=> .fX (.bool x)
 | .int k,x,_=> .fX (.int k x)
 | .str,x,_=> .fX (.string _)
 | .unit,_,_=> .nil
 | .slice _,_,h=>by cases h
 | .pair a b,x,h=>by
  have h:(cn a&&cn b)=true:=h
  rw [Bool.and_eq_true]at h
  show bX ι (ah a x.1++ah b x.2) (ah a x.1++ah b x.2)
  exact(na a x.1 h.1).append (na b x.2 h.2)
 | .arr n t,x,h=>by
  show bX ι (x.1.map (ah t)).flatten (x.1.map (ah t)).flatten
  have:∀l:List (El t),bX ι (l.map (ah t)).flatten (l.map (ah t)).flatten:=by
   intro l
   induction l with
   |nil=>exact .nil
   |cons y l ih=>
    rw [List.map_cons,List.flatten_cons]
    exact(na t y h).append ih
  exact this x.1
theorem Ey{ι:Ren}(t:Ty)(x:El t)(h:cn t=true):VA ι (aT t x) (aT t x):=by
 have h1:=na (ι:=ι) t x h
 unfold aT
 cases ha:dz t with
 |true=>rw [if_pos rfl];exact h1.agg
 |false=>
  rw [if_neg (by decide)]
  rw [bI ha]at h1
  exact h1.2 0 _ _ rfl rfl
theorem yl{ι:Ren}:∀(ts:List Ty)(x:bg ts),ts.all cn=true→bX ι (aO ts x) (aO ts x)
 | [],_,_=> .nil
 |t::ts,x,h=>by
  rw [List.all_cons,Bool.and_eq_true]at h
  exact .cons (Ey t x.1 h.1) (yl ts x.2 h.2)
theorem bc{f:FuncId}{fn:Func}{A B:List Ty}{eS:Bool}{F:bg A→Option (bg B)}(pl:dU)(fuel:Nat)(hx:P.follows .mixedOrders=true)(hT:bw P T)(htab:∀c∈tab,aJ P fg c.f c.spec)
  (hfn:P.funcs[f]? =some fn) (hb:fn.body.isSome=true) (hok:X1 fg fn=true) (hl:eS=true→B.all cn=true) (hF:∀a,F a=fF T tab pl fuel fn A B eS a):aJ P fg f (bu.spec ⟨f,A,B,F,eS,none⟩):=by
 have h1:iT P fg f fn:= .of hfn hok
 obtain⟨hc,hm⟩:fT P fg (iZ tab)∧iR (iZ tab):=JY fun p hp=>by
  obtain⟨c,hc,rfl⟩:=List.mem_map.1 hp
  exact htab c hc
 have hrun:∀a b,F a=some b→∀N,fn.ntmps≤N→eD P fg (fun _=>false) N (oo fn) (eG (aO A a) 0 .leaf) ⟨.leaf,0,0,0⟩ (Fin (Ik T fn B eS) b):=fun a b hab N hN=>by
  rw [hF]at hab
  have:=VC hx hT hc hm (oo fn) (sx hN _ (h1.2.2 _ (ra hb))) (bg B) _ Zw (Ik T fn B eS) b hab
  rw [Gr,yj]at this
  exact this
 have hres:∀a b,F a=some b→bu.res ⟨f,A,B,F,eS,none⟩ a=ar (aO B b):=fun a b hab=>by
  unfold bu.res
  show @Option.rec (bg B) (fun _=>Value) undef (fun r=>ar (aO B r)) (F a)=_
  rw [hab]
 have hends:∀{b:bg B}{x:gn}{e:Env}{σ:aD},Fin (Ik T fn B eS) b x e σ→(x= .normal∨x= .ret)∧∃ss:ay,norm σ=ss.g∧∃l,oC (not eS) (fun b=>iff eS none (bY [] ss b)) B l some=some b∧bq T σ e fn.results.toList=some (l.map Sym.val):=fun{b x e σ} hq=>by
  obtain⟨se,ss,rfl,h2,h3⟩:=hq
  have key:ja T fn.results.toList se ss (fun l=>oC (not eS) (fun b=>iff eS none (bY [] ss b)) B l some)=some b→∃ss:ay,norm σ=ss.g∧∃l,oC (not eS) (fun b=>iff eS none (bY [] ss b)) B l some=some b∧bq T σ (aI.g se) fn.results.toList=some (l.map Sym.val):=fun h3=>by
   obtain⟨l,g1,g2⟩:=mC T _ _ _ h3
   refine⟨ss,h2,l,g1,?_⟩
   rw [←h2,kP fun _=>rfl]at g2
   exact g2
  cases x with
  |normal=>exact⟨.inl rfl,key h3⟩
  |exit id=>cases h3
  |ret=>exact⟨.inr rfl,key h3⟩
 cases eS with
 |false=>
  show aJ P fg f (sG (vF A) [] (fun a=>(F a).isSome=true) (bu.res ⟨f,A,B,F,false,none⟩))
  refine⟨fun args σ v σ' he=>by rw [(rf he).1];exact .refl σ,fun args σ v σ' he=>?_⟩
  obtain⟨rfl,ht,a,ha,hva,rfl⟩:=rf he
  obtain⟨b,hab⟩:=Option.isSome_iff_exists.1 ha
  rw [hres a b hab]
  rw [dN]at hva
  have hent:Entry fg (fun k=>jK k []) (DS (fun _=>none) [] []) args (aO A a) σ' (DT [] 0):=oq (tabs:=[]) (n:=0) rfl (fun p hp=>by cases hp) (fun g hg=>by cases hg) ht hva fun _ cells h=>(by cases (show none=some cells from h))
  refine zQ h1 (ra hb) hT hent (fun _=>rfl) ?_ fun N hN=>?_
  ·have:=(vF B).closed pB b rfl
   rw [dN]at this
   exact this.Ex
  ·refine eD.mono (show eD P fg (fun k=>jK k []) N (oo fn) (eG (aO A a) 0 .leaf) (DT [] 0) (Fin (Ik T fn B false) b)from hrun a b hab N hN) fun x e σ1 hq=>?_
   obtain⟨hxx,ss,h2,l,h3,h4⟩:=hends hq
   have hva:VA (seen σ1) (ar (aO B b)) (ar (l.map Sym.val)):=by
    have hcol:mu (bX (seen σ1)) true (bY [] ss):=tB rfl (fun _=>rfl) fun k n nn ch hp=>by
     obtain⟨_,g1,g2⟩:=CE hp
     have hs:∀k,(seen σ1).fz k=ownRow ss.g k:=fun k=>by
      show ownRow σ1 k=_
      rw [←h2];rfl
     exact⟨rfl,fun hn=>(hs k).trans (g1 hn),fun hn hnn=>(hs k).trans (g2 hn hnn)⟩
    obtain⟨y,g1,g2⟩:=tF hcol _ _ _ _ (show oC true (bY [] ss) B l some=some b from h3)
    cases g1
    exact g2.Ex
   rcases hxx with rfl|rfl
   ·exact⟨_,h4,hva⟩
   ·exact⟨_,h4,hva⟩
 |true=>
  show aJ P fg f (uV (vF A) [] (fun a=>(F a).isSome=true) (bu.res ⟨f,A,B,F,true,none⟩))
  refine⟨fun args σ v σ' he=>by rw [(re he).1];exact .refl σ,fun args σ v σ' he=>?_⟩
  obtain⟨rfl,ht,a,ha,hva,rfl⟩:=re he
  obtain⟨b,hab⟩:=Option.isSome_iff_exists.1 ha
  rw [hres a b hab]
  rw [dN]at hva
  have hFz:∀b cells,σ'.row b=some cells→∃e aA ro,σ'.obj b=some (.cells cells e aA ro false):=fun b cells hb=>by
   obtain⟨e,aA,ro,ho⟩:=Dy hb
   exact⟨e,aA,ro,ho⟩
  have hent:Entry fg (fun k=>jK k []) (BW [] σ') args (aO A a) σ' (DT [] 0):=oq (tabs:=[]) (n:=0) rfl (fun p hp=>by cases hp) (fun g hg=>by cases hg) ht hva hFz
  refine Hv h1 (ra hb) hT hent fun N hN=>?_
  refine eD.mono (show eD P fg (fun k=>jK k []) N (oo fn) (eG (aO A a) 0 .leaf) (DT [] 0) (Fin (Ik T fn B true) b)from hrun a b hab N hN) fun x e σ1 hq=>?_
  obtain⟨hxx,ss,h2,l,h3,h4⟩:=hends hq
  obtain⟨y,g1,g2⟩:=yk _ _ _ _ (show oC false (fun _=>none) B l some=some b from h3)
  cases g1
  have hv:VA QJ (ar (aO B b)) (ar (aO B b)):=(yl B b (hl rfl)).Ex
  have key:uT (fun k=>jK k []) (BW [] σ') QJ id σ' σ' σ1 (ar (l.map Sym.val)) (ar (aO B b)):=by
   rw [←g2]
   exact⟨Nat.le_refl _,rfl,rfl,fun _ _=>rfl,fun j h1 h2=>(by omega),fun k k' sh h=>(by cases h),hv,rfl,fun h=>(by cases h)⟩
  rcases hxx with rfl|rfl
  ·exact⟨_,h4,_,id,key⟩
  ·exact⟨_,h4,_,id,key⟩
end
inductive Cons(P:Program):List bu→Prop
 |nil:Cons P []
 |cons {c:bu} {l:List bu} (h:aJ P fg c.f c.spec) (hl:Cons P l):Cons P (c::l)
theorem Cons.all{P:Program}{l:List bu}(h:Cons P l):∀c∈l,aJ P fg c.f c.spec:=by
 induction h with
 |nil=>intro c hc;cases hc
 |cons h _ ih=>
  intro c hc
  rcases List.mem_cons.1 hc with rfl|hc
  ·exact h
  ·exact ih c hc
end Go.az
end
