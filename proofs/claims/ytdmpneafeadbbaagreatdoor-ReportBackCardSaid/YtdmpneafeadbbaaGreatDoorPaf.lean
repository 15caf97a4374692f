/- What the card of ReportBack leans on, part 6: written with few blanks and short names by a program out of longer texts. Conditions: those of each lemma. -/
import Derived.Test.YtdmpneafeadbbaaGreatDoorPae
set_option maxRecDepth 100000
set_option linter.unusedVariables false
set_option linter.unusedSimpArgs false
noncomputable section
namespace Go.az
theorem eC.all(l:List Value):eC l 0 l:=⟨by omega,by simp⟩
theorem eC.left{a b cs:List Value}{off:Nat}(h:eC a off cs):eC (a++b) off cs:=by
 refine⟨by have:=h.1;simp;omega,?_⟩
 have h1:=h.1
 rw [List.drop_append_of_le_length (by omega),List.take_append_of_le_length (by simp;omega)]
 exact h.2
theorem eC.right{a b cs:List Value}{off:Nat}(h:eC b off cs):eC (a++b) (a.length+off) cs:=by
 refine⟨by have:=h.1;simp;omega,?_⟩
 rw [List.drop_append,List.drop_eq_nil_of_le (by omega),List.nil_append,Nat.add_sub_cancel_left]
 exact h.2
theorem eC.trans{a b c:List Value}{i j:Nat}(h:eC a i b)(h':eC b j c):eC a (i+j) c:=by
 have:=h.sub j c.length h'.1
 rw [h'.2]at this
 exact this
theorem eC.mq{l cs:List Value}{off:Nat}(h:eC l off cs):az.sub l off cs.length=some cs:=by
 unfold az.sub
 rw [fQ]
 have key:∀(n:Nat)(m:List Value),n≤m.length→lq n m=some (m.take n):=by
  intro n
  induction n with
  |zero=>intro m _;rfl
  |succ n ih=>
   intro m hm
   cases m with
   |nil=>simp at hm
   |cons a m=>
    show andThen (lq n m) (fun r=>some (a::r))=_
    rw [ih m (by simpa using hm)];rfl
 rw [key _ _ (by have:=h.1;simp;omega),h.2]
theorem eC.one{l:List Value}{v:Value}{off:Nat}(h:eC l off [v]):aU off l=some v:=by
 rw [bW]
 have h1:=h.1
 have h2:=h.2
 simp at h1
 rw [List.getElem?_eq_getElem (by omega)]
 have:(l.drop off).take 1=[l[off]]:=by
  rw [List.drop_eq_getElem_cons (by omega)];rfl
 rw [show [v].length=1 from rfl,this]at h2
 simpa using h2
theorem zT{α:Type}{a b:List α}{n:Nat}(h:a.length≤n):(a++b).drop n=b.drop (n-a.length):=by
 rw [List.drop_append,List.drop_eq_nil_of_le (as:=a) h,List.nil_append]
theorem eC.row{α:Type}{c:α→List Value}{z:Nat}:∀{l:List α},(∀x∈l,(c x).length=z)→∀{q:Nat}{y:α},l[q]? =some y→eC (l.map c).flatten (q*z) (c y)
 | [],_,q,y,h=>by simp at h
 |a::l,hz,0,y,h=>by
  simp at h;subst h
  rw [Nat.zero_mul,List.map_cons,List.flatten_cons]
  exact(eC.all _).left
 |a::l,hz,q+1,y,h=>by
  rw [List.map_cons,List.flatten_cons]
  have:=(eC.row (l:=l) (fun x hx=>hz x (List.mem_cons_of_mem _ hx)) (q:=q) (y:=y) (by simpa using h)).right (a:=c a)
  rw [hz a (by simp)]at this
  rw [Nat.succ_mul,Nat.add_comm]
  exact this
section
variable {R:Type}
def lH(off n z:Nat):Bool:=and (dS off) (Nat.beq n z)
theorem tu{off n z:Nat}(h:lH off n z=true):off=0∧n=z:=by
 unfold lH at h
 simp only [Bool.and_eq_true,Tr.bz,beq_iff]at h
 exact h
def QL(a:Ty):Ty→Bool
 | .unit=>dz a
 |_=>false
def pH:(t:Ty)→El t→Nat→Nat→Bool→(Sym→Option R)→Option R
 | .pair a b=>fun x off n ag K=>iff (and (lH off n (al (.pair a b))) (and ag (not (QL a b)))) (K (.d (.pair a b) x))
   (iff (Nat.ble (Nat.add off n) (al a)) (pH a x.1 off n ag K) (iff (Nat.ble (al a) off) (pH b x.2 (Nat.sub off (al a)) n ag K) none))
 | .arr m t=>fun x off n ag K=>iff (and (lH off n (al (.arr m t))) ag) (K (.d (.arr m t) x))
   (iff (Nat.ble (Nat.add (Nat.mod off (al t)) n) (al t)) (andThen (aU (Nat.div off (al t)) x.1) fun y=>pH t y (Nat.mod off (al t)) n ag K) none)
 | .unit=>fun _ _ _ _ _=>none
 | .bool=>fun x off n ag K=>iff (and (lH off n (nat_lit 1)) (not ag)) (K (.v (.bool x))) none
 | .int k=>fun x off n ag K=>iff (and (lH off n (nat_lit 1)) (not ag)) (K (.v (.int k x))) none
 | .str=>fun x off n ag K=>iff (and (lH off n (nat_lit 1)) (not ag)) (K (.v (.string ⟨⟨x⟩⟩))) none
 | .slice t=>fun x off n ag K=>iff (and (lH off n (nat_lit 1)) (not ag)) (K (.d (.slice t) x)) none
structure zU(l:List Value)(off n:Nat)(ag:Bool)(u:Sym):Prop where
 ok:u.ok=true
 agg:u.isAgg=ag
 size:u.cells.length=n
 win:eC l off u.cells
theorem zU.left{a b:List Value}{off n:Nat}{ag:Bool}{u:Sym}(h:zU a off n ag u):zU (a++b) off n ag u:=⟨h.ok,h.agg,h.size,h.win.left⟩
theorem zU.right{a b:List Value}{off off' n:Nat}{ag:Bool}{u:Sym}(h:zU b off n ag u)(ho:off'=a.length+off):zU (a++b) off' n ag u:=⟨h.ok,h.agg,h.size,by rw [ho];exact h.win.right⟩
theorem zU.inside{a b:List Value}{i off off' n:Nat}{ag:Bool}{u:Sym}(h:zU b off n ag u)(hw:eC a i b)(ho:off'=i+off):zU a off' n ag u:=⟨h.ok,h.agg,h.size,by rw [ho];exact hw.trans h.win⟩
theorem aG{α:Type}{c:Bool}{a b:Option α}{r:α}(h:iff c a b=some r):(c=true∧a=some r)∨(c=false∧b=some r):=by
 cases c with
 |true=>exact .inl ⟨rfl,h⟩
 |false=>exact .inr ⟨rfl,h⟩
theorem rh{t:Ty}{x:El t}{off n:Nat}{ag:Bool}(h:lH off n (al t)=true)(ha:dz t=ag):zU (ah t x) off n ag (nK t x):=by
 obtain⟨rfl,rfl⟩:=tu h
 exact⟨DY t x,by rw [zS,ha],by rw [eR,aH],by rw [eR];exact eC.all _⟩
theorem tw:∀(t:Ty)(x:El t)(off n:Nat)(ag:Bool)(K:Sym→Option R)(r:R),pH t x off n ag K=some r→∃u,K u=some r∧zU (ah t x) off n ag u:=by
 intro t
 have leaf:∀(t:Ty)(x:El t)(off n:Nat)(ag:Bool)(K:Sym→Option R)(r:R),dz t=false→al t=1→iff (and (lH off n 1) (not ag)) (K (nK t x)) none=some r→∃u,K u=some r∧zU (ah t x) off n ag u:=by
  intro t x off n ag K r ha hz h
  obtain⟨hc,h⟩:=aj h
  rw [Bool.and_eq_true]at hc
  refine⟨_,h,rh (by rw [hz];exact hc.1) (by rw [ha];simpa using hc.2)⟩
 induction t with
 |bool=>intro x off n ag K r h;exact leaf .bool x off n ag K r rfl rfl h
 |int k=>intro x off n ag K r h;exact leaf (.int k) x off n ag K r rfl rfl h
 |str=>intro x off n ag K r h;exact leaf .str x off n ag K r rfl rfl h
 |slice t _=>intro x off n ag K r h;exact leaf (.slice t) x off n ag K r rfl rfl h
 |unit=>intro x off n ag K r h;cases (show none=some r from h)
 |pair a b iha ihb=>
  intro x off n ag K r h
  rcases aG (show iff (and (lH off n (al (.pair a b))) (and ag (not (QL a b)))) (K (.d (.pair a b) x)) (iff (Nat.ble (Nat.add off n) (al a)) (pH a x.1 off n ag K) (iff (Nat.ble (al a) off) (pH b x.2 (Nat.sub off (al a)) n ag K) none))=some r from h)with⟨hc,h⟩|⟨_,h⟩
  ·rw [Bool.and_eq_true]at hc
   have hag:=hc.2
   rw [Bool.and_eq_true]at hag
   exact⟨_,h,rh hc.1 hag.1.symm⟩
  ·rcases aG h with⟨_,h⟩|⟨_,h⟩
   ·obtain⟨u,h1,h2⟩:=iha x.1 off n ag K r h
    exact⟨u,h1,h2.left⟩
   ·obtain⟨hc,h⟩:=aj h
    rw [bk]at hc
    obtain⟨u,h1,h2⟩:=ihb x.2 _ n ag K r h
    exact⟨u,h1,zU.right (a:=ah a x.1) h2 (by rw [aH];show off=al a+(off-al a);omega)⟩
 |arr m t ih=>
  intro x off n ag K r h
  rcases aG (show iff (and (lH off n (al (.arr m t))) ag) (K (.d (.arr m t) x)) (iff (Nat.ble (Nat.add (Nat.mod off (al t)) n) (al t)) (andThen (aU (Nat.div off (al t)) x.1) fun y=>pH t y (Nat.mod off (al t)) n ag K) none)=some r from h)with⟨hc,h⟩|⟨_,h⟩
  ·rw [Bool.and_eq_true]at hc
   exact⟨_,h,rh hc.1 hc.2.symm⟩
  ·obtain⟨_,h⟩:=aj h
   obtain⟨y,h1,h⟩:=aa h
   rw [bW]at h1
   obtain⟨u,h2,h3⟩:=ih y _ n ag K r h
   exact⟨u,h2,h3.inside (eC.row (fun x _=>aH t x) h1) (by show off=off / al t*al t+off % al t;rw [Nat.mul_comm];exact(Nat.div_add_mod _ _).symm)⟩
def x7:Sym→Nat→(Sym→Option R)→Option R
 | .cons a r=>fun n K=>iff (dS n) (K .nil) (iff (Nat.ble a.size n) (x7 r (Nat.sub n a.size) fun l=>K (.cons a l)) none)
 | .nil=>fun n K=>iff (dS n) (K .nil) none
 |_=>fun _ _=>none
theorem BY:∀(s:Sym)(n:Nat)(K:Sym→Option R)(r:R),x7 s n K=some r→∃u,K u=some r∧u.cells.length=n∧eC s.cells 0 u.cells:=by
 intro s
 have nl:∀(s:Sym)(n:Nat),dS n=true→(Sym.nil).cells.length=n∧eC s.cells 0 (Sym.nil).cells:=fun s n hn=>by
  rw [Tr.bz]at hn
  exact⟨hn.symm,by show 0+0≤_;omega,rfl⟩
 induction s with
 |cons a s _ ih=>
  intro n K r h
  rcases aG (show iff (dS n) (K .nil) (iff (Nat.ble a.size n) (x7 s (Nat.sub n a.size) fun l=>K (.cons a l)) none)=some r from h)with⟨hc,h⟩|⟨_,h⟩
  ·exact⟨_,h,nl _ n hc⟩
  ·obtain⟨hc,h⟩:=aj h
   rw [bk]at hc
   obtain⟨u,h1,h2,h3⟩:=ih _ _ r h
   refine⟨_,h1,?_,?_,?_⟩
   ·show(a.cells++u.cells).length=n
    rw [List.length_append,h2,Sym.size_eq]
    show a.size+(n-a.size)=n
    omega
   ·show 0+(a.cells++u.cells).length≤(a.cells++s.cells).length
    have:=h3.1
    simp at this ⊢
    omega
   ·show((a.cells++s.cells).drop 0).take (a.cells++u.cells).length=a.cells++u.cells
    have:=h3.2
    rw [List.drop_zero]at this ⊢
    rw [List.length_append,List.take_length_add_append,this]
 |nil=>
  intro n K r h
  obtain⟨hc,h⟩:=aj (show iff (dS n) (K .nil) none=some r from h)
  exact⟨_,h,nl _ n hc⟩
 |_=>intro n K r h;cases (show none=some r from h)
def sI:Sym→Nat→(Sym→Option R)→Option R
 | .cons a r=>fun n K=>iff (dS n) (K (.cons a r)) (iff (Nat.ble a.size n) (sI r (Nat.sub n a.size) K) none)
 | .nil=>fun n K=>iff (dS n) (K .nil) none
 |_=>fun _ _=>none
theorem uZ:∀(s:Sym)(n:Nat)(K:Sym→Option R)(r:R),sI s n K=some r→∃u,K u=some r∧n≤s.cells.length∧u.cells=s.cells.drop n:=by
 intro s
 induction s with
 |cons a s _ ih=>
  intro n K r h
  rcases aG (show iff (dS n) (K (.cons a s)) (iff (Nat.ble a.size n) (sI s (Nat.sub n a.size) K) none)=some r from h)with⟨hc,h⟩|⟨_,h⟩
  ·rw [Tr.bz]at hc
   subst hc
   exact⟨_,h,Nat.zero_le _,rfl⟩
  ·obtain⟨hc,h⟩:=aj h
   rw [bk]at hc
   obtain⟨u,h1,h2,h3⟩:=ih _ _ r h
   refine⟨_,h1,?_,?_⟩
   ·show n≤(a.cells++s.cells).length
    rw [List.length_append,Sym.size_eq]
    have:n-a.size≤s.cells.length:=h2
    omega
   ·rw [h3]
    show List.drop (n-a.size) s.cells=(a.cells++s.cells).drop n
    rw [zT (by rw [Sym.size_eq];exact hc),Sym.size_eq]
 |nil=>
  intro n K r h
  obtain⟨hc,h⟩:=aj (show iff (dS n) (K .nil) none=some r from h)
  rw [Tr.bz]at hc
  subst hc
  exact⟨_,h,Nat.zero_le _,rfl⟩
 |_=>intro n K r h;cases (show none=some r from h)
def ri:Sym→Nat→Nat→Bool→(Sym→Option R)→Option R
 | .d t x=>pH t x
 | .agg l=>ri l
 | .rw t xs=>fun off n ag K=>iff (Nat.ble (Nat.add (Nat.mod off (al t)) n) (al t)) (andThen (aU (Nat.div off (al t)) xs) fun y=>pH t y (Nat.mod off (al t)) n ag K) none
 | .cons a s=>fun off n ag K=>iff a.Ob (ri a off n ag K) <|
   iff (Nat.ble a.size off) (ri s (Nat.sub off a.size) n ag K)
   (iff (and (and (lH off n a.size) (a.isAgg==ag)) a.ok) (K a)
   (iff (and ag (and (dS off) (Nat.ble a.size n))) (x7 (.cons a s) n fun l=>K (.agg l))
   (iff (Nat.ble (Nat.add off n) a.size) (ri a off n ag K) none)))
 |_=>fun _ _ _ _=>none
theorem tx:∀(s:Sym)(off n:Nat)(ag:Bool)(K:Sym→Option R)(r:R),ri s off n ag K=some r→∃u,K u=some r∧zU s.cells off n ag u:=by
 intro s
 induction s with
 |d t x=>intro off n ag K r h;exact tw t x off n ag K r h
 |agg l ih=>intro off n ag K r h;exact ih off n ag K r h
 |rw t xs=>
  intro off n ag K r h
  obtain⟨_,h⟩:=aj (show iff (Nat.ble (Nat.add (Nat.mod off (al t)) n) (al t)) (andThen (aU (Nat.div off (al t)) xs) fun y=>pH t y (Nat.mod off (al t)) n ag K) none=some r from h)
  obtain⟨y,h1,h⟩:=aa h
  rw [bW]at h1
  obtain⟨u,h2,h3⟩:=tw t y _ n ag K r h
  exact⟨u,h2,h3.inside (eC.row (fun x _=>aH t x) h1) (by show off=off / al t*al t+off % al t;rw [Nat.mul_comm];exact(Nat.div_add_mod _ _).symm)⟩
 |cons a s iha ihs=>
  intro off n ag K r h
  rcases aG (show iff a.Ob (ri a off n ag K) (iff (Nat.ble a.size off) (ri s (Nat.sub off a.size) n ag K) (iff (and (and (lH off n a.size) (a.isAgg==ag)) a.ok) (K a) (iff (and ag (and (dS off) (Nat.ble a.size n))) (x7 (.cons a s) n fun l=>K (.agg l)) (iff (Nat.ble (Nat.add off n) a.size) (ri a off n ag K) none))))=some r from h)with⟨_,h⟩|⟨_,h⟩
  ·obtain⟨u,h1,h2⟩:=iha off n ag K r h
   exact⟨u,h1,h2.left⟩
  rcases aG h with⟨hc,h⟩|⟨_,h⟩
  ·rw [bk]at hc
   obtain⟨u,h1,h2⟩:=ihs _ n ag K r h
   exact⟨u,h1,zU.right (a:=a.cells) h2 (by rw [Sym.size_eq];show off=a.size+(off-a.size);omega)⟩
  ·rcases aG h with⟨hc,h'⟩|⟨_,h⟩
   ·simp only [Bool.and_eq_true,beq_iff_eq]at hc
    obtain⟨rfl,rfl⟩:=tu hc.1.1
    exact⟨a,h',hc.2,hc.1.2,Sym.size_eq a,(eC.all a.cells).left⟩
   ·rcases aG h with⟨hc,h⟩|⟨_,h⟩
    ·simp only [Bool.and_eq_true,Tr.bz]at hc
     obtain⟨u,h1,h2,h3⟩:=BY _ _ _ _ h
     obtain⟨rfl,rfl,_⟩:=hc
     exact⟨_,h1,rfl,rfl,h2,h3⟩
    ·obtain⟨_,h⟩:=aj h
     obtain⟨u,h1,h2⟩:=iha off n ag K r h
     exact⟨u,h1,h2.left⟩
 |_=>intro off n ag K r h;cases (show none=some r from h)
structure fW(l:List Value)(off:Nat)(c:List Value)(u:List Value):Prop where
 le:off+c.length≤l.length
 eq:u=l.take off++c++l.drop (off+c.length)
theorem fW.splice{l c u:List Value}{off:Nat}(h:fW l off c u):splice c off l=some u:=by
 have key:∀(off:Nat)(l:List Value),off+c.length≤l.length→az.splice c off l=some (l.take off++c++l.drop (off+c.length)):=by
  intro off
  induction off with
  |zero=>
   intro l hl
   show over c l=_
   have:∀(c l:List Value),c.length≤l.length→over c l=some (c++l.drop c.length):=by
    intro c
    induction c with
    |nil=>intro l _;rfl
    |cons v c ih=>
     intro l hl
     cases l with
     |nil=>simp at hl
     |cons a l=>
      show andThen (over c l) (fun r=>some (v::r))=_
      rw [ih l (by simpa using hl)];rfl
   rw [this c l (by omega)]
   simp
  |succ off ih=>
   intro l hl
   cases l with
   |nil=>simp at hl
   |cons a l=>
    show andThen (az.splice c off l) (fun r=>some (a::r))=_
    rw [ih l (by simp at hl;omega)]
    simp [andThen,Nat.succ_add]
 rw [key off l h.le,h.eq]
theorem fW.left{a b c u:List Value}{off:Nat}(h:fW a off c u):fW (a++b) off c (u++b):=by
 have h1:=h.le
 refine⟨by simp;omega,?_⟩
 rw [h.eq,List.take_append_of_le_length (by omega),List.drop_append_of_le_length h1]
 simp
theorem fW.right{a b c u:List Value}{off off':Nat}(h:fW b off c u)(ho:off'=a.length+off):fW (a++b) off' c (a++u):=by
 have h1:=h.le
 subst ho
 refine⟨by simp;omega,?_⟩
 rw [h.eq,Nat.add_assoc,List.take_length_add_append,zT (a:=a) (by omega),Nat.add_sub_cancel_left]
 simp
theorem fW.whole(l c:List Value)(h:c.length=l.length):fW l 0 c c:=⟨by omega,by rw [List.take_zero,List.drop_eq_nil_of_le (by omega)];simp⟩
theorem fW.inside{a b c u:List Value}{i off off':Nat}(h:fW b off c u)(hw:eC a i b)(ho:off'=i+off):fW a off' c (a.take i++u++a.drop (i+b.length)):=by
 subst ho
 have h1:=h.le
 have h2:=hw.1
 have ha:a=a.take i++b++a.drop (i+b.length):=by
  have:=List.take_append_drop i a
  have h3:=List.take_append_drop b.length (a.drop i)
  rw [hw.2,List.drop_drop]at h3
  rw [List.append_assoc,h3,this]
 have h3:fW (a.take i++b++a.drop (i+b.length)) (i+off) c (a.take i++u++a.drop (i+b.length)):=(h.right (a:=a.take i) (by rw [List.length_take];omega)).left
 rw [←ha]at h3
 exact h3
def BZ:(t:Ty)→El t→Nat→Nat→Sym→(Sym→Option R)→Option R
 | .pair a b=>fun x off n w K=>iff (lH off n (al (.pair a b))) (K w)
   (iff (Nat.ble (Nat.add off n) (al a)) (BZ a x.1 off n w fun u=>K (.agg (.cons u (.cons (nK b x.2) .nil))))
   (iff (Nat.ble (al a) off) (BZ b x.2 (Nat.sub off (al a)) n w fun u=>K (.agg (.cons (nK a x.1) (.cons u .nil)))) none))
 |t=>fun _ off n w K=>iff (lH off n (al t)) (K w) none
theorem FM:∀(t:Ty)(x:El t)(off n:Nat)(w:Sym)(K:Sym→Option R)(r:R),w.ok=true→w.cells.length=n→BZ t x off n w K=some r→∃u,K u=some r∧u.ok=true∧fW (ah t x) off w.cells u.cells:=by
 intro t
 have leaf:∀(t:Ty)(x:El t)(off n:Nat)(w:Sym)(K:Sym→Option R)(r:R),w.ok=true→w.cells.length=n→iff (lH off n (al t)) (K w) none=some r→∃u,K u=some r∧u.ok=true∧fW (ah t x) off w.cells u.cells:=by
  intro t x off n w K r ho hn h
  obtain⟨hc,h'⟩:=aj h
  obtain⟨rfl,hz⟩:=tu hc
  exact⟨w,h',ho,fW.whole _ _ (by rw [hn,hz,aH])⟩
 induction t with
 |pair a b iha ihb=>
  intro x off n w K r ho hn h
  rcases aG (show iff (lH off n (al (.pair a b))) (K w) (iff (Nat.ble (Nat.add off n) (al a)) (BZ a x.1 off n w fun u=>K (.agg (.cons u (.cons (nK b x.2) .nil)))) (iff (Nat.ble (al a) off) (BZ b x.2 (Nat.sub off (al a)) n w fun u=>K (.agg (.cons (nK a x.1) (.cons u .nil)))) none))=some r from h)with⟨hc,h'⟩|⟨_,h⟩
  ·obtain⟨rfl,hz⟩:=tu hc
   exact⟨w,h',ho,fW.whole _ _ (by rw [hn,hz,aH])⟩
  ·rcases aG h with⟨_,h⟩|⟨_,h⟩
   ·obtain⟨u,h1,_,h3⟩:=iha x.1 off n w _ r ho hn h
    refine⟨_,h1,rfl,?_⟩
    show fW (ah a x.1++ah b x.2) off w.cells (u.cells++((nK b x.2).cells++[]))
    rw [List.append_nil,eR]
    exact h3.left
   ·obtain⟨hc,h⟩:=aj h
    rw [bk]at hc
    obtain⟨u,h1,_,h3⟩:=ihb x.2 _ n w _ r ho hn h
    refine⟨_,h1,rfl,?_⟩
    show fW (ah a x.1++ah b x.2) off w.cells ((nK a x.1).cells++(u.cells++[]))
    rw [List.append_nil,eR]
    exact h3.right (by rw [aH];show off=al a+(off-al a);omega)
 |bool=>intro x off n w K r ho hn h;exact leaf .bool x off n w K r ho hn h
 |int k=>intro x off n w K r ho hn h;exact leaf (.int k) x off n w K r ho hn h
 |str=>intro x off n w K r ho hn h;exact leaf .str x off n w K r ho hn h
 |unit=>intro x off n w K r ho hn h;exact leaf .unit x off n w K r ho hn h
 |slice t _=>intro x off n w K r ho hn h;exact leaf (.slice t) x off n w K r ho hn h
 |arr m t _=>intro x off n w K r ho hn h;exact leaf (.arr m t) x off n w K r ho hn h
def xc:Sym→Nat→Nat→Sym→(Sym→Option R)→Option R
 | .d t x=>BZ t x
 | .agg l=>fun off n w K=>xc l off n w fun u=>K (.agg u)
 | .cons a s=>fun off n w K=>
   iff (Nat.ble a.size off) (xc s (Nat.sub off a.size) n w fun u=>K (.cons a u))
   (iff (and (dS off) (Nat.ble a.size n)) (sI s (Nat.sub n a.size) fun u=>K (.cons w u))
   (iff (Nat.ble (Nat.add off n) a.size) (xc a off n w fun u=>K (.cons u s)) none))
 |_=>fun _ _ _ _=>none
theorem FN:∀(s:Sym)(off n:Nat)(w:Sym)(K:Sym→Option R)(r:R),w.ok=true→w.cells.length=n→xc s off n w K=some r→∃u,K u=some r∧fW s.cells off w.cells u.cells:=by
 intro s
 induction s with
 |d t x=>intro off n w K r ho hn h;obtain⟨u,h1,_,h3⟩:=FM t x off n w K r ho hn h;exact⟨u,h1,h3⟩
 |agg l ih=>intro off n w K r ho hn h;obtain⟨u,h1,h3⟩:=ih off n w _ r ho hn h;exact⟨_,h1,h3⟩
 |cons a s iha ihs=>
  intro off n w K r ho hn h
  rcases aG (show iff (Nat.ble a.size off) (xc s (Nat.sub off a.size) n w fun u=>K (.cons a u)) (iff (and (dS off) (Nat.ble a.size n)) (sI s (Nat.sub n a.size) fun u=>K (.cons w u)) (iff (Nat.ble (Nat.add off n) a.size) (xc a off n w fun u=>K (.cons u s)) none))=some r from h)with⟨hc,h⟩|⟨_,h⟩
  ·rw [bk]at hc
   obtain⟨u,h1,h3⟩:=ihs _ n w _ r ho hn h
   exact⟨_,h1,fW.right (a:=a.cells) h3 (by rw [Sym.size_eq];show off=a.size+(off-a.size);omega)⟩
  ·rcases aG h with⟨hc,h'⟩|⟨_,h⟩
   ·rw [Bool.and_eq_true,Tr.bz,bk]at hc
    obtain⟨rfl,hc⟩:=hc
    obtain⟨u,h1,h2,h3⟩:=uZ _ _ _ _ h'
    have h2:n-a.size≤s.cells.length:=h2
    have h3:u.cells=s.cells.drop (n-a.size):=h3
    refine⟨_,h1,?_,?_⟩
    ·show 0+w.cells.length≤(a.cells++s.cells).length
     rw [List.length_append,Sym.size_eq a,hn]
     omega
    ·show w.cells++u.cells=(a.cells++s.cells).take 0++w.cells++(a.cells++s.cells).drop (0+w.cells.length)
     rw [h3,hn,List.take_zero,List.nil_append,Nat.zero_add,zT (by rw [Sym.size_eq];exact hc),Sym.size_eq]
   ·obtain⟨_,h⟩:=aj h
    obtain⟨u,h1,h3⟩:=iha off n w _ r ho hn h
    exact⟨_,h1,h3.left⟩
 |_=>intro off n w K r ho hn h;cases (show none=some r from h)
def x8:(t:Ty)→El t→Nat→((t:Ty)→El t→Option R)→Option R
 | .pair a b=>fun x off K=>iff (dS off) (K (.pair a b) x) (iff (Nat.blt off (al a)) (x8 a x.1 off fun a' y=>K (.pair a' b) (y,x.2)) (x8 b x.2 (Nat.sub off (al a)) K))
 |t=>fun x off K=>iff (dS off) (K t x) none
theorem J5:∀(t:Ty)(x:El t)(off:Nat)(K:(t:Ty)→El t→Option R)(r:R),x8 t x off K=some r→∃t' y,K t' y=some r∧off≤(ah t x).length∧ah t' y=(ah t x).drop off:=by
 intro t
 have leaf:∀(t:Ty)(x:El t)(off:Nat)(K:(t:Ty)→El t→Option R)(r:R),iff (dS off) (K t x) none=some r→∃t' y,K t' y=some r∧off≤(ah t x).length∧ah t' y=(ah t x).drop off:=by
  intro t x off K r h
  obtain⟨hc,h⟩:=aj h
  rw [Tr.bz]at hc
  subst hc
  exact⟨_,_,h,Nat.zero_le _,rfl⟩
 induction t with
 |pair a b iha ihb=>
  intro x off K r h
  rcases aG (show iff (dS off) (K (.pair a b) x) (iff (Nat.blt off (al a)) (x8 a x.1 off fun a' y=>K (.pair a' b) (y,x.2)) (x8 b x.2 (Nat.sub off (al a)) K))=some r from h)with⟨hc,h⟩|⟨_,h⟩
  ·rw [Tr.bz]at hc
   subst hc
   exact⟨_,_,h,Nat.zero_le _,rfl⟩
  ·rcases aG h with⟨hc,h⟩|⟨hc,h⟩
   ·obtain⟨t',y,h1,h2,h3⟩:=iha _ _ _ _ h
    refine⟨_,_,h1,?_,?_⟩
    ·rw [mn,List.length_append];omega
    ·show ah t' y++ah b x.2=(ah a x.1++ah b x.2).drop off
     rw [List.drop_append_of_le_length h2,←h3]
   ·have hc:¬off<al a:=by rw [←bK,hc];decide
    obtain⟨t',y,h1,h2,h3⟩:=ihb _ _ _ _ h
    have h2:off-al a≤(ah b x.2).length:=h2
    have h3:ah t' y=(ah b x.2).drop (off-al a):=h3
    refine⟨_,_,h1,?_,?_⟩
    ·rw [mn,List.length_append,aH];omega
    ·rw [h3]
     show(ah b x.2).drop (off-al a)=(ah a x.1++ah b x.2).drop off
     rw [zT (by rw [aH];omega),aH]
 |bool=>intro x off K r h;exact leaf .bool x off K r h
 |int k=>intro x off K r h;exact leaf (.int k) x off K r h
 |str=>intro x off K r h;exact leaf .str x off K r h
 |unit=>intro x off K r h;exact leaf .unit x off K r h
 |slice t _=>intro x off K r h;exact leaf (.slice t) x off K r h
 |arr m t _=>intro x off K r h;exact leaf (.arr m t) x off K r h
end
end Go.az
namespace Go.az
def et{α β:Type}(f:α→Option β):Tr α→Tr β
 | .leaf=> .leaf
 | .node l v r=> .node (et f l) (v.bind f) (et f r)
theorem ko{α β:Type}(f:α→Option β):∀(t:Tr α)(n:Nat),(et f t).get n=(t.get n).bind f
 | .leaf,n=>rfl
 | .node l v r,n=>by
  rw [Tr.cw]
  show(Tr.node (et f l) (v.bind f) (et f r)).get n=_
  rw [Tr.cw,ko f l,ko f r]
  split
  ·rfl
  ·split<;>rfl
theorem mr{α β:Type}{f:α→Option β}{v:α}{w:β}(hv:f v=some w):∀(m n:Nat),et f (Tr.single m n v)=Tr.single m n w
 |0,n=>by
  show Tr.node .leaf (f v) .leaf=Tr.node .leaf (some w) .leaf
  rw [hv]
 |m+1,n=>by
  rw [Tr.kE,Tr.kE]
  split
  ·show Tr.node .leaf (f v) .leaf=Tr.node .leaf (some w) .leaf
   rw [hv]
  ·split
   ·show Tr.node (et f (Tr.single m (n / 2) v)) none .leaf=_
    rw [mr hv m]
   ·show Tr.node .leaf none (et f (Tr.single m (n / 2-1) v))=_
    rw [mr hv m]
theorem dA{α β:Type}{f:α→Option β}{v:α}{w:β}(hv:f v=some w):∀(t:Tr α)(n:Nat),et f (t.set n v)=(et f t).set n w
 | .leaf,n=>mr hv n n
 | .node l x r,n=>by
  rw [Tr.jY]
  show _=(Tr.node (et f l) (x.bind f) (et f r)).set n w
  rw [Tr.jY]
  split
  ·show Tr.node (et f l) (f v) (et f r)=_
   rw [hv]
  ·split
   ·show Tr.node (et f (l.set (n / 2) v)) (x.bind f) (et f r)=_
    rw [dA hv l]
   ·show Tr.node (et f l) (x.bind f) (et f (r.set (n / 2-1) v))=_
    rw [dA hv r]
theorem Tr.mV{α:Type}:∀(t:Tr α)(n:Nat)(v:α),t.get n=some v→t.set n v=t
 | .leaf,n,v,h=>by cases (show none=some v from h)
 | .node l x r,n,v,h=>by
  rw [Tr.cw]at h
  rw [Tr.jY]
  split
  ·rename_i h0
   rw [if_pos h0]at h
   rw [h]
  ·rename_i h0
   rw [if_neg h0]at h
   split
   ·rename_i h1
    rw [if_pos h1]at h
    rw [Tr.mV l _ v h]
   ·rename_i h1
    rw [if_neg h1]at h
    rw [Tr.mV r _ v h]
abbrev tz(kt vt:Ty):Ty:= .pair (.slice (.pair kt (.pair vt (.int .i64)))) (.int .i64)
def fj(kt vt:Ty)(x:El kt×El vt×Int):MapEntry:=⟨aT kt x.1,aT vt x.2.1,x.2.2.toNat⟩
def kp(kt vt:Ty)(x:El (tz kt vt)):List MapEntry:=List.map (fj kt vt) x.1
inductive cM where
 |wP (l:Sym) (e:Option Nat) (aA:Nat) (ro dead:Bool)
 |raw (o:aN)
 |may (nl nn:Bool) (l:Sym) (z aA:Nat)
 |mp (kt vt:Ty) (x:El (tz kt vt))
def cM.g:cM→Option aN
 | .wP l e aA ro dead=>some (.cells l.cells e aA ro dead)
 | .raw o=>some o
 | .may nl nn l z aA=>iff nl (iff nn none (some (.cells [] none aA false false))) (some (.cells l.cells (some z) aA false false))
 | .mp kt vt x=>some (.map (kp kt vt x) (Int.toNat x.2))
structure ay where
 heap:Tr cM
 next:Nat
 low:Nat
 bp:Nat
def ay.g(s:ay):aD:=⟨et cM.g s.heap,s.next,s.low,s.bp⟩
abbrev aI:=Tr Sym
def aI.g(e:aI):Env:=et (fun s=>some s.val) e
def FO(o:Option Sym):Sym:= @Option.rec Sym (fun _=>Sym) (.v I4) (fun v=>v) o
def RH:Operand→aI→Sym
 | .tmp t=>fun e=>FO (e.get t)
 | .const v=>fun _=>uY v
 | .global g=>fun _=> .v (.pointer (some ⟨g,0,none⟩))
 | .func f=>fun _=> .v (.func (.func f) #[] #[])
def pI(e:aI)(x:Operand):Sym:=RH x e
theorem pJ(e:aI)(x:Operand):(pI e x).val=env e.g x:=by
 cases x with
 |tmp t=>
  show(FO (e.get t)).val=fM ((aI.g e).get t)
  unfold aI.g
  rw [ko]
  cases e.get t<;>rfl
 |const v=>exact mU v
 |_=>rfl
theorem ay.iV(s:ay)(k:Nat):s.g.obj k=(s.heap.get k).bind cM.g:=ko _ _ _
def Vk(a b:IntKind):Bool:=Nat.beq (yQ a) (yQ b)
theorem Oc{a b:IntKind}(h:Vk a b=true):a=b:=(bG a b).1 h
def xd:Ty→Ty→Bool
 | .bool=>fun| .bool=>true|_=>false
 | .int k=>fun| .int k'=>Vk k k'|_=>false
 | .str=>fun| .str=>true|_=>false
 | .unit=>fun| .unit=>true|_=>false
 | .pair a b=>fun| .pair a' b'=>and (xd a a') (xd b b')|_=>false
 | .arr n t=>fun| .arr n' t'=>and (Nat.beq n n') (xd t t')|_=>false
 | .slice t=>fun| .slice t'=>xd t t'|_=>false
theorem tA:∀{a b:Ty},xd a b=true→a=b:=by
 intro a
 induction a with
 |int k=>intro b h;cases b<;>first|(cases h;done)|(rw [Oc h])
 |pair a b iha ihb=>
  intro c h
  cases c<;>first|(cases h;done)|skip
  rename_i a' b'
  have h:and (xd a a') (xd b b')=true:=h
  rw [Bool.and_eq_true]at h
  rw [iha h.1,ihb h.2]
 |arr n t ih=>
  intro c h
  cases c<;>first|(cases h;done)|skip
  rename_i n' t'
  have h:and (Nat.beq n n') (xd t t')=true:=h
  rw [Bool.and_eq_true,beq_iff]at h
  rw [h.1,ih h.2]
 |slice t ih=>
  intro c h
  cases c<;>first|(cases h;done)|skip
  rename_i t'
  rw [ih (show xd t t'=true from h)]
 |_=>intro b h;cases b<;>first|(cases h;done)|rfl
section
variable {R:Type}
def gj(t t':Ty)(x:El t):Option (El t'):=if h:xd t t'=true then some (tA h▸x)else none
theorem u9{t t':Ty}{x:El t}{y:El t'}(h:gj t t' x=some y):ah t' y=ah t x∧aT t' y=aT t x∧pF t' y=pF t x:=by
 unfold gj at h
 split at h
 ·rename_i hb
  obtain rfl:=tA hb
  cases h
  exact⟨rfl,rfl,rfl⟩
 ·cases h
def isUnit:Ty→Bool
 | .unit=>true
 |_=>false
def dK:Sym→Sym→Sym
 | .agg l=>dK l
 | .cons a r=>fun tail=>dK a (dK r tail)
 | .nil=>fun tail=>tail
 | .d t x=>fun tail=>iff (isUnit t) tail (.cons (.d t x) tail)
 |s=>fun tail=> .cons s tail
theorem dB:∀(s tail:Sym),(dK s tail).cells=s.cells++tail.cells:=by
 intro s
 induction s with
 |agg l ih=>intro tail;exact ih tail
 |cons a r iha ihr=>
  intro tail
  show(dK a (dK r tail)).cells=(a.cells++r.cells)++tail.cells
  rw [iha,ihr,List.append_assoc]
 |nil=>intro tail;rfl
 |d t x=>
  intro tail
  show(iff (isUnit t) tail (.cons (.d t x) tail)).cells=_
  cases t<;>rfl
 |_=>intro tail;rfl
def dC(s:Sym)(K:Sym→Sym→Option R):Option R:=match s with
 | .cons a r=>K a r
 |_=>none
theorem dD{s:Sym}{K:Sym→Sym→Option R}{r:R}(h:dC s K=some r):∃a t,s= .cons a t∧K a t=some r:=by
 cases s with
 |cons a t=>exact⟨a,t,rfl,h⟩
 |_=>cases h
def zV:Sym→Option Value
 | .v x=>some x
 |_=>none
theorem eM{s:Sym}{x:Value}(h:zV s=some x):s= .v x:=by
 cases s<;>first|(cases h;done)|(cases h;rfl)
def DZ(t:Ty):Sym→Option (El t)
 | .d t' x=>gj t' t x
 |_=>none
theorem zW{t:Ty}{s:Sym}{x:El t}(h:DZ t s=some x):s.cells=ah t x∧s.val=aT t x:=by
 cases s with
 |d t' y=>have:=u9 (show gj t' t y=some x from h);exact⟨this.1.symm,this.2.1.symm⟩
 |_=>cases h
def Od(t:Ty):Sym→Option (List (El t))
 | .rw t' xs=>gj (.slice t') (.slice t) xs
 | .d (.arr _ t') xs=>gj (.slice t') (.slice t) xs.1
 |_=>none
theorem FP{t t':Ty}{ys:List (El t')}{xs:List (El t)}(h:gj (.slice t') (.slice t) ys=some xs):(ys.map (ah t')).flatten=(xs.map (ah t)).flatten:=by
 unfold gj at h
 split at h
 ·rename_i hb
  have:=tA hb
  injection this with this
  subst this
  cases h
  rfl
 ·cases h
theorem FQ{t:Ty}{s:Sym}{xs:List (El t)}(h:Od t s=some xs):s.cells=(xs.map (ah t)).flatten:=by
 cases s with
 |rw t' ys=>exact FP (show gj (.slice t') (.slice t) ys=some xs from h)
 |d u y=>
  cases u with
  |arr n t'=>exact FP (show gj (.slice t') (.slice t) y.1=some xs from h)
  |_=>cases h
 |_=>cases h
def va:Sym→Option (Option Nat×Nat)
 | .v (.slice none 0 _)=>some (none,0)
 | .v (.slice (some ⟨b,0,_⟩) len _)=>some (some b,len)
 | .os b _ len=>some (some b,len)
 |_=>none
def Oe:Sym→Option (Nat×Nat×Nat)
 | .v (.slice (some ⟨b,off,_⟩) len _)=>some (b,off,len)
 |_=>none
theorem Of{s:Sym}{b off n:Nat}(h:Oe s=some (b,off,n)):∃sp c,s.cells=[.slice (some ⟨b,off,sp⟩) n c]:=by
 unfold Oe at h
 split at h
 ·cases h;exact⟨_,_,rfl⟩
 ·cases h
def D0:Sym→Option (Nat×Nat×Nat×Bool×Bool)
 | .mo b z len nl nn=>some (b,z,len,nl,nn)
 |_=>none
theorem jF{s:Sym}{b z len:Nat}{nl nn:Bool}(h:D0 s=some (b,z,len,nl,nn)):s= .mo b z len nl nn:=by
 cases s<;>first|(cases h;done)|(cases h;rfl)
def kz{α β:Type}(o:Option α)(f:α→Option β)(d:Option β):Option β:= @Option.rec α (fun _=>Option β) d f o
theorem bR{α β:Type}{o:Option α}{f:α→Option β}{d:Option β}{r:β}(h:kz o f d=some r):(∃a,o=some a∧f a=some r)∨(o=none∧d=some r):=by
 cases o with
 |none=>exact .inr ⟨rfl,h⟩
 |some a=>exact .inl ⟨a,rfl,h⟩
theorem D3{s:Sym}{n:Nat}(h:va s=some (none,n)):∃c,s.cells=[.slice none 0 c]:=by
 unfold va at h
 split at h
 ·exact⟨_,rfl⟩
 ·cases h
 ·cases h
 ·cases h
theorem D4{s:Sym}{b n:Nat}(h:va s=some (some b,n)):∃sp c,s.cells=[.slice (some ⟨b,0,sp⟩) n c]:=by
 unfold va at h
 split at h
 ·cases h
 ·cases h;exact⟨_,_,rfl⟩
 ·cases h;exact⟨_,_,rfl⟩
 ·cases h
def fo(t:Ty)(one:Sym→(El t→Sym→Option R)→Option R):Nat→Sym→(List (El t)→Option R)→Option R
 |0=>fun _ _=>none
 |n+1=>fun s K=>match s with
  | .nil=>K []
  | .cons a r=>match Od t a with
   |some ys=>(match r with
    | .nil=>K ys
    |_=>fo t one n r fun xs=>K (ys++xs))
   |none=>one (.cons a r) fun y r'=>fo t one n r' fun xs=>K (y::xs)
  |_=>none
def vf(t:Ty)(one:Sym→(El t→Sym→Option R)→Option R):(n:Nat)→Sym→(El (.arr n t)→Sym→Option R)→Option R
 |0=>fun s K=>K ⟨[],rfl⟩ s
 |n+1=>fun s K=>one s fun y r=>vf t one n r fun ys r'=>K ⟨y::ys.1,by rw [List.length_cons,ys.2]⟩ r'
def jL(nl:Bool)(hp:Nat→Option (Bool×Bool×Sym)):(t:Ty)→Sym→(El t→Sym→Option R)→Option R
 | .bool=>fun s K=>dC s fun a r=>andThen (zV a) fun v=>andThen (sd v) fun b=>K b r
 | .int k=>fun s K=>dC s fun a r=>andThen (zV a) fun v=>andThen (gI k v) fun n=>K n r
 | .str=>fun s K=>dC s fun a r=>andThen (zV a) fun v=>andThen (qD v) fun l=>K l r
 | .unit=>fun s K=>K () s
 | .pair a b=>fun s K=>dC s fun h r=>match DZ (.pair a b) h with
  |some x=>K x r
  |none=>jL nl hp a s fun y r'=>jL nl hp b r' fun z r''=>K (y,z) r''
 | .arr n t=>fun s K=>match n with
  |0=>K ⟨[],rfl⟩ s
  |n+1=>dC s fun h r=>match DZ (.arr (n+1) t) h with
   |some x=>K x r
   |none=>vf t (jL nl hp t) (n+1) s K
 | .slice t=>fun s K=>dC s fun h r=>match DZ (.slice t) h with
  |some x=>K x r
  |none=>kz (D0 h) (fun q=>au (hp q.1) fun n nn ch=>iff (dS (al t)) none (fo t (jL nl hp t) 2000 (dK ch .nil) fun xs=>iff (and (and nl (q.2.2.2.2==nn)) (or q.2.2.2.1 (and (not n) (Nat.beq q.2.2.1 xs.length)))) (K (iff q.2.2.2.1 [] xs) r) none)) <|
   kz (va h) (fun p=>match p.1 with
   |none=>iff nl (K [] r) none
   |some b=>au (hp b) fun n _ ch=>iff (or (dS (al t)) n) none (fo t (jL nl hp t) 2000 (dK ch .nil) fun xs=>iff (Nat.beq p.2 xs.length) (K xs r) none)) <|
   au (Oe h) fun b off len=>au (hp b) fun n _ ch=>iff n none (ri ch off (Nat.mul len (al t)) true fun u=>andThen (Od t u) fun xs=>iff (Nat.beq len xs.length) (K xs r) none)
structure mu(Rl:List Value→List Value→Prop)(nl:Bool)(hp:Nat→Option (Bool×Bool×Sym)):Prop where
 nil:Rl [] []
 app:∀{a b c d},Rl a b→Rl c d→Rl (a++c) (b++d)
 self:∀t x,Rl (ah t x) (ah t x)
 none:nl=true→∀t c,Rl (ah (.slice t) []) [.slice none 0 c]
 own:∀b nn ch t xs sp c,hp b=some (false,nn,ch)→Rl (xs.map (ah t)).flatten ch.cells→Rl (ah (.slice t) xs) [.slice (some ⟨b,0,sp⟩) xs.length c]
 B0:∀b nn ch t xs sp c off,hp b=some (false,nn,ch)→eC ch.cells off (xs.map (ah t)).flatten→Rl (ah (.slice t) xs) [.slice (some ⟨b,off,sp⟩) xs.length c]
 mo:nl=true→∀b n nn ch t xs z len q,hp b=some (n,nn,ch)→(q=true→xs=[])→(q=false→n=false∧len=xs.length∧Rl (xs.map (ah t)).flatten ch.cells)→Rl (ah (.slice t) xs) [Nj b z len q nn]
variable {Rl:List Value→List Value→Prop} {nl:Bool} {hp:Nat→Option (Bool×Bool×Sym)}
theorem mu.rows(hR:mu Rl nl hp)(t:Ty)(xs:List (El t)):Rl (xs.map (ah t)).flatten (xs.map (ah t)).flatten:=by
 induction xs with
 |nil=>exact hR.nil
 |cons x xs ih=>rw [List.map_cons,List.flatten_cons];exact hR.app (hR.self t x) ih
def FR(Rl:List Value→List Value→Prop)(t:Ty)(one:Sym→(El t→Sym→Option R)→Option R):Prop:=
 ∀s K r,one s K=some r→∃y s' c,K y s'=some r∧s.cells=c++s'.cells∧Rl (ah t y) c
theorem iW(hR:mu Rl nl hp){t:Ty}{one:Sym→(El t→Sym→Option R)→Option R}(h1:FR Rl t one):
  ∀(n:Nat)(s:Sym)(K:List (El t)→Option R)(r:R),fo t one n s K=some r→∃xs,K xs=some r∧Rl (xs.map (ah t)).flatten s.cells:=by
 intro n
 induction n with
 |zero=>intro s K r h;cases (show none=some r from h)
 |succ n ih=>
  intro s K r h
  unfold fo at h
  split at h
  ·exact⟨[],h,hR.nil⟩
  ·rename_i a s1
   split at h
   ·rename_i ys hy
    have hc:=FQ hy
    split at h
    ·refine⟨ys,h,?_⟩
     show Rl _ (a.cells++[])
     rw [hc,List.append_nil]
     exact hR.rows t ys
    ·obtain⟨xs,g1,g2⟩:=ih _ _ _ h
     refine⟨_,g1,?_⟩
     show Rl _ (a.cells++s1.cells)
     rw [hc,List.map_append,List.flatten_append]
     exact hR.app (hR.rows t ys) g2
   ·obtain⟨y,s',c,g1,g2,g3⟩:=h1 _ _ _ h
    obtain⟨xs,g4,g5⟩:=ih _ _ _ g1
    refine⟨_,g4,?_⟩
    rw [g2,List.map_cons,List.flatten_cons]
    exact hR.app g3 g5
  ·cases h
theorem HK(hR:mu Rl nl hp){t:Ty}{one:Sym→(El t→Sym→Option R)→Option R}(h1:FR Rl t one):∀(n:Nat),FR Rl (.arr n t) (vf t one n):=by
 intro n
 induction n with
 |zero=>intro s K r h;exact⟨_,s,[],h,rfl,hR.nil⟩
 |succ n ih=>
  intro s K r h
  obtain⟨y,s',c,g1,g2,g3⟩:=h1 _ _ _ (show one s (fun y r=>vf t one n r fun ys r'=>K ⟨y::ys.1,by rw [List.length_cons,ys.2]⟩ r')=some r from h)
  obtain⟨ys,s'',c',g4,g5,g6⟩:=ih _ _ _ g1
  refine⟨_,s'',c++c',g4,by rw [g2,g5,List.append_assoc],?_⟩
  show Rl (((y::ys.1).map (ah t)).flatten) (c++c')
  rw [List.map_cons,List.flatten_cons]
  exact hR.app g3 g6
theorem mW(hR:mu Rl nl hp):∀(t:Ty),FR (R:=R) Rl t (jL nl hp t):=by
 intro t
 induction t with
 |bool=>
  intro s K r h
  obtain⟨a,s',hs,g⟩:=dD (show dC s (fun a r=>andThen (zV a) fun v=>andThen (sd v) fun b=>K b r)=some r from h)
  obtain⟨v,h1,g⟩:=aa g
  obtain⟨b,h2,g⟩:=aa g
  rw [hs,eM h1,Vi (show gB v=some b from h2)]
  exact⟨b,s',[.bool b],g,rfl,hR.self .bool b⟩
 |int k=>
  intro s K r h
  obtain⟨a,s',hs,g⟩:=dD (show dC s (fun a r=>andThen (zV a) fun v=>andThen (gI k v) fun n=>K n r)=some r from h)
  obtain⟨v,h1,g⟩:=aa g
  obtain⟨n,h2,g⟩:=aa g
  rw [hs,eM h1,Vh h2]
  exact⟨n,s',[.int k n],g,rfl,hR.self (.int k) n⟩
 |str=>
  intro s K r h
  obtain⟨a,s',hs,g⟩:=dD (show dC s (fun a r=>andThen (zV a) fun v=>andThen (qD v) fun l=>K l r)=some r from h)
  obtain⟨v,h1,g⟩:=aa g
  obtain⟨l,h2,g⟩:=aa g
  have:v= .string ⟨⟨l⟩⟩:=by
   cases v<;>first|(cases h2;done)|(cases h2;rfl)
  rw [hs,eM h1,this]
  exact⟨l,s',[.string ⟨⟨l⟩⟩],g,rfl,hR.self .str l⟩
 |unit=>intro s K r h;exact⟨(),s,[],h,rfl,hR.nil⟩
 |pair a b iha ihb=>
  intro s K r h
  have h:dC s (fun h r=>match DZ (.pair a b) h with
   |some x=>K x r
   |none=>jL nl hp a s fun y r'=>jL nl hp b r' fun z r''=>K (y,z) r'')=some r:=h
  obtain⟨hd1,s',hs,g⟩:=dD h
  split at g
  ·rename_i x hx
   subst hs
   exact⟨x,s',ah (.pair a b) x,g,by show hd1.cells++s'.cells=_;rw [(zW hx).1],hR.self _ _⟩
  ·obtain⟨y,s1,c,g1,g2,g3⟩:=iha _ _ _ g
   obtain⟨z,s2,c',g4,g5,g6⟩:=ihb _ _ _ g1
   exact⟨(y,z),s2,c++c',g4,by rw [g2,g5,List.append_assoc],hR.app g3 g6⟩
 |arr n t ih=>
  intro s K r h
  cases n with
  |zero=>exact⟨⟨[],rfl⟩,s,[],h,rfl,hR.nil⟩
  |succ n=>
   have h:dC s (fun h r=>match DZ (.arr (n+1) t) h with
    |some x=>K x r
    |none=>vf t (jL nl hp t) (n+1) s K)=some r:=h
   obtain⟨hd1,s',hs,g⟩:=dD h
   split at g
   ·rename_i x hx
    subst hs
    exact⟨x,s',ah (.arr (n+1) t) x,g,by show hd1.cells++s'.cells=_;rw [(zW hx).1],hR.self _ _⟩
   ·exact HK hR ih (n+1) _ _ _ g
 |slice t ih=>
  intro s K r h
  have h:dC s (fun h r=>match DZ (.slice t) h with
   |some x=>K x r
   |none=>kz (D0 h) (fun q=>au (hp q.1) fun n nn ch=>iff (dS (al t)) none (fo t (jL nl hp t) 2000 (dK ch .nil) fun xs=>iff (and (and nl (q.2.2.2.2==nn)) (or q.2.2.2.1 (and (not n) (Nat.beq q.2.2.1 xs.length)))) (K (iff q.2.2.2.1 [] xs) r) none)) <|
    kz (va h) (fun p=>match p.1 with
    |none=>iff nl (K [] r) none
    |some b=>au (hp b) fun n _ ch=>iff (or (dS (al t)) n) none (fo t (jL nl hp t) 2000 (dK ch .nil) fun xs=>iff (Nat.beq p.2 xs.length) (K xs r) none)) <|
    au (Oe h) fun b off len=>au (hp b) fun n _ ch=>iff n none (ri ch off (Nat.mul len (al t)) true fun u=>andThen (Od t u) fun xs=>iff (Nat.beq len xs.length) (K xs r) none))=some r:=h
  obtain⟨hd1,s',hs,g⟩:=dD h
  clear h
  subst hs
  split at g
  ·rename_i x hx
   exact⟨x,s',ah (.slice t) x,g,by show hd1.cells++s'.cells=_;rw [(zW hx).1],hR.self _ _⟩
  ·rcases bR g with⟨⟨b,z,len,q,nn⟩,h1,h⟩|⟨_,g⟩
   ·obtain⟨n,nn',ch,h2,h⟩:=aq h
    rcases aG h with⟨_,h⟩|⟨_,h⟩
    ·cases h
    obtain⟨xs,g1,g2⟩:=iW hR ih _ _ _ _ h
    obtain⟨hc,g9⟩:=aj g1
    rw [dB]at g2
    have g2:Rl (xs.map (ah t)).flatten (ch.cells++[]):=g2
    rw [List.append_nil]at g2
    simp only [Bool.and_eq_true,beq_iff_eq]at hc
    obtain⟨⟨hn,hnn⟩,hc⟩:=hc
    have hnn:nn=nn':=hnn
    subst hnn
    refine⟨_,s',[Nj b z len q nn],g9,by show hd1.cells++s'.cells=_;rw [jF h1];rfl,hR.mo hn b n nn ch t _ z len q h2 (fun hq=>?_) (fun hq=>?_)⟩
    ·show iff q [] xs=[]
     rw [hq];rfl
    ·have hc:(q||(!n&&Nat.beq len xs.length))=true:=hc
     rw [hq,Bool.false_or,Bool.and_eq_true,beq_iff]at hc
     show n=false∧len=(iff q [] xs).length∧Rl ((iff q [] xs).map (ah t)).flatten ch.cells
     rw [hq]
     exact⟨by simpa using hc.1,hc.2,g2⟩
   rcases bR g with⟨⟨o,len⟩,h1,h⟩|⟨_,g⟩
   rotate_left
   ·obtain⟨b,off,len,h1,h⟩:=aq g
    obtain⟨sp,c,hc⟩:=Of h1
    obtain⟨n,nn,ch,h2,h3⟩:=aq h
    rcases aG h3 with⟨_,h4⟩|⟨hn,h4⟩
    ·cases h4
    subst hn
    obtain⟨u,h5,h6⟩:=tx _ _ _ _ _ _ h4
    obtain⟨xs,h7,h8⟩:=aa h5
    obtain⟨hl,g1⟩:=aj h8
    rw [beq_iff]at hl
    refine⟨xs,s',[.slice (some ⟨b,off,sp⟩) len c],g1,by show hd1.cells++s'.cells=_;rw [hc],?_⟩
    rw [hl]
    exact hR.B0 b nn ch t xs sp c off h2 (by rw [←FQ h7];exact h6.win)
   clear g
   cases o with
   |none=>
    obtain⟨hn,g⟩:=aj h
    have h1':len=0:=by
     unfold va at h1
     split at h1<;>cases h1<;>rfl
    subst h1'
    obtain⟨c,hc⟩:=D3 h1
    exact⟨[],s',[.slice none 0 c],g,by show hd1.cells++s'.cells=_;rw [hc],hR.none hn t c⟩
   |some b=>
    obtain⟨sp,c,hc⟩:=D4 h1
    obtain⟨n,nn,ch,h2,h8⟩:=aq h
    rcases aG h8 with⟨_,h9⟩|⟨hn,h9⟩
    ·cases h9
    simp only [Bool.or_eq_false_iff]at hn
    obtain rfl:n=false:=hn.2
    obtain⟨xs,g3,g2⟩:=iW hR ih _ _ _ _ h9
    obtain⟨hl,g1⟩:=aj g3
    have hl:len=xs.length:=(beq_iff _ _).1 hl
    rw [dB]at g2
    have g2:Rl (xs.map (ah t)).flatten (ch.cells++[]):=g2
    rw [List.append_nil]at g2
    refine⟨xs,s',[.slice (some ⟨b,0,sp⟩) len c],g1,by show hd1.cells++s'.cells=_;rw [hc],?_⟩
    rw [hl]
    exact hR.own b nn ch t xs sp c h2 g2
theorem bX.fX{ι:Ren}{v v':Value}(h:VA ι v v'):bX ι [v] [v']:= .cons h .nil
theorem pK{t:Ty}(xs:List (El t)):∀v∈(xs.map (ah t)).flatten,cH v=true:=fun v hv=>by
 obtain⟨r,hr,hv⟩:=List.mem_flatten.1 hv
 obtain⟨a,_,rfl⟩:=List.mem_map.1 hr
 exact ca t a v hv
theorem FT{ι:Ren}{t:Ty}{xs:List (El t)}{b:Nat}{sp:Option Nat}{c:Nat}{cells:List Value}(hi:ι.zI=true)(hf:ι.fz b=some cells)(h1:bX ι (xs.map (ah t)).flatten cells):bX ι (ah (.slice t) xs) [.slice (some ⟨b,0,sp⟩) xs.length c]:=
 .fX (.fz hi hf (bQ (kU t).mS) (by rw [bx];exact List.length_map _) (eC.all _) (fun v hv=>by
   obtain⟨r,hr,hv⟩:=List.mem_flatten.1 hv
   obtain⟨a,_,rfl⟩:=List.mem_map.1 hr
   exact ca t a v hv) h1.1 h1.2)
theorem FU{ι:Ren}{t:Ty}{b c:Nat}{sp:Option Nat}{cells:List Value}(hi:ι.zI=true)(hf:ι.fz b=some cells):bX ι (ah (.slice t) []) [.slice (some ⟨b,0,sp⟩) 0 c]:=
 .fX (.fz (z:=al t) (cs:=[]) (cs':=[]) hi hf rfl rfl ⟨Nat.zero_le _,rfl⟩ (fun v hv=>by cases hv) rfl (fun i v v' h=>by simp at h))
theorem tB{ι:Ren}(hd:ι.dt=true)(hi:nl=true→ι.zI=true)(hp1:∀b n nn ch,hp b=some (n,nn,ch)→ι.zI=true∧(n=false→ι.fz b=some ch.cells)∧(n=true→nn=false→ι.fz b=some [])):mu (bX ι) nl hp where
 nil:= .nil
 app:=fun h h'=>h.append h'
 self:=fun t x=>bX.closed hd (ca t x)
 none:=fun hn t c=> .fX (.JS c (hi hn))
 own:=fun b nn ch t xs sp c h h1=>FT (hp1 b _ _ ch h).1 ((hp1 b _ _ ch h).2.1 rfl) h1
 B0:=fun b nn ch t xs sp c off h h1=> .fX (.fz (hp1 b _ _ ch h).1 ((hp1 b _ _ ch h).2.1 rfl) (bQ (kU t).mS) (by rw [bx];exact List.length_map _) h1 (pK xs) rfl fun i v v' g1 g2=>by
  have e:v=v':=Option.some.inj (g1.symm.trans g2)
  subst e
  exact VA.closed hd (pK (t:=t) xs v (List.mem_of_getElem? g1)))
 mo:=fun hn b n nn ch t xs z len q h h1 h2=>by
  have hp:=hp1 b n nn ch h
  cases q with
  |true=>
   obtain rfl:=h1 rfl
   cases nn with
   |true=>exact .fX (.JS 0 (hi hn))
   |false=>
    cases n with
    |true=>exact FU hp.1 (hp.2.2 rfl rfl)
    |false=>exact FU hp.1 (hp.2.1 rfl)
  |false=>
   obtain⟨rfl,rfl,h3⟩:=h2 rfl
   exact FT hp.1 (hp.2.1 rfl) h3
theorem fk:mu (fun a b=>b=a) false (fun _=>none) where
 nil:=rfl
 app:=fun h h'=>by rw [h,h']
 self:=fun _ _=>rfl
 none:=fun h=>by cases h
 own:=fun _ _ _ _ _ _ _ h=>by cases h
 B0:=fun _ _ _ _ _ _ _ _ h=>by cases h
 mo:=fun h=>by cases h
def zX(s:Sym)(a:Option R):Option R:=match s with
 | .nil=>a
 |_=>none
theorem tC{s:Sym}{a:Option R}{r:R}(h:zX s a=some r):s= .nil∧a=some r:=by
 cases s with
 |nil=>exact⟨rfl,h⟩
 |_=>cases h
def pL(nl:Bool)(hp:Nat→Option (Bool×Bool×Sym))(t:Ty)(u:Sym)(K:El t→Option R):Option R:=iff (and u.ok (u.isAgg==dz t)) (jL nl hp t (dK u .nil) fun y r=>zX r (K y)) none
theorem mX(hR:mu Rl nl hp){t:Ty}{u:Sym}{K:El t→Option R}{r:R}(h:pL nl hp t u K=some r):
  ∃y,K y=some r∧Rl (ah t y) u.cells∧u.ok=true∧u.isAgg=dz t:=by
 obtain⟨h0,h⟩:=aj h
 simp only [Bool.and_eq_true,beq_iff_eq]at h0
 obtain⟨y,s',c,h1,h2,h3⟩:=mW hR t _ _ _ h
 obtain⟨rfl,h1⟩:=tC h1
 rw [dB]at h2
 have h2:u.cells++[]=c++[]:=h2
 rw [List.append_nil,List.append_nil]at h2
 subst h2
 exact⟨y,h1,h3,h0.1,h0.2⟩
theorem zY{ι:Ren}{t:Ty}{y:El t}{u:Sym}(h3:bX ι (ah t y) u.cells)(ho:u.ok=true)(hg:u.isAgg=dz t):VA ι (aT t y) u.val:=by
 unfold aT
 cases ha:dz t with
 |true=>
  rw [if_pos rfl,Sym.gH (hg.trans ha)]
  exact h3.agg
 |false=>
  rw [if_neg (by decide)]
  rw [bI ha,Sym.mT ho (hg.trans ha)]at h3
  exact h3.2 0 _ _ rfl rfl
end
end Go.az
namespace Go.az
section
variable {R:Type}
def HO:(t:Ty)→El t→Nat→Nat→((t:Ty)→List (El t)→(Nat→El t→Sym)→Option R)→Option R
 | .arr m t=>fun x base z K=>iff (and (dS base) (Nat.beq z (al t))) (K t x.1 fun j y=> .d (.arr m t) ⟨x.1.set j y,by rw [List.length_set];exact x.2⟩) none
 | .pair a b=>fun x base z K=>iff (Nat.blt base (al a)) (HO a x.1 base z fun t xs C=>K t xs fun j y=> .agg (.cons (C j y) (.cons (nK b x.2) .nil)))
   (HO b x.2 (Nat.sub base (al a)) z fun t xs C=>K t xs fun j y=> .agg (.cons (nK a x.1) (.cons (C j y) .nil)))
 |_=>fun _ _ _ _=>none
def vg:Sym→Nat→Nat→((t:Ty)→List (El t)→(Nat→El t→Sym)→Option R)→Option R
 | .rw t xs=>fun base z K=>iff (and (dS base) (Nat.beq z (al t))) (K t xs fun j y=> .rw t (xs.set j y)) none
 | .d t x=>HO t x
 | .agg l=>fun base z K=>vg l base z fun t xs C=>K t xs fun j y=> .agg (C j y)
 | .cons a s=>fun base z K=>iff (or a.Ob (Nat.blt base a.size)) (vg a base z fun t xs C=>K t xs fun j y=> .cons (C j y) s)
   (vg s (Nat.sub base a.size) z fun t xs C=>K t xs fun j y=> .cons a (C j y))
 |_=>fun _ _ _=>none
structure nL(l:List Value)(base z:Nat)(t:Ty)(xs:List (El t))(C:Nat→El t→Sym):Prop where
 wide:z=al t
 win:eC l base (xs.map (ah t)).flatten
 put:∀j y,j<xs.length→fW l (base+j*z) (ah t y) (C j y).cells
theorem vh{t:Ty}:∀(xs:List (El t))(j:Nat)(y:El t),j<xs.length→fW (xs.map (ah t)).flatten (0+j*al t) (ah t y) ((xs.set j y).map (ah t)).flatten
 | [],_,_,h=>absurd h (Nat.not_lt_zero _)
 |x::xs,0,y,_=>by
  rw [Nat.zero_mul]
  show fW (ah t x++(xs.map (ah t)).flatten) 0 (ah t y) (ah t y++(xs.map (ah t)).flatten)
  exact(fW.whole _ _ (by rw [aH,aH])).left
 |x::xs,j+1,y,h=>by
  show fW (ah t x++(xs.map (ah t)).flatten) (0+(j+1)*al t) (ah t y) (ah t x++((xs.set j y).map (ah t)).flatten)
  exact(vh xs j y (by simpa using h)).right (by rw [aH,Nat.succ_mul];omega)
theorem nL.left{a b:List Value}{base z:Nat}{t:Ty}{xs:List (El t)}{C C':Nat→El t→Sym}(h:nL a base z t xs C)(hC:∀j y,(C' j y).cells=(C j y).cells++b):nL (a++b) base z t xs C':=
 ⟨h.wide,h.win.left,fun j y hj=>by rw [hC];exact(h.put j y hj).left⟩
theorem nL.right{a b:List Value}{base base' z:Nat}{t:Ty}{xs:List (El t)}{C C':Nat→El t→Sym}(h:nL b base z t xs C)(hb:base'=a.length+base)(hC:∀j y,(C' j y).cells=a++(C j y).cells):nL (a++b) base' z t xs C':=
 ⟨h.wide,by rw [hb];exact h.win.right,fun j y hj=>by rw [hC];exact(h.put j y hj).right (by omega)⟩
theorem Og:∀(t:Ty)(x:El t)(base z:Nat)(K:(t:Ty)→List (El t)→(Nat→El t→Sym)→Option R)(r:R),HO t x base z K=some r→∃t' xs C,K t' xs C=some r∧nL (ah t x) base z t' xs C:=by
 intro t
 induction t with
 |arr m t _=>
  intro x base z K r h
  obtain⟨hc,g⟩:=aj (show iff (and (dS base) (Nat.beq z (al t))) (K t x.1 fun j y=> .d (.arr m t) ⟨x.1.set j y,by rw [List.length_set];exact x.2⟩) none=some r from h)
  rw [Bool.and_eq_true,Tr.bz,beq_iff]at hc
  obtain⟨rfl,rfl⟩:=hc
  exact⟨t,x.1,_,g,rfl,eC.all _,fun j y hj=>vh x.1 j y hj⟩
 |pair a b iha ihb=>
  intro x base z K r h
  rcases aG (show iff (Nat.blt base (al a)) (HO a x.1 base z fun t xs C=>K t xs fun j y=> .agg (.cons (C j y) (.cons (nK b x.2) .nil))) (HO b x.2 (Nat.sub base (al a)) z fun t xs C=>K t xs fun j y=> .agg (.cons (nK a x.1) (.cons (C j y) .nil)))=some r from h)with⟨_,h⟩|⟨hc,h⟩
  ·obtain⟨t',xs,C,h1,h2⟩:=iha _ _ _ _ _ h
   refine⟨_,_,_,h1,h2.left fun j y=>?_⟩
   show(C j y).cells++((nK b x.2).cells++[])=_
   rw [List.append_nil,eR];rfl
  ·have hc:¬base<al a:=by rw [←bK,hc];decide
   obtain⟨t',xs,C,h1,h2⟩:=ihb _ _ _ _ _ h
   refine⟨_,_,_,h1,nL.right (a:=ah a x.1) h2 (by rw [aH];show base=al a+(base-al a);omega) fun j y=>?_⟩
   show(nK a x.1).cells++((C j y).cells++[])=_
   rw [List.append_nil,eR]
 |_=>intro x base z K r h;cases (show none=some r from h)
theorem FV:∀(s:Sym)(base z:Nat)(K:(t:Ty)→List (El t)→(Nat→El t→Sym)→Option R)(r:R),vg s base z K=some r→∃t' xs C,K t' xs C=some r∧nL s.cells base z t' xs C:=by
 intro s
 induction s with
 |rw t xs=>
  intro base z K r h
  obtain⟨hc,g⟩:=aj (show iff (and (dS base) (Nat.beq z (al t))) (K t xs fun j y=> .rw t (xs.set j y)) none=some r from h)
  rw [Bool.and_eq_true,Tr.bz,beq_iff]at hc
  obtain⟨rfl,rfl⟩:=hc
  exact⟨t,xs,_,g,rfl,eC.all _,fun j y hj=>vh xs j y hj⟩
 |d t x=>intro base z K r h;exact Og t x base z K r h
 |agg l ih=>
  intro base z K r h
  obtain⟨t',xs,C,h1,h2⟩:=ih base z _ r h
  exact⟨_,_,_,h1,h2.wide,h2.win,h2.put⟩
 |cons a s iha ihs=>
  intro base z K r h
  rcases aG (show iff (or a.Ob (Nat.blt base a.size)) (vg a base z fun t xs C=>K t xs fun j y=> .cons (C j y) s) (vg s (Nat.sub base a.size) z fun t xs C=>K t xs fun j y=> .cons a (C j y))=some r from h)with⟨_,h⟩|⟨hc,h⟩
  ·obtain⟨t',xs,C,h1,h2⟩:=iha _ _ _ _ h
   exact⟨_,_,_,h1,h2.left fun j y=>rfl⟩
  ·have hc:¬base<a.size:=by
    rw [←bK];intro hb;rw [hb]at hc;simp at hc
   obtain⟨t',xs,C,h1,h2⟩:=ihs _ _ _ _ h
   exact⟨_,_,_,h1,nL.right (a:=a.cells) h2 (by rw [Sym.size_eq];show base=a.size+(base-a.size);omega) fun j y=>rfl⟩
 |_=>intro base z K r h;cases (show none=some r from h)
variable (T:ew)
theorem mw{T:ew}{t:TypeId}{i:TI}{cs:List Value}{off:Nat}{u:Sym}(ht:ty T t=some i)(h:zU cs off i.size i.agg u):part T t cs off=some u.val:=by
 unfold part
 rw [ht,af]
 cases ha:i.agg with
 |true=>
  rw [ha]at h
  rw [iff_true,←h.size,h.win.mq]
  show some (Value.agg ⟨u.cells⟩)=_
  rw [Sym.gH h.agg]
 |false=>
  rw [ha]at h
  rw [iff_false]
  have:=h.win
  rw [Sym.mT h.ok h.agg]at this
  exact this.one
def my:cM→Option Sym
 | .wP l _ _ _ false=>some l
 |_=>none
theorem J6{o:cM}{l:Sym}(h:my o=some l):∃e aA ro,o= .wP l e aA ro false:=by
 unfold my at h
 split at h
 ·cases h;exact⟨_,_,_,rfl⟩
 ·cases h
def vj:cM→Option (Sym×Option Nat×Nat)
 | .wP l e aA false false=>some (l,e,aA)
 |_=>none
theorem zZ{o:cM}{l:Sym}{e:Option Nat}{aA:Nat}(h:vj o=some (l,e,aA)):o= .wP l e aA false false:=by
 unfold vj at h
 split at h
 ·cases h;rfl
 ·cases h
def RI:cM→Option aN
 | .raw o=>some o
 |_=>none
theorem Oh{o:cM}{a:aN}(h:RI o=some a):o= .raw a:=by
 unfold RI at h
 split at h
 ·cases h;rfl
 ·cases h
theorem pM{s:ay}{b:Nat}{o:cM}{l:Sym}(h:s.heap.get b=some o)(hl:my o=some l):s.g.row b=some l.cells:=by
 obtain⟨e,aA,ro,rfl⟩:=J6 hl
 unfold aD.row
 rw [ay.iV,h]
 rfl
def s9:Sym→Option (Nat×Nat)
 | .v (.pointer (some ⟨b,off,none⟩))=>some (b,off)
 |_=>none
theorem pN{s:Sym}{b off:Nat}(h:s9 s=some (b,off)):s= .v (.pointer (some ⟨b,off,none⟩)):=by
 unfold s9 at h
 split at h
 ·cases h;rfl
 ·cases h
def D5(t:TypeId)(i:TI)(_b off:Nat)(s:ay)(K:Sym→ay→Option R)(o:cM):Option R:=
 match my o with
 |some l=>ri l off i.size i.agg fun u=>K u s
 |none=>andThen (andThen (RI o) fun a=>andThen (rowOf a) fun c=>part T t c off) fun v=>K (uY v) s
def B1(t:TypeId)(a:Sym)(s:ay)(K:Sym→ay→Option R):Option R:=
 andThen (ty T t) fun i=>match a with
 | .p t' x=>pH t' x (nat_lit 0) i.size i.agg fun u=>K u s
 | .rp b base z j off=>andThen (s.heap.get b) fun o=>andThen (my o) fun l=>vg l base z fun t' xs _=>andThen (aU j xs) fun y=>pH t' y off i.size i.agg fun u=>K u s
 |a=>ak (s9 a) fun b off=>andThen (s.heap.get b) (D5 T t i b off s K)
theorem B2{t:TypeId}{a:Sym}{s:ay}{K:Sym→ay→Option R}{r:R}(h:B1 T t a s K=some r):∃u,tX T t s.g a.val=some (u.val,s.g)∧K u s=some r:=by
 obtain⟨i,hi,h⟩:=aa h
 have key:∀{cs:List Value}{off:Nat}{u:Sym},zU cs off i.size i.agg u→part T t cs off=some u.val:=fun hg=>mw hi hg
 have raw:∀a:Sym,(ak (s9 a) fun b off=>andThen (s.heap.get b) (D5 T t i b off s K))=some r→∃u,tX T t s.g a.val=some (u.val,s.g)∧K u s=some r:=by
  intro a h
  obtain⟨b,off,h1,h0⟩:=ae h
  obtain⟨o,h2,g⟩:=aa h0
  clear h h0
  obtain rfl:=pN h1
  have jk:∀{c:List Value}{v:Value},s.g.row b=some c→part T t c off=some v→tX T t s.g (Sym.v (.pointer (some ⟨b,off,none⟩))).val=some (v,s.g):=fun hr hp=>by
   show val s.g (jU T s.g t b off)=_
   unfold jU
   rw [hr,af,hp];rfl
  unfold D5 at g
  split at g
  ·rename_i l hl
   obtain⟨u,g1,g2⟩:=tx _ _ _ _ _ _ g
   exact⟨u,jk (pM h2 hl) (key g2),g1⟩
  ·obtain⟨v,g1,g2⟩:=aa g
   obtain⟨a,g3,g5⟩:=aa g1
   obtain⟨c,g4,g6⟩:=aa g5
   obtain rfl:=Oh g3
   refine⟨uY v,?_,g2⟩
   rw [mU]
   refine jk (c:=c) ?_ g6
   unfold aD.row
   rw [ay.iV,h2]
   exact g4
 cases a with
 |p t' x=>
  obtain⟨u,g1,g2⟩:=tw _ _ _ _ _ _ _ (show pH t' x 0 i.size i.agg (fun u=>K u s)=some r from h)
  refine⟨u,?_,g1⟩
  show val s.g (part T t (ah t' x) 0)=_
  rw [key g2];rfl
 |rp b base z j off=>
  obtain⟨o,h1,h⟩:=aa (show(andThen (s.heap.get b) fun o=>andThen (my o) fun l=>vg l base z fun t' xs _=>andThen (aU j xs) fun y=>pH t' y off i.size i.agg fun u=>K u s)=some r from h)
  obtain⟨l,h2,h⟩:=aa h
  obtain⟨t',xs,C,h3,h4⟩:=FV _ _ _ _ _ h
  obtain⟨y,h5,h6⟩:=aa h3
  rw [bW]at h5
  obtain⟨u,g1,g2⟩:=tw _ _ _ _ _ _ _ h6
  refine⟨u,?_,g1⟩
  have hw:eC l.cells (base+j*z) (ah t' y):=by
   have:=h4.win.trans (eC.row (fun x _=>aH t' x) h5)
   rw [←h4.wide]at this
   exact this
  have hg:zU l.cells (base+j*z+off) i.size i.agg u:=g2.inside hw rfl
  show val s.g (jU T s.g t b (Nat.add (Nat.add base (Nat.mul j z)) off))=_
  unfold jU
  rw [pM h1 h2,af,show part T t l.cells (Nat.add (Nat.add base (Nat.mul j z)) off)=some u.val from key hg]
  rfl
 |_=>exact raw _ h
def D6(s:ay)(b aA:Nat)(e:Option Nat)(l:Sym):ay:=⟨s.heap.set b (.wP l e aA false false),s.next,jh aA s.low,s.bp⟩
def D7(t:TypeId)(a x:Sym)(s:ay)(K:Sym→ay→Option R):Option R:=
 andThen (size T t) fun n=>iff (and x.ok (Nat.beq x.size n)) (match a with
 | .rp b base z j off=>andThen (s.heap.get b) fun o=>au (vj o) fun l e aA=>vg l base z fun t' xs C=>iff (Nat.blt j xs.length) (andThen (aU j xs) fun y=>BZ t' y off n x fun u=>pL false (fun _=>none) t' u fun y'=>K (.v undef) (D6 s b aA e (C j y'))) none
 |a=>ak (s9 a) fun b off=>andThen (s.heap.get b) fun o=>au (vj o) fun l e aA=>xc l off n x fun l'=>K (.v undef) (D6 s b aA e l')) none
theorem HP{s:ay}{b off aA:Nat}{e:Option Nat}{l l':Sym}{c:List Value}(h:s.heap.get b=some (.wP l e aA false false))(hp:fW l.cells off c l'.cells):s.g.setAt b off c=some (D6 s b aA e l').g:=by
 unfold aD.setAt
 rw [ay.iV,h]
 show andThen (splice c off l.cells) _=_
 rw [hp.splice,af]
 unfold D6 ay.g
 rw [dA (show cM.g (.wP l' e aA false false)=some (.cells l'.cells e aA false false)from rfl)]
 rfl
theorem HU{t:TypeId}{a x:Sym}{s:ay}{K:Sym→ay→Option R}{r:R}(h:D7 T t a x s K=some r):∃u s',unit (qI T t a.val x.val s.g)=some (u.val,s'.g)∧K u s'=some r:=by
 obtain⟨n,hn,h⟩:=aa h
 obtain⟨hc,h⟩:=aj h
 rw [Bool.and_eq_true,beq_iff]at hc
 obtain⟨hok,hsz⟩:=hc
 have hlen:x.cells.length=n:=by rw [Sym.size_eq,hsz]
 have key:∀{b off aA:Nat}{e:Option Nat}{l l':Sym},fN a.val=some (b,off)→s.heap.get b=some (.wP l e aA false false)→fW l.cells off x.cells l'.cells→K (.v undef) (D6 s b aA e l')=some r→
   ∃u s',unit (qI T t a.val x.val s.g)=some (u.val,s'.g)∧K u s'=some r:=fun ha ho hp hk=>by
  refine⟨_,_,?_,hk⟩
  unfold qI
  rw [ha,ax,hn,af,Sym.zR hok,af,(beq_iff _ _).2 (by rw [aC];exact hlen),iff_true,HP ho hp]
  rfl
 have raw:∀{b off:Nat},s9 a=some (b,off)→(andThen (s.heap.get b) fun o=>au (vj o) fun l e aA=>xc l off n x fun l'=>K (.v undef) (D6 s b aA e l'))=some r→
   ∃u s',unit (qI T t a.val x.val s.g)=some (u.val,s'.g)∧K u s'=some r:=fun{b off} h1 h=>by
  obtain⟨o,h2,h⟩:=aa h
  obtain⟨l,e,aA,h3,h⟩:=aq h
  obtain rfl:=zZ h3
  obtain⟨l',g1,g2⟩:=FN _ _ _ _ _ _ hok hlen h
  exact key (by rw [pN h1];rfl) h2 g2 g1
 cases a with
 |rp b base z j off=>
  obtain⟨o,h2,h⟩:=aa (show(andThen (s.heap.get b) fun o=>au (vj o) fun l e aA=>vg l base z fun t' xs C=>iff (Nat.blt j xs.length) (andThen (aU j xs) fun y=>BZ t' y off n x fun u=>pL false (fun _=>none) t' u fun y'=>K (.v undef) (D6 s b aA e (C j y'))) none)=some r from h)
  obtain⟨l,e,aA,h3,h⟩:=aq h
  obtain rfl:=zZ h3
  obtain⟨t',xs,C,h4,h5⟩:=FV _ _ _ _ _ h
  obtain⟨hj,h4⟩:=aj h4
  rw [bK]at hj
  obtain⟨y,h6,h7⟩:=aa h4
  rw [bW]at h6
  obtain⟨u,g1,_,g3⟩:=FM _ _ _ _ _ _ _ hok hlen h7
  obtain⟨y',g4,g5,_,_⟩:=mX fk g1
  rw [g5]at g3
  refine key (off:=base+j*z+off) rfl h2 ?_ g4
  have hw:eC l.cells (base+j*z) (ah t' y):=by
   have:=h5.win.trans (eC.row (fun x _=>aH t' x) h6)
   rw [←h5.wide]at this
   exact this
  have e1:=g3.inside hw rfl
  have e2:=(h5.put j y' hj).eq
  rw [e2,aH,←aH t' y]
  exact e1
 |_=>
  obtain⟨b,off,h1,h⟩:=ae h
  exact raw h1 h
end
end Go.az
namespace Go.az
theorem J7{T:ew}{op:Op}{ρ:Operand→Value}(h:mem op=false):∃o,∀σ,zl op T ρ σ=val σ o:=by
 cases op<;>first|(cases h;done)|skip
 case move x=>exact⟨some (ρ x),fun _=>rfl⟩
 case assign x=>exact⟨some (ρ x),fun _=>rfl⟩
 case pick c a b=>exact⟨andThen (sd (ρ c)) fun t=>some (iff t (ρ a) (ρ b)),fun σ=>by show qJ c a b ρ σ=_;unfold qJ;cases sd (ρ c)<;>rfl⟩
 case makeInterface t x=>exact⟨andThen (desc T t) fun d=>iff (isIface d) none (some (.iface t (ρ x))),fun σ=>by
  show zk T t x ρ σ=_
  unfold zk
  cases desc T t with
  |none=>rfl
  |some d=>rw [af,af];cases isIface d<;>rfl⟩
 case makeFunc fn a c=>exact⟨some _,fun _=>rfl⟩
 case binOp op t x y p=>exact⟨iff (iff (dZ op) (guarded T t x y (ρ x)) true) (Dl (ρ x) T op t (ρ y)) none,fun σ=>by
  show Jm T op t x y ρ σ=_
  unfold Jm
  cases iff (dZ op) (guarded T t x y (ρ x)) true<;>rfl⟩
 all_goals exact⟨_,fun _=>rfl⟩
theorem FW{σ:aD}{o:Option Value}{v:Value}{σ':aD}(h:val σ o=some (v,σ')):o=some v∧σ'=σ:=by
 obtain⟨a,h1,h2⟩:=aa h
 cases h2;exact⟨h1,rfl⟩
def ow(l:List Value):Sym:=l.foldr (fun c r=> .cons (.v c) r) .nil
theorem kV(l:List Value):(ow l).cells=l:=sH l
def ay.new(s:ay)(l:Sym)(e:Option Nat)(aA:Nat):ay:=⟨s.heap.set s.next (.wP l e aA false false),Nat.succ s.next,s.low,s.bp⟩
theorem ay.FX(s:ay)(l:Sym)(e:Option Nat)(aA:Nat):(s.new l e aA).g=s.g.new (.cells l.cells e aA false false):=by
 unfold ay.new ay.g aD.new
 rw [dA (show cM.g (.wP l e aA false false)=some (.cells l.cells e aA false false)from rfl)]
section
variable {R:Type} (T:ew)
def iX(op:Op)(ρ:Operand→Sym)(s:ay)(K:Sym→ay→Option R):Option R:=
 iff (mem op) none (ak (zl op T (fun o=>(ρ o).val) ⟨.leaf,0,0,0⟩) fun v _=>K (uY v) s)
def bZ(res:gk)(_s:ay)(K:Sym→ay→Option R)(r:R):Prop:=∃u s',res=some (u.val,s'.g)∧K u s'=some r
variable {T}
theorem eu{op:Op}{ρ:Operand→Sym}{s:ay}{K:Sym→ay→Option R}{r:R}(h:iX T op ρ s K=some r):bZ (zl op T (fun o=>(ρ o).val) s.g) s K r:=by
 unfold iX at h
 rcases aG h with⟨_,h⟩|⟨hm,h⟩
 ·cases h
 ·obtain⟨v,σ,h1,h2⟩:=ae h
  obtain⟨o,ho⟩:=J7 (T:=T) (ρ:=fun o=>(ρ o).val) hm
  rw [ho]at h1
  obtain⟨rfl,_⟩:=FW h1
  exact⟨uY v,s,by rw [ho,mU];rfl,h2⟩
variable (T)
def RJ(l:Sym)(s:ay)(K:Sym→ay→Option R):Option R:=K (.v (.pointer (some ⟨s.next,0,none⟩))) (s.new l none s.next)
theorem FY{l:Sym}{s:ay}{K:Sym→ay→Option R}{r:R}(h:RJ l s K=some r):bZ (newVar s.g l.cells) s K r:=
 ⟨_,_,by unfold newVar aD.newRow;rw [ay.FX];rfl,h⟩
def pO(place:Nat→Option (Nat×Nat)):List (Nat×Sym)→Sym→(Sym→Option R)→Option R
 | [],c,K=>K c
 |p::rest,c,K=>ak (place p.1) fun off size=>iff (and p.2.ok (Nat.beq p.2.size size)) (xc c off size p.2 fun c'=>pO place rest c' K) none
theorem vk{place:Nat→Option (Nat×Nat)}:∀(l:List (Nat×Sym))(c:Sym)(K:Sym→Option R)(r:R),pO place l c K=some r→∃u,K u=some r∧fill place (l.map fun p=>(p.1,p.2.val)) c.cells=some u.cells
 | [],c,K,r,h=>⟨c,h,rfl⟩
 |p::rest,c,K,r,h=>by
  obtain⟨off,size,h1,h⟩:=ae (show(ak (place p.1) fun off size=>iff (and p.2.ok (Nat.beq p.2.size size)) (xc c off size p.2 fun c'=>pO place rest c' K) none)=some r from h)
  obtain⟨hc,h⟩:=aj h
  rw [Bool.and_eq_true,beq_iff]at hc
  have hlen:p.2.cells.length=size:=by rw [Sym.size_eq,hc.2]
  obtain⟨u,h2,h3⟩:=FN _ _ _ _ _ _ hc.1 hlen h
  obtain⟨w,h4,h5⟩:=vk rest u K r h2
  refine⟨w,h4,?_⟩
  show(ak (place p.1) fun off size=>andThen (flat p.2.val) fun vs=>iff (Nat.beq (aY vs) size) (andThen (splice vs off c.cells) (fill place (rest.map fun p=>(p.1,p.2.val)))) none)=_
  rw [h1,ax,Sym.zR hc.1,af,(beq_iff _ _).2 (by rw [aC];exact hlen),iff_true,h3.splice,af]
  exact h5
def rj(ρ:Operand→Sym)(ps:List (Nat×Operand)):List (Nat×Sym):=nq (fun q=>(q.1,ρ q.2)) ps
theorem vm(ρ:Operand→Sym)(ps:List (Nat×Operand)):(rj ρ ps).map (fun p=>(p.1,p.2.val))=parts (fun o=>(ρ o).val) ps:=by
 unfold rj parts
 rw [hO,hO,List.map_map]
 rfl
def J8(ps:List (Nat×Sym))(z:Sym)(s:ay)(K:Sym→ay→Option R):TypeDesc→Option R
 | .struct fields=>andThen (places T fields.toList) fun pl=>pO (fun i=>aU i pl) ps z fun c=>K (.agg c) s
 | .array _ elem=>andThen (size T elem) fun n=>pO (fun i=>some (Nat.mul i n,n)) ps z fun c=>K (.agg c) s
 |_=>none
def D8(t:TypeId)(ps:List (Nat×Sym))(s:ay)(K:Sym→ay→Option R):Option R:=
 andThen (ty T t) fun i=>andThen (dY i) fun z=>J8 T ps (ow z) s K i.desc
theorem HV{t:TypeId}{ps:List (Nat×Sym)}{s:ay}{K:Sym→ay→Option R}{r:R}(h:D8 T t ps s K=some r):bZ (val s.g (build T t (ps.map fun p=>(p.1,p.2.val)))) s K r:=by
 obtain⟨i,h1,h⟩:=aa h
 obtain⟨z,h2,h⟩:=aa h
 unfold build
 rw [h1,af,h2,af]
 have key:∀{place:Nat→Option (Nat×Nat)},pO place ps (ow z) (fun c=>K (.agg c) s)=some r→bZ (val s.g (Ny (fill place (ps.map fun p=>(p.1,p.2.val)) z))) s K r:=fun hf=>by
  obtain⟨u,g1,g2⟩:=vk _ _ _ _ hf
  rw [kV]at g2
  rw [g2]
  exact⟨.agg u,s,rfl,g1⟩
 cases hd:i.desc<;>rw [hd]at h<;>first|(cases h;done)|skip
 case struct fields=>
  obtain⟨pl,h3,h⟩:=aa (show(andThen (places T fields.toList) fun pl=>pO (fun i=>aU i pl) ps (ow z) fun c=>K (.agg c) s)=some r from h)
  show bZ (val s.g (andThen (places T fields.toList) fun ps'=>_)) s K r
  rw [h3,af]
  exact key h
 case array n elem=>
  obtain⟨m,h3,h⟩:=aa (show(andThen (size T elem) fun n=>pO (fun i=>some (Nat.mul i n,n)) ps (ow z) fun c=>K (.agg c) s)=some r from h)
  show bZ (val s.g (andThen (size T elem) fun ps'=>_)) s K r
  rw [h3,af]
  exact key h
def vo(t:TypeId)(len:Nat)(ps:List (Nat×Sym))(s:ay)(K:Sym→ay→Option R):Option R:=
 andThen (desc T t) fun d=>andThen (bL d) fun elem=>andThen (ty T elem) fun i=>andThen (dY i) fun z=>
  iff (Nat.ble (Nat.mul len i.size) (nat_lit 1000000))
   (pO (fun j=>some (Nat.mul j i.size,i.size)) ps (ow (fD z len)) fun c=>K (.v (.slice (some ⟨s.next,0,none⟩) len len)) (s.new c none s.next)) none
theorem B3{t:TypeId}{len:Nat}{ps:List (Nat×Sym)}{s:ay}{K:Sym→ay→Option R}{r:R}(h:vo T t len ps s K=some r):bZ (buildSlice T t len (ps.map fun p=>(p.1,p.2.val)) s.g) s K r:=by
 obtain⟨d,h1,h⟩:=aa h
 obtain⟨e,h2,h⟩:=aa h
 obtain⟨i,h3,h⟩:=aa h
 obtain⟨z,h4,h⟩:=aa h
 obtain⟨h5,h⟩:=aj h
 obtain⟨u,g1,g2⟩:=vk _ _ _ _ h
 rw [kV]at g2
 refine⟨_,_,?_,g1⟩
 unfold buildSlice
 rw [h1,af,h2,af,h3,af,h4,af,h5,iff_true,g2,af,ay.FX]
 rfl
def J9(t:TypeId)(x:Sym)(f:Nat)(s:ay)(K:Sym→ay→Option R):Option R:=
 iff x.isAgg (andThen (gD T t f) fun g=>andThen (ty T g.type) fun i=>ri x g.offset i.size i.agg fun u=>K u s) none
theorem HW{t:TypeId}{x:Sym}{f:Nat}{s:ay}{K:Sym→ay→Option R}{r:R}(h:J9 T t x f s K=some r):bZ (val s.g (za T t x.val f)) s K r:=by
 obtain⟨h0,h⟩:=aj h
 obtain⟨g,h1,h⟩:=aa h
 obtain⟨i,h2,h⟩:=aa h
 obtain⟨u,g1,g2⟩:=tx _ _ _ _ _ _ h
 refine⟨u,s,?_,g1⟩
 unfold za
 rw [Sym.gH h0]
 show val s.g (andThen (gD T t f) fun g=>part T g.type x.cells g.offset)=_
 rw [h1,af,mw h2 g2];rfl
def ox(op:Op)(ρ:Operand→Sym)(t:TypeId)(x:Sym)(f:Nat)(s:ay)(K:Sym→ay→Option R):Option R:=
 match x with
 | .p t' y=>andThen (gD T t f) fun g=>andThen (size T g.type) fun z=>iff (dS z) none (iff (Nat.ble (Nat.add g.offset z) (al t')) (x8 t' y g.offset fun t'' w=>K (.p t'' w) s) none)
 | .rp b base zz j off=>andThen (gD T t f) fun g=>andThen (size T g.type) fun z=>iff (dS z) none (K (.rp b base zz j (Nat.add off g.offset)) s)
 |_=>iX T op ρ s K
theorem xe{op:Op}{ρ:Operand→Sym}{t:TypeId}{xo:Operand}{f:Nat}{s:ay}{K:Sym→ay→Option R}{r:R}(ho:op= .fieldAddr t xo f)(h:ox T op ρ t (ρ xo) f s K=some r):bZ (zl op T (fun o=>(ρ o).val) s.g) s K r:=by
 unfold ox at h
 split at h
 ·rename_i t' y hx
  subst ho
  obtain⟨g,h1,h⟩:=aa h
  obtain⟨z,h2,h⟩:=aa h
  rcases aG h with⟨_,h⟩|⟨hz,h⟩
  ·cases h
  obtain⟨hb,h⟩:=aj h
  obtain⟨t'',w,g1,_,g3⟩:=J5 _ _ _ _ _ h
  refine⟨_,s,?_,g1⟩
  show val s.g (kD T t (ρ xo).val f)=_
  rw [hx]
  show val s.g (andThen (gD T t f) fun g=>andThen (size T g.type) fun z=>iff (dS z) none (A6 g.offset z (ah t' y)))=_
  rw [h1,af,h2,af,hz,iff_false]
  unfold A6
  rw [aC,aH,hb,iff_true,fQ,←g3]
  rfl
 ·rename_i b base zz j off hx
  subst ho
  obtain⟨g,h1,h⟩:=aa h
  obtain⟨z,h2,h⟩:=aa h
  rcases aG h with⟨_,h⟩|⟨hz,h⟩
  ·cases h
  refine⟨_,s,?_,h⟩
  show val s.g (kD T t (ρ xo).val f)=_
  rw [hx]
  show val s.g (andThen (gD T t f) fun g=>andThen (size T g.type) fun z=>iff (dS z) none (tR b (Nat.add (Nat.add (Nat.add base (Nat.mul j zz)) off) g.offset)))=_
  rw [h1,af,h2,af,hz,iff_false]
  show some (Value.pointer (some ⟨b,Nat.add (Nat.add (Nat.add base (Nat.mul j zz)) off) g.offset,none⟩),s.g)=some (Value.pointer (some ⟨b,Nat.add (Nat.add base (Nat.mul j zz)) (Nat.add off g.offset),none⟩),s.g)
  rw [show Nat.add (Nat.add (Nat.add base (Nat.mul j zz)) off) g.offset=Nat.add (Nat.add base (Nat.mul j zz)) (Nat.add off g.offset)from Nat.add_assoc _ _ _]
 ·exact eu h
def RL(s:ay)(b off z:Nat):Bool:=match s.heap.get b with
 |some o=>(match my o with
  |some l=>(vg l off z fun _ _ _=>some ()).isSome
  |none=>false)
 |none=>false
def Oi(b off z j:Nat)(s:ay)(K:Sym→ay→Option R):Option R:=
 iff (RL s b off z) (K (.rp b off z j 0) s) (K (.v (.pointer (some ⟨b,Nat.add off (Nat.mul j z),none⟩))) s)
theorem FZ{b off z j:Nat}{s:ay}{K:Sym→ay→Option R}{r:R}(h:Oi b off z j s K=some r):bZ (val s.g (tR b (Nat.add off (Nat.mul j z)))) s K r:=by
 rcases aG h with⟨_,h⟩|⟨_,h⟩
 ·exact⟨_,_,rfl,h⟩
 ·exact⟨_,_,rfl,h⟩
def B4(x:Sym):Option (IntKind×Int):=andThen (zV x) mK
theorem fY{x:Sym}{k:IntKind}{n:Int}(h:B4 x=some (k,n)):x= .v (.int k n):=by
 obtain⟨v,h1,h2⟩:=aa h
 rw [eM h1]
 cases v<;>first|(cases h2;done)|(cases h2;rfl)
theorem sJ{α:Type}{x:Value}{f:List Value→Option α}{d:Option α}(h:∀vs,x≠ .tuple vs):gZ x f d=d:=by
 cases x<;>first|rfl|exact absurd rfl (h _)
def vq:Sym→Option ((t:Ty)×List (El t))
 | .d (.slice t) l=>some ⟨t,l⟩
 |_=>none
theorem im{x:Sym}{p:(t:Ty)×List (El t)}(h:vq x=some p):x= .d (.slice p.1) p.2:=by
 unfold vq at h
 split at h
 ·cases h;rfl
 ·cases h
def RM:Sym→Option ((t:Ty)×List (El t))
 | .d (.arr _ t) y=>some ⟨t,y.1⟩
 |_=>none
theorem Oj{x:Sym}{p:(t:Ty)×List (El t)}(h:RM x=some p):x.cells=(p.2.map (ah p.1)).flatten:=by
 unfold RM at h
 split at h
 ·cases h;rfl
 ·cases h
def F0:Sym→Option (Nat×Nat×Nat×Nat)
 | .sl b z lo len _ _=>some (b,z,lo,len)
 |_=>none
theorem D9{x:Sym}{b z lo len:Nat}(h:F0 x=some (b,z,lo,len)):∃cap sp,x= .sl b z lo len cap sp:=by
 cases x<;>first|(cases h;done)|(cases h;exact⟨_,_,rfl⟩)
def Kc(e:TypeId)(n:Int)(x:Sym)(s:ay)(K:Sym→ay→Option R):Option R:=
 kz (vq x) (fun p=>andThen (size T e) fun z=>iff (Nat.beq z (al p.1)) (andThen (an n p.2.length) fun j=>andThen (aU j p.2) fun y=>K (.p p.1 y) s) none) <|
 kz (F0 x) (fun q=>andThen (size T e) fun z=>iff (Nat.beq q.2.1 z) (andThen (an n q.2.2.2) fun j=>K (.rp q.1 0 q.2.1 (Nat.add q.2.2.1 j) 0) s) none) <|
 au (qE x.val) fun a len _=>andThen a fun a=>andThen (size T e) fun z=>andThen (an n len) fun j=>Oi a.block a.off z j s K
def Ok(len:Nat)(e:TypeId)(n:Int)(x:Sym)(s:ay)(K:Sym→ay→Option R):Option R:=
 ak (fN x.val) fun k off=>andThen (size T e) fun z=>andThen (an n len) fun j=>Oi k off z j s K
def Vm(n:Int)(x:Sym)(s:ay)(K:Sym→ay→Option R):TypeDesc→Option R
 | .slice e=>Kc T e n x s K
 | .array len e=>Ok T len e n x s K
 |_=>none
def vv(t:TypeId)(x i:Sym)(s:ay)(K:Sym→ay→Option R):Option R:=
 ak (B4 i) fun _ n=>andThen (desc T t) fun d=>Vm T n x s K d
theorem Kd{x:Value}{p}(h:qE x=some p):∀vs,x≠ .tuple vs:=fun vs hx=>by subst hx;cases h
theorem HY{x:Value}{p}(h:fN x=some p):∀vs,x≠ .tuple vs:=fun vs hx=>by subst hx;cases h
theorem xf{t:TypeId}{x i:Sym}{s:ay}{K:Sym→ay→Option R}{r:R}(h:vv T t x i s K=some r):bZ (val s.g (kC T t x.val i.val)) s K r:=by
 obtain⟨k,n,h1,h⟩:=ae h
 obtain⟨d,h2,h⟩:=aa h
 obtain rfl:=fY h1
 unfold kC
 show bZ (val s.g (ak (some (k,n)) fun _ i=>andThen (desc T t) fun d=>nR d T x.val i)) s K r
 rw [ax,h2,af]
 cases d<;>first|(cases h;done)|skip
 case array len e=>
  obtain⟨b,off,g1,h⟩:=ae (show(ak (fN x.val) fun k off=>andThen (size T e) fun z=>andThen (an n len) fun j=>Oi k off z j s K)=some r from h)
  obtain⟨z,g2,h⟩:=aa h
  obtain⟨j,g3,h⟩:=aa h
  show bZ (val s.g (kA T len e x.val n)) s K r
  unfold kA
  rw [sJ (HY g1),g1,ax,g2,af,g3,af]
  exact FZ h
 case slice e=>
  have h:Kc T e n x s K=some r:=h
  show bZ (val s.g (lR T e x.val n)) s K r
  clear h1 h2
  rcases bR h with⟨⟨t',l⟩,hx,h⟩|⟨_,h⟩
  ·rw [im hx]
   obtain⟨z,g2,h⟩:=aa h
   obtain⟨hz,h⟩:=aj h
   rw [beq_iff]at hz
   obtain⟨j,g3,h⟩:=aa h
   obtain⟨y,g4,h⟩:=aa h
   have g4:l[j]? =some y:=by rw [←bW];exact g4
   refine⟨_,s,?_,h⟩
   show val s.g (andThen (size T e) fun z=>andThen (an n (aY (cW (l.map (ah t'))))) fun j=>rowAt z (cW (l.map (ah t'))) j)=_
   rw [g2,af,aC,bx,List.length_map,g3,af]
   unfold rowAt
   have:aU j (cW (l.map (ah t')))=some (.agg ⟨ah t' y⟩):=by
    rw [bW];unfold cW;rw [List.map_map,List.getElem?_map,g4];rfl
   rw [this,af]
   show val s.g (iff (Nat.beq (aY (ah t' y)) z) (some (fv (ah t' y))) none)=_
   rw [aC,aH,(beq_iff _ _).2 hz.symm]
   rfl
  rcases bR h with⟨⟨b,zz,lo,len⟩,hx,h⟩|⟨_,h⟩
  ·obtain⟨cap,sp,hx⟩:=D9 hx
   rw [hx]
   obtain⟨z,g2,h⟩:=aa h
   obtain⟨hz,h⟩:=aj h
   have hz:zz=z:=(beq_iff _ _).1 hz
   obtain⟨j,g3,h⟩:=aa h
   refine⟨_,s,?_,h⟩
   show val s.g (andThen (size T e) fun z=>andThen (an n len) fun j=>tR b (Nat.add (Nat.mul lo zz) (Nat.mul j z)))=_
   rw [g2,af,g3,af,←hz]
   show some (Value.pointer (some ⟨b,Nat.add (Nat.mul lo zz) (Nat.mul j zz),none⟩),s.g)=some (Value.pointer (some ⟨b,Nat.add 0 (Nat.mul (Nat.add lo j) zz),none⟩),s.g)
   rw [show Nat.add (Nat.mul lo zz) (Nat.mul j zz)=Nat.add 0 (Nat.mul (Nat.add lo j) zz)from by
    show lo*zz+j*zz=0+(lo+j)*zz
    rw [Nat.zero_add,Nat.add_mul]]
  ·obtain⟨a',len,cap,g1,h⟩:=aq h
   obtain⟨a,ha,h⟩:=aa h
   obtain⟨z,g2,h⟩:=aa h
   obtain⟨j,g3,h⟩:=aa h
   unfold lR
   rw [ha]at g1
   rw [sJ (Kd g1),g1]
   show bZ (val s.g (andThen (size T e) fun z=>andThen (an n len) fun j=>tR a.block (Nat.add a.off (Nat.mul j z)))) s K r
   rw [g2,af,g3,af]
   exact FZ h
def x9(len:Nat)(e:TypeId)(n:Int)(x:Sym)(s:ay)(K:Sym→ay→Option R):Option R:=
 iff x.isAgg (andThen (ty T e) fun ie=>andThen (an n len) fun j=>
  kz (RM x) (fun p=>iff (and (Nat.beq (al p.1) ie.size) (dz p.1==ie.agg)) (andThen (aU j p.2) fun w=>K (nK p.1 w) s) none)
   (ri x (Nat.mul j ie.size) ie.size ie.agg fun u=>K u s)) none
def Ol(n:Int)(x:Sym)(s:ay)(K:Sym→ay→Option R):TypeDesc→Option R
 | .array len e=>x9 T len e n x s K
 | .string=>andThen (andThen (zV x) qD) fun l=>andThen (an n (aY l)) fun j=>andThen (aU j l) fun b=>K (.v (.int .u8 (Int.ofNat b.toNat))) s
 |_=>none
def Ke(t:TypeId)(x i:Sym)(s:ay)(K:Sym→ay→Option R):Option R:=
 ak (B4 i) fun _ n=>andThen (desc T t) fun d=>Ol T n x s K d
theorem H0{t:TypeId}{x i:Sym}{s:ay}{K:Sym→ay→Option R}{r:R}(h:Ke T t x i s K=some r):bZ (val s.g (yZ T t x.val i.val)) s K r:=by
 obtain⟨k,n,h1,h⟩:=ae h
 obtain⟨d,h2,h⟩:=aa h
 obtain rfl:=fY h1
 unfold yZ
 show bZ (val s.g (ak (some (k,n)) fun _ i=>andThen (desc T t) fun d=>Dm d T x.val i)) s K r
 rw [ax,h2,af]
 cases d<;>first|(cases h;done)|skip
 case array len e=>
  obtain⟨h0,h⟩:=aj (show x9 T len e n x s K=some r from h)
  obtain⟨ie,g2,h⟩:=aa h
  obtain⟨j,g3,h⟩:=aa h
  show bZ (val s.g (tS T len e x.val n)) s K r
  unfold tS
  have hsz:size T e=some ie.size:=by unfold size;rw [g2];rfl
  rw [Sym.gH h0]
  show bZ (val s.g (andThen (size T e) fun z=>andThen (an n len) fun j=>part T e x.cells (Nat.mul j z))) s K r
  rw [hsz,af,g3,af]
  rcases bR h with⟨⟨t',l⟩,hx,h⟩|⟨_,h⟩
  ·rw [Oj hx]
   obtain⟨hc,h⟩:=aj h
   simp only [Bool.and_eq_true,beq_iff,beq_iff_eq]at hc
   obtain⟨w,g4,h⟩:=aa h
   have g4:l[j]? =some w:=by rw [←bW];exact g4
   refine⟨_,s,?_,h⟩
   have hg:zU (l.map (ah t')).flatten (Nat.mul j ie.size) ie.size ie.agg (nK t' w):=⟨DY _ _,by rw [zS,hc.2],by rw [eR,aH,hc.1],by
    rw [eR,←hc.1]
    exact eC.row (fun x _=>aH t' x) g4⟩
   rw [mw g2 hg];rfl
  ·obtain⟨u,g4,g5⟩:=tx _ _ _ _ _ _ h
   exact⟨u,s,by rw [mw g2 g5];rfl,g4⟩
 case string=>
  obtain⟨l,g1,h⟩:=aa (show(andThen (andThen (zV x) qD) fun l=>andThen (an n (aY l)) fun j=>andThen (aU j l) fun b=>K (.v (.int .u8 (Int.ofNat b.toNat))) s)=some r from h)
  obtain⟨v,g0,g1⟩:=aa g1
  rw [eM g0]
  obtain⟨j,g3,h⟩:=aa h
  obtain⟨b,g4,h⟩:=aa h
  refine⟨_,s,?_,h⟩
  show val s.g (andThen (qD v) fun s=>andThen (an n (aY s)) fun j=>andThen (aU j s) fun b=>some (.int .u8 (Int.ofNat b.toNat)))=_
  rw [g1,af,g3,af,g4];rfl
end
end Go.az
namespace Go.az
def rl{α:Type}(f:α→α→Bool):List α→List α→Bool
 | [],[]=>true
 |x::a,y::b=>and (f x y) (rl f a b)
 |_,_=>false
def lI(a b:Bool):Bool:=a==b
def gV:(t:Ty)→El t→El t→Bool
 | .bool=>fun a b=>lI a b
 | .int _=>fun a b=>cB a b
 | .str=>fun a b=>aQ a b
 | .unit=>fun _ _=>true
 | .pair a b=>fun x y=>and (gV a x.1 y.1) (gV b x.2 y.2)
 | .arr _ t=>fun x y=>rl (gV t) x.1 y.1
 | .slice _=>fun _ _=>false
def jM:Ty→Bool
 | .slice _=>false
 | .pair a b=>and (jM a) (jM b)
 | .arr _ t=>jM t
 |_=>true
theorem B5{α:Type}{f:α→α→Bool}(hf:∀x y,f x y=true↔x=y):∀(a b:List α),rl f a b=true↔a=b
 | [],[]=>by simp [rl]
 |x::a,y::b=>by simp [rl,hf,B5 hf a b]
 | [],_::_=>by simp [rl]
 |_::_,[]=>by simp [rl]
theorem z6:∀{t:Ty},jM t=true→∀x y:El t,gV t x y=true↔x=y:=by
 intro t
 induction t with
 |bool=>
  intro _ x y
  exact(show∀a b:Bool,lI a b=true↔a=b from fun a b=>beq_iff_eq) x y
 |int k=>
  intro _ x y
  exact(show∀a b:Int,cB a b=true↔a=b from fun a b=>by rw [iG];exact beq_iff_eq) x y
 |str=>
  intro _ x y
  exact(show∀a b:List UInt8,aQ a b=true↔a=b from fun a b=>beq_iff_eq) x y
 |unit=>intro _ x y;exact⟨fun _=>rfl,fun _=>rfl⟩
 |pair a b iha ihb=>
  intro h x y
  have h:(jM a&&jM b)=true:=h
  rw [Bool.and_eq_true]at h
  show(gV a x.1 y.1&&gV b x.2 y.2)=true↔x=y
  rw [Bool.and_eq_true,iha h.1,ihb h.2]
  exact⟨fun h=>Prod.ext h.1 h.2,fun h=>by rw [h];exact⟨rfl,rfl⟩⟩
 |arr n t ih=>
  intro h x y
  show rl (gV t) x.1 y.1=true↔x=y
  rw [B5 (ih h)]
  exact⟨fun h=>Subtype.ext h,fun h=>by rw [h]⟩
 |slice t=>intro h;cases h
theorem pP{t:Ty}(h:jM t=true)(x:El t):gV t x x=true:=(z6 h x x).2 rfl
def rm(f:TypeId→Option Ty):List Field→Nat→Option Ty
 | [],_=>some .unit
 |g::fs,off=>iff (or (g.name== "_") (not (Nat.beq g.offset off))) none (andThen (f g.type) fun t=>andThen (rm f fs (Nat.add off (al t))) fun r=>some (.pair t r))
def Vn(held:Bool)(f:TypeId→Option Ty):TypeDesc→Option Ty
 | .bool=>some .bool
 | .int k=>some (.int k)
 | .string=>some .str
 | .array n e=>andThen (f e) fun t=>some (.arr n t)
 | .struct fs=>iff held none (rm f fs.toList 0)
 |_=>none
def kW(T:ew):Nat→TypeId→Option Ty
 |0,_=>none
 |d+1,t=>andThen (ty T t) fun i=>andThen (Vn i.held (kW T d) i.desc) fun u=>iff (and (Nat.beq i.size (al u)) (i.agg==dz u)) (some u) none
section
variable {T:ew}
theorem B6{e:TypeId}{i:TI}{t:Ty}(hi:ty T e=some i)(hs:i.size=al t)(ha:i.agg=dz t){cs:List Value}{off:Nat}{z:El t}(hw:eC cs off (ah t z)):part T e cs off=some (aT t z):=
 mw (u:= .d t z) hi ⟨rfl,ha.symm,by show(ah t z).length=_;rw [aH,hs],hw⟩
theorem eC.split{l a b:List Value}{off:Nat}(h:eC l off (a++b)):eC l off a∧eC l (off+a.length) b:=by
 have h1:=h.trans ((eC.all a).left (b:=b))
 have h2:=h.trans ((eC.all b).right (a:=a))
 rw [Nat.add_zero]at h1 h2
 exact⟨h1,h2⟩
def EqAt(T:ew)(g:TypeId→Value→Value→Option Bool)(u:TypeId)(t:Ty):Prop:=
 (∃i,ty T u=some i∧i.size=al t∧i.agg=dz t)∧∀x y:El t,g u (aT t x) (aT t y)=some (gV t x y)
theorem ya{g:TypeId→Value→Value→Option Bool}{u:TypeId}{t:Ty}(h:EqAt T g u t){xs ys:List Value}{off:Nat}{x y:El t}(hx:eC xs off (ah t x))(hy:eC ys off (ah t y)):fw T g xs ys u off=some (gV t x y):=by
 obtain⟨⟨i,h1,h2,h3⟩,h4⟩:=h
 unfold fw
 rw [B6 h1 h2 h3 hx,B6 h1 h2 h3 hy]
 exact h4 x y
theorem sK{f:TypeId→Option Ty}{g:TypeId→Value→Value→Option Bool}(hf:∀u t,f u=some t→EqAt T g u t):∀(fs:List Field)(off:Nat)(t:Ty),rm f fs off=some t→∀(x y:El t)(xs ys:List Value),eC xs off (ah t x)→eC ys off (ah t y)→
  dz t=true∧eqFields (fw T g xs ys) fs=some (gV t x y)
 | [],off,t,h,x,y,xs,ys,hx,hy=>by
  cases (show some Ty.unit=some t from h)
  exact⟨rfl,rfl⟩
 |q::fs,off,t,h,x,y,xs,ys,hx,hy=>by
  rcases aG (show iff (or (q.name== "_") (not (Nat.beq q.offset off))) none (andThen (f q.type) fun t=>andThen (rm f fs (Nat.add off (al t))) fun r=>some (.pair t r))=some t from h)with⟨_,h1⟩|⟨h0,h1⟩
  ·cases h1
  obtain⟨t1,h2,h3⟩:=aa h1
  obtain⟨r,h4,h5⟩:=aa h3
  clear h h1 h3
  cases h5
  simp only [Bool.or_eq_false_iff]at h0
  have hoff:q.offset=off:=by
   have:=h0.2
   rw [Bool.not_eq_false',beq_iff]at this
   exact this
  rw [mn]at hx hy
  obtain⟨hx1,hx2⟩:=hx.split
  obtain⟨hy1,hy2⟩:=hy.split
  rw [aH]at hx2 hy2
  obtain⟨_,ih⟩:=sK hf fs _ r h4 x.2 y.2 xs ys hx2 hy2
  refine⟨rfl,?_⟩
  show iff (q.name== "_") (eqFields (fw T g xs ys) fs) (andThen (fw T g xs ys q.type q.offset) fun b=>iff b (eqFields (fw T g xs ys) fs) (some false))=some (and (gV t1 x.1 y.1) (gV r x.2 y.2))
  rw [h0.1,iff_false,hoff,ya (hf _ _ h2) hx1 hy1,af,ih]
  cases gV t1 x.1 y.1<;>rfl
theorem yb(k:IntKind):∀(l l':List Int)(n:Nat),l.length=n→l'.length=n→lQ n (l.map (ah (.int k))).flatten (l'.map (ah (.int k))).flatten=some (rl cB l l')
 | [],[],n,h,_=>by subst h;rfl
 | [],_::_,n,h,h'=>by subst h;simp at h'
 |_::_,[],n,h,h'=>by subst h;simp at h'
 |x::l,y::l',n,h,h'=>by
  subst h
  have ih:=yb k l l' l.length rfl (by simpa using h')
  show iff (sameKind k k) (iff (cB x y) (lQ l.length (l.map (ah (.int k))).flatten (l'.map (ah (.int k))).flatten) (some false)) none=some (and (cB x y) (rl cB l l'))
  rw [(bG k k).2 rfl,iff_true,ih]
  cases cB x y<;>rfl
theorem B7{g:TypeId→Value→Value→Option Bool}{u:TypeId}{t:Ty}(h:EqAt T g u t):∀(l l':List (El t))(n:Nat),l.length=n→l'.length=n→
  sf (fun l r=>fw T g l r u 0) (al t) n (l.map (ah t)).flatten (l'.map (ah t)).flatten=some (rl (gV t) l l')
 | [],[],n,h1,_=>by subst h1;rfl
 | [],_::_,n,h1,h'=>by subst h1;simp at h'
 |_::_,[],n,h1,h'=>by subst h1;simp at h'
 |x::l,y::l',n,h1,h'=>by
  subst h1
  have ih:=B7 h l l' l.length rfl (by simpa using h')
  have hd:∀(z:El t)(m:List Value),jT (al t) (ah t z++m)=m:=fun z m=>by
   rw [fQ,←aH t z,List.drop_left]
  show andThen (fw T g (ah t x++(l.map (ah t)).flatten) (ah t y++(l'.map (ah t)).flatten) u 0) (fun b=>iff b (sf (fun l r=>fw T g l r u 0) (al t) l.length (jT (al t) (ah t x++(l.map (ah t)).flatten)) (jT (al t) (ah t y++(l'.map (ah t)).flatten))) (some false))=some (and (gV t x y) (rl (gV t) l l'))
  rw [ya h ((eC.all _).left) ((eC.all _).left),af,hd,hd,ih]
  cases gV t x y<;>rfl
theorem Ea:∀(d:Nat)(u:TypeId)(t:Ty),kW T d u=some t→EqAt T (wR T d) u t
 |0,u,t,h=>by cases (show none=some t from h)
 |d+1,u,t,h=>by
  obtain⟨i,h1,h2⟩:=aa (show andThen (ty T u) (fun i=>andThen (Vn i.held (kW T d) i.desc) fun u=>iff (and (Nat.beq i.size (al u)) (i.agg==dz u)) (some u) none)=some t from h)
  obtain⟨t0,h3,h4⟩:=aa h2
  obtain⟨h5,h6⟩:=aj h4
  clear h h2 h4
  cases h6
  rw [Bool.and_eq_true,beq_iff,beq_iff_eq]at h5
  refine⟨⟨i,h1,h5.1,h5.2⟩,fun x y=>?_⟩
  show(andThen (ty T u) fun i=>XT i.desc T (wR T d) i.held (aT t x) (aT t y))=_
  rw [h1,af]
  have ih:=Ea d
  cases hd:i.desc<;>rw [hd]at h3<;>first|(cases h3;done)|skip
  case bool=>cases h3;rfl
  case int k=>
   cases h3
   show Zo (.int k x) (.int k y)=some (cB x y)
   show iff (sameKind k k) (some (cB x y)) none=_
   rw [(bG k k).2 rfl];rfl
  case string=>cases h3;rfl
  case array n e=>
   obtain⟨t1,h7,h8⟩:=aa (show andThen (kW T d e) (fun t=>some (.arr n t))=some t from h3)
   cases h8
   have he:=ih e t1 h7
   obtain⟨⟨j,hj,hjs,hja⟩,_⟩:=he
   show yV T (wR T d) n e (.agg ⟨(x.1.map (ah t1)).flatten⟩) (.agg ⟨(y.1.map (ah t1)).flatten⟩)=some (rl (gV t1) x.1 y.1)
   have hsz:size T e=some (al t1):=by
    unfold size
    rw [hj,af,hjs]
   show(andThen (size T e) fun z=>iff (and (yU T e) (Nat.beq z 1)) (lQ n (x.1.map (ah t1)).flatten (y.1.map (ah t1)).flatten) (sf (fun l r=>fw T (wR T d) l r e 0) z n (x.1.map (ah t1)).flatten (y.1.map (ah t1)).flatten))=_
   rw [hsz,af,iff_eq]
   split
   ·rename_i hc
    rw [Bool.and_eq_true]at hc
    have hk:∃k,t1= .int k:=by
     have h9:=hc.1
     unfold yU desc at h9
     rw [hj,af,af]at h9
     cases d with
     |zero=>cases h7
     |succ d=>
      obtain⟨j',g1,g2⟩:=aa (show andThen (ty T e) (fun i=>andThen (Vn i.held (kW T d) i.desc) fun u=>iff (and (Nat.beq i.size (al u)) (i.agg==dz u)) (some u) none)=some t1 from h7)
      rw [hj]at g1
      cases g1
      obtain⟨t2,g3,g4⟩:=aa g2
      obtain⟨_,g5⟩:=aj g4
      cases g5
      cases hjd:j.desc<;>rw [hjd]at h9 g3<;>first|(cases h9;done)|skip
      cases g3
      exact⟨_,rfl⟩
    obtain⟨k,rfl⟩:=hk
    exact yb k x.1 y.1 n x.2 y.2
   ·exact B7 (ih e t1 h7) x.1 y.1 n x.2 y.2
  case struct fs=>
   rcases aG (show iff i.held none (rm (kW T d) fs.toList 0)=some t from h3)with⟨_,h7⟩|⟨h7,h8⟩
   ·cases h7
   obtain⟨ha,hq⟩:=sK ih fs.toList 0 t h8 x y (ah t x) (ah t y) (eC.all _) (eC.all _)
   show oR T (wR T d) i.held fs.toList (aT t x) (aT t y)=_
   have hv:∀z:El t,aT t z= .agg ⟨ah t z⟩:=fun z=>by unfold aT;rw [if_pos ha]
   rw [hv,hv]
   unfold oR
   rw [h7,iff_false]
   exact hq
end
end Go.az
namespace Go.az
section
variable {R:Type}
def Eb(dflt most:Nat)(o:Option Sym)(K:Nat→Option R):Option R:=
 @Option.rec Sym (fun _=>Option R) (K dflt) (fun x=>ak (B4 x) fun _ i=>andThen (oQ i most) K) o
theorem yc{dflt most:Nat}{o:Option Sym}{K:Nat→Option R}{r:R}(h:Eb dflt most o K=some r):∃n,bound dflt most (o.map Sym.val)=some n∧K n=some r:=by
 cases o with
 |none=>exact⟨dflt,rfl,h⟩
 |some x=>
  obtain⟨k,i,h1,h3⟩:=ae (show(ak (B4 x) fun _ i=>andThen (oQ i most) K)=some r from h)
  obtain⟨n,h2,h4⟩:=aa h3
  clear h h3
  obtain rfl:=fY h1
  exact⟨n,h2,h4⟩
def tD(len cap:Nat)(lo hi:Option Sym)(K:Nat→Nat→Option R):Option R:=
 Eb len cap hi fun h=>Eb (nat_lit 0) h lo fun l=>K l h
def nv{α:Type}(l h:Nat)(xs:List α):List α:=(xs.drop l).take (Nat.sub h l)
theorem oy{l n:Nat}{rows:List Value}(h:l+n≤rows.length):sub rows l n=some ((rows.drop l).take n):=by
 have:=eC.mq (l:=rows) (off:=l) (cs:=(rows.drop l).take n) ⟨by simp;omega,by simp⟩
 rwa [show((rows.drop l).take n).length=n from by simp;omega]at this
theorem Kf{t:Ty}{xs:List (El t)}{l h:Nat}(h1:l≤h)(h2:h≤xs.length):sub (cW (xs.map (ah t))) l (Nat.sub h l)=some (cW ((nv l h xs).map (ah t))):=by
 rw [oy (by rw [bx,List.length_map];show l+(h-l)≤_;omega)]
 unfold nv cW
 rw [←List.map_drop,←List.map_take,←List.map_drop,←List.map_take]
theorem H2{t:Ty}{xs:List (El t)}{z:Nat}(h:z=al t):Jc z (cW (xs.map (ah t)))=true:=by
 cases xs with
 |nil=>rfl
 |cons x xs=>
  show Nat.beq (aY (ah t x)) z=true
  rw [aC,aH,h,beq_iff]
variable (T:ew)
def B8(e:TypeId)(x:Sym)(lo hi mx:Option Sym)(d:Option R)(s:ay)(K:Sym→ay→Option R):Option R:=
 kz (vq x) (fun p=>andThen (size T e) fun z=>iff (and (Nat.beq z (al p.1)) (not mx.isSome)) (tD p.2.length p.2.length lo hi fun l h=>K (.d (.slice p.1) (nv l h p.2)) s) none) d
def Om(x:Sym)(lo hi mx:Option Sym)(d:Option R)(s:ay)(K:Sym→ay→Option R):TypeDesc→Option R
 | .slice e=>B8 T e x lo hi mx d s K
 | .string=>kz (andThen (zV x) qD) (fun l=>iff mx.isSome none (tD (aY l) (aY l) lo hi fun a b=>K (.v (.string ⟨⟨nv a b l⟩⟩)) s)) d
 |_=>d
def Kg(op:Op)(ρ:Operand→Sym)(t:TypeId)(x:Sym)(lo hi mx:Option Sym)(s:ay)(K:Sym→ay→Option R):Option R:=
 andThen (desc T t) fun d=>Om T x lo hi mx (iX T op ρ s K) s K d
variable {T}
theorem H3{len:Nat}{lo hi:Option Sym}{l m:Nat}(h:eE len len (lo.map Sym.val) (hi.map Sym.val) none=some (l,m,len)):l≤m∧m≤len:=by
 obtain⟨m',h1,h⟩:=aa (show(andThen (some len) fun m=>andThen (bound len m (hi.map Sym.val)) fun h=>andThen (bound 0 h (lo.map Sym.val)) fun l=>some (l,h,m))=some (l,m,len)from h)
 cases h1
 obtain⟨h',h2,h⟩:=aa h
 obtain⟨l',h3,h⟩:=aa h
 cases h
 have up:∀{o:Option Sym}{a b c:Nat},a≤b→bound a b (o.map Sym.val)=some c→c≤b:=by
  intro o a b c hab hb
  cases o with
  |none=>cases hb;exact hab
  |some x=>
   obtain⟨_,i,_,h1⟩:=ae (show(ak (mK x.val) fun _ i=>oQ i b)=some c from hb)
   cases i with
   |ofNat i=>obtain⟨h4,h5⟩:=aj (show iff (Nat.ble i b) (some i) none=some c from h1);cases h5;exact(bk _ _).1 h4
   |negSucc i=>cases h1
 exact⟨up (Nat.zero_le _) h3,up (Nat.le_refl _) h2⟩
theorem pQ{len:Nat}{lo hi:Option Sym}{K:Nat→Nat→Option R}{r:R}(h:tD len len lo hi K=some r):∃l m,eE len len (lo.map Sym.val) (hi.map Sym.val) none=some (l,m,len)∧K l m=some r∧l≤m∧m≤len:=by
 obtain⟨m,h1,h⟩:=yc h
 obtain⟨l,h2,h⟩:=yc h
 have h3:eE len len (lo.map Sym.val) (hi.map Sym.val) none=some (l,m,len):=by
  show andThen (some len) (fun m=>andThen (bound len m (hi.map Sym.val)) fun h=>andThen (bound 0 h (lo.map Sym.val)) fun l=>some (l,h,m))=_
  rw [af,h1,af,h2];rfl
 exact⟨l,m,h3,h,H3 h3⟩
theorem H4{op:Op}{ρ:Operand→Sym}{t:TypeId}{xo:Operand}{lo hi mx:Option Operand}{s:ay}{K:Sym→ay→Option R}{r:R}(ho:op= .slice t xo lo hi mx)(h:Kg T op ρ t (ρ xo) (lo.map ρ) (hi.map ρ) (mx.map ρ) s K=some r):bZ (zl op T (fun o=>(ρ o).val) s.g) s K r:=by
 obtain⟨d,h1,h⟩:=aa h
 have hmap:∀o:Option Operand,(o.map ρ).map Sym.val=o.map fun o=>(ρ o).val:=fun o=>by cases o<;>rfl
 have key:∀{u:Sym},qH T t (ρ xo).val (lo.map fun o=>(ρ o).val) (hi.map fun o=>(ρ o).val) (mx.map fun o=>(ρ o).val)=some u.val→K u s=some r→bZ (zl op T (fun o=>(ρ o).val) s.g) s K r:=fun{u} h1 h2=>by
  subst ho
  exact⟨u,s,by show val s.g (qH T t _ _ _ _)=_;rw [h1];rfl,h2⟩
 cases d<;>first|exact eu h|skip
 case slice e=>
  rcases bR (show B8 T e (ρ xo) (lo.map ρ) (hi.map ρ) (mx.map ρ) (iX T op ρ s K) s K=some r from h)with⟨⟨t',xs⟩,hx,g⟩|⟨_,g⟩
  ·obtain⟨z,h2,g⟩:=aa g
   obtain⟨hc,g⟩:=aj g
   rw [Bool.and_eq_true,beq_iff]at hc
   obtain⟨hz,hm⟩:=hc
   have hmx:mx=none:=by cases mx with|none=>rfl|some m=>cases hm
   obtain⟨l,m,h3,h4,h5,h6⟩:=pQ g
   refine key (u:= .d (.slice t') (nv l m xs)) ?_ h4
   rw [hmap,hmap]at h3
   rw [im hx,hmx]
   unfold qH
   rw [h1,af]
   show(andThen (some (cW (xs.map (ah t')))) fun rows=>andThen (size T e) fun z=>iff (Jc z rows) (au (eE (aY rows) (aY rows) _ _ none) fun l h m=>yY none rows l h m) none)=_
   rw [af,h2,af,H2 hz,iff_true,aC,bx,List.length_map]
   show au (eE xs.length xs.length (lo.map fun o=>(ρ o).val) (hi.map fun o=>(ρ o).val) none) _=_
   rw [h3]
   show(andThen (sub (cW (xs.map (ah t'))) l (Nat.sub m l)) fun r=>some (dV r))=_
   rw [Kf h5 h6];rfl
  ·exact eu g
 case string=>
  rcases bR (show kz (andThen (zV (ρ xo)) qD) (fun l=>iff (mx.map ρ).isSome none (tD (aY l) (aY l) (lo.map ρ) (hi.map ρ) fun a b=>K (.v (.string ⟨⟨nv a b l⟩⟩)) s)) (iX T op ρ s K)=some r from h)with⟨w,hx,g⟩|⟨_,g⟩
  ·obtain⟨v,h2,h3⟩:=aa hx
   rcases aG g with⟨_,g⟩|⟨hm,g⟩
   ·cases g
   have hmx:mx=none:=by cases mx with|none=>rfl|some m=>cases hm
   obtain⟨l,m,h4,h5,h6,h7⟩:=pQ g
   refine key (u:= .v (.string ⟨⟨nv l m w⟩⟩)) ?_ h5
   rw [hmap,hmap]at h4
   rw [eM h2,hmx]
   unfold qH
   rw [h1,af]
   show(andThen (qD v) fun s=>iff (Option.isSome (none:Option Value)) none (au (eE (aY s) (aY s) _ _ none) fun l h _=>some (Value.string ⟨⟨(s.drop l).take (Nat.sub h l)⟩⟩)))=_
   rw [h3,af]
   rw [show(Option.isSome (none:Option Value))=false from rfl,iff_false]
   rw [h4];rfl
  ·exact eu g
variable (T)
def Kh(x:Sym)(s:ay)(K:Sym→ay→Option R):Option R:=
 kz (vq x) (fun p=>K (.v (.int .i64 (Int.ofNat p.2.length))) s) <|
 kz (D0 x) (fun q=>K (.v (.int .i64 (Int.ofNat (iff q.2.2.2.1 (nat_lit 0) q.2.2.1)))) s) <|
 au (qE x.val) fun _ n _=>K (.v (.int .i64 (Int.ofNat n))) s
def Vo(x:Sym)(s:ay)(K:Sym→ay→Option R):TypeDesc→Option R
 | .string=>andThen (andThen (zV x) qD) fun l=>K (.v (.int .i64 (Int.ofNat (aY l)))) s
 | .slice _=>Kh x s K
 | .array n _=>K (.v (.int .i64 (Int.ofNat n))) s
 |_=>none
def A9(bT:List TypeId)(args:List Sym)(s:ay)(K:Sym→ay→Option R):Option R:=
 ak (jV bT) fun t _=>ak (jV args) fun x _=>andThen (desc T t) (Vo x s K)
variable {T}
theorem vw{α β:Type}{f:α→β}{l:List α}{a:α}{r:List α}(h:jV l=some (a,r)):jV (l.map f)=some (f a,r.map f):=by
 cases l with
 |nil=>cases h
 |cons x l=>cases h;rfl
theorem Ca{α β:Type}{f:α→β}{l:List α}{a b:α}(h:tV l=some (a,b)):tV (l.map f)=some (f a,f b):=by
 cases l with
 |nil=>cases h
 |cons x l=>
  cases l with
  |nil=>cases h
  |cons y l=>cases h;rfl
theorem Oo{bT:List TypeId}{args:List Sym}{s:ay}{K:Sym→ay→Option R}{r:R}(h:A9 T bT args s K=some r):bZ (Jk T bT (args.map Sym.val) s.g) s K r:=by
 obtain⟨t,tr,h1,h⟩:=ae h
 obtain⟨x,xr,h2,h⟩:=ae h
 obtain⟨d,h3,h⟩:=aa h
 unfold Jk
 rw [h1,ax,vw h2,ax]
 have key:∀{n:Nat},Rr d T s.g x.val=some n→K (.v (.int .i64 (Int.ofNat n))) s=some r→bZ (val s.g (Ji T s.g t x.val)) s K r:=fun{n} h4 h5=>
  ⟨_,s,by unfold Ji;rw [h3,af,h4];rfl,h5⟩
 cases d<;>first|(cases h;done)|skip
 case string=>
  obtain⟨l,h4,h⟩:=aa (show(andThen (andThen (zV x) qD) fun l=>K (.v (.int .i64 (Int.ofNat (aY l)))) s)=some r from h)
  obtain⟨v,h5,h6⟩:=aa h4
  refine key (n:=aY l) ?_ h
  rw [eM h5]
  show(andThen (qD v) fun s=>some (aY s))=_
  rw [h6];rfl
 case array n e=>exact key rfl h
 case slice e=>
  rcases bR (show Kh x s K=some r from h)with⟨⟨t',xs⟩,hx,g⟩|⟨_,g⟩
  ·refine key (n:=xs.length) ?_ g
   rw [im hx]
   show some (aY (cW (xs.map (ah t'))))=_
   rw [aC,bx,List.length_map]
  rcases bR g with⟨⟨b,z,len,nl,nn⟩,hx,g⟩|⟨_,g⟩
  ·refine key (n:=iff nl 0 len) ?_ g
   rw [jF hx]
   show Jh (Nj b z len nl nn)=_
   cases nl<;>cases nn<;>rfl
  ·obtain⟨a,n,c,hx,g⟩:=aq g
   refine key (n:=n) ?_ g
   rw [gF hx];rfl
variable (T)
def QM:Sym→Option Sym
 | .I1 l=>some l
 |_=>none
theorem Ki{x l:Sym}(h:QM x=some l):x= .I1 l:=by
 cases x<;>first|(cases h;done)|(cases h;rfl)
def Oq:Sym→Bool
 | .cons _ (.cons _ _)=>true
 |_=>false
def Ot:Nat→Sym→Option Sym
 |0=>fun s=>match s with| .cons a _=>some a|_=>none
 |n+1=>fun s=>match s with| .cons _ r=>Ot n r|_=>none
theorem yd:∀{n:Nat}{s a:Sym},Ot n s=some a→s.fy[n]? =some a.val
 |0,s,a,h=>by
  cases s with
  |cons b r=>cases (show some b=some a from h);rfl
  |_=>cases h
 |n+1,s,a,h=>by
  cases s with
  |cons b r=>
   have:=yd (n:=n) (show Ot n r=some a from h)
   show(b.val::r.fy)[n+1]? =_
   simpa using this
  |_=>cases h
def Cb(op:Op)(ρ:Operand→Sym)(x:Sym)(i:Nat)(s:ay)(K:Sym→ay→Option R):Option R:=
 kz (QM x) (fun l=>iff (Oq l) (andThen (Ot i l) fun a=>K a s) none) (iX T op ρ s K)
variable {T}
theorem Cc{op:Op}{ρ:Operand→Sym}{xo:Operand}{i:Nat}{s:ay}{K:Sym→ay→Option R}{r:R}(ho:op= .extract xo i)(h:Cb T op ρ (ρ xo) i s K=some r):bZ (zl op T (fun o=>(ρ o).val) s.g) s K r:=by
 rcases bR h with⟨l,hx,g⟩|⟨_,g⟩
 ·obtain⟨hc,g⟩:=aj g
  obtain⟨a,h1,h2⟩:=aa g
  subst ho
  refine⟨a,s,?_,h2⟩
  show val s.g (Fl i (ρ xo).val)=_
  rw [Ki hx]
  have h3:=yd h1
  cases l with
  |cons b m=>
   cases m with
   |cons c m=>
    show val s.g ((Sym.cons b (.cons c m)).fy[i]?)=_
    rw [h3];rfl
   |_=>cases hc
  |_=>cases hc
 ·exact eu g
variable (T)
def QN(k:IntKind)(y:Int):Option Nat:= @Int.rec (fun _=>Option Nat) (fun n=>some (iff (Nat.ble n k.bits) n k.bits)) (fun _=>none) y
theorem Cd{k:IntKind}{x y:Int}{f:Nat→Option Value}{n:Nat}(h:QN k y=some n):yW k x y f=f n:=by
 cases y with
 |ofNat m=>cases (show some (iff (Nat.ble m k.bits) m k.bits)=some n from h);rfl
 |negSucc m=>cases h
def Ce:Sym→Bool
 | .v (.slice none 0 _)=>true
 |_=>false
def Vp(op:BinOp)(k:IntKind)(a b:Int)(s:ay)(K:Sym→ay→Option R):Option R:=
 iff (cB b (Int.ofNat (nat_lit 0))) none (match op with
  | .quo=>K (.v (.int k (aP k (a.tdiv b)))) s
  | .rem=>K (.v (.int k (a.tmod b))) s
  |_=>none)
def Kj(op:BinOp)(k:IntKind)(a b:Int)(s:ay)(K:Sym→ay→Option R):Option R:=
 andThen (QN k b) fun n=>match op with
  | .shl=>K (.v (.int k (aP k (Int.mul a (Int.ofNat (Nat.pow (nat_lit 2) n)))))) s
  | .shr=>K (.v (.int k (a.fdiv (Int.ofNat (Nat.pow (nat_lit 2) n))))) s
  |_=>none
def ye(x:Sym):Option (List UInt8):=andThen (zV x) qD
def Vq(x y:Sym)(s:ay)(K:Sym→ay→Option R)(d:Option R):Option R:=
 kz (ye x) (fun a=>andThen (ye y) fun b=>iff (Nat.ble (Nat.add (aY a) (aY b)) (nat_lit 1000000000)) (K (.v (.string ⟨⟨a++b⟩⟩)) s) none) d
def Kk(t:TypeId):Option Ty:=andThen (ty T t) fun i=>iff (and i.agg (not i.guard)) (kW T (nat_lit 10) t) none
def RN(n:Bool)(u:Ty)(x y:Sym)(s:ay)(K:Sym→ay→Option R):Option R:=
 pL false (fun _=>none) u x fun a=>pL false (fun _=>none) u y fun b=>K (.v (.bool (iff n (not (gV u a b)) (gV u a b)))) s
def RO(op:Op)(ρ:Operand→Sym)(t:TypeId)(bo:BinOp)(x y:Sym)(s:ay)(K:Sym→ay→Option R):Option R:=
 match bo with
 | .quo=>ak (B4 x) fun k a=>ak (B4 y) fun k' b=>iff (sameKind k k') (Vp .quo k a b s K) none
 | .rem=>ak (B4 x) fun k a=>ak (B4 y) fun k' b=>iff (sameKind k k') (Vp .rem k a b s K) none
 | .shl=>ak (B4 x) fun k a=>ak (B4 y) fun _ b=>Kj .shl k a b s K
 | .shr=>ak (B4 x) fun k a=>ak (B4 y) fun _ b=>Kj .shr k a b s K
 | .add=>Vq x y s K (iX T op ρ s K)
 | .eql=>kz (Kk T t) (fun u=>RN false u x y s K) (iX T op ρ s K)
 | .neq=>kz (Kk T t) (fun u=>RN true u x y s K) (iX T op ρ s K)
 |_=>iX T op ρ s K
variable {T}
theorem F1{bo:BinOp}{n:Bool}(hb:A5 bo=some n)(hbv:∀(cs:List Value)(y:Value) t,Dl (.agg ⟨cs⟩) T bo t y=Rn T bo t (.agg ⟨cs⟩) y){t:TypeId}{u:Ty}(hu:Kk T t=some u){xo yo:Operand}{x y:Sym}{s:ay}{K:Sym→ay→Option R}{r:R}(h:RN n u x y s K=some r):
  ∃b:Bool,iff (iff (dZ bo) (guarded T t xo yo x.val) true) (val s.g (Dl x.val T bo t y.val)) none=some (.bool b,s.g)∧K (.v (.bool b)) s=some r:=by
 obtain⟨i,h1,h2⟩:=aa hu
 obtain⟨h3,h4⟩:=aj h2
 rw [Bool.and_eq_true]at h3
 obtain⟨⟨j,h5,_,h6⟩,h7⟩:=Ea 10 t u h4
 rw [h1]at h5
 cases h5
 have ha:dz u=true:=h6.symm.trans h3.1
 obtain⟨a,g1,g2,g3,g4⟩:=mX fk h
 obtain⟨b,g5,g6,g7,g8⟩:=mX fk g1
 have hv:∀z:El u,aT u z= .agg ⟨ah u z⟩:=fun z=>by unfold aT;rw [if_pos ha]
 have hx:x.val=aT u a:=by rw [Sym.gH (g4.trans ha),hv,g2]
 have hy:y.val=aT u b:=by rw [Sym.gH (g8.trans ha),hv,g6]
 refine⟨_,?_,g5⟩
 have hq:=h7 a b
 rw [hx,hy,hv a,hbv]
 rw [hv a]at hq
 have hg:guarded T t xo yo (.agg ⟨ah u a⟩)=true:=by
  show(match ty T t with|some i=>not i.guard|none=>false)=true
  rw [h1];exact h3.2
 rw [hg]
 show iff (iff (dZ bo) true true) (val s.g (andThen (A5 bo) fun n=>andThen (wR T 10 t (.agg ⟨ah u a⟩) (aT u b)) fun b=>some (.bool (iff n (not b) b)))) none=_
 rw [hb,af,hq,af]
 cases dZ bo<;>rfl
theorem Ou{op:Op}{ρ:Operand→Sym}{bo:BinOp}{t yt:TypeId}{xo yo:Operand}{s:ay}{K:Sym→ay→Option R}{r:R}(ho:op= .binOp bo t xo yo yt)(h:RO T op ρ t bo (ρ xo) (ρ yo) s K=some r):bZ (zl op T (fun o=>(ρ o).val) s.g) s K r:=by
 have key:∀{v:Value},dZ bo=false→Dl (ρ xo).val T bo t (ρ yo).val=some v→K (.v v) s=some r→bZ (zl op T (fun o=>(ρ o).val) s.g) s K r:=fun{v} hn h1 h2=>by
  subst ho
  refine⟨_,s,?_,h2⟩
  show iff (iff (dZ bo) (guarded T t xo yo (ρ xo).val) true) (val s.g (Dl (ρ xo).val T bo t (ρ yo).val)) none=_
  rw [hn,h1];rfl
 unfold RO at h
 cases bo<;>first|exact eu h|skip
 case eql=>
  rcases bR h with⟨u,h1,h2⟩|⟨_,h⟩
  ·obtain⟨b,h3,h4⟩:=F1 (bo:= .eql) (xo:=xo) (yo:=yo) rfl (fun _ _ _=>rfl) h1 h2
   subst ho
   exact⟨.v (.bool b),s,h3,h4⟩
  ·exact eu h
 case neq=>
  rcases bR h with⟨u,h1,h2⟩|⟨_,h⟩
  ·obtain⟨b,h3,h4⟩:=F1 (bo:= .neq) (xo:=xo) (yo:=yo) rfl (fun _ _ _=>rfl) h1 h2
   subst ho
   exact⟨.v (.bool b),s,h3,h4⟩
  ·exact eu h
 case quo=>
  obtain⟨k,a,h1,h⟩:=ae h
  obtain⟨k',b,h2,h⟩:=ae h
  obtain⟨h3,h⟩:=aj h
  rcases aG h with⟨_,h⟩|⟨h4,h⟩
  ·cases h
  refine key (v:= .int k (aP k (a.tdiv b))) rfl ?_ h
  rw [fY h1,fY h2]
  show iff (or false (sameKind k k')) (iff (cB b (Int.ofNat 0)) none _) none=_
  rw [h3,show cB b (Int.ofNat 0)=false from h4];rfl
 case rem=>
  obtain⟨k,a,h1,h⟩:=ae h
  obtain⟨k',b,h2,h⟩:=ae h
  obtain⟨h3,h⟩:=aj h
  rcases aG h with⟨_,h⟩|⟨h4,h⟩
  ·cases h
  refine key (v:= .int k (a.tmod b)) rfl ?_ h
  rw [fY h1,fY h2]
  show iff (or false (sameKind k k')) (iff (cB b (Int.ofNat 0)) none _) none=_
  rw [h3,show cB b (Int.ofNat 0)=false from h4];rfl
 case shl=>
  obtain⟨k,a,h1,h⟩:=ae h
  obtain⟨k',b,h2,h⟩:=ae h
  obtain⟨n,h3,h⟩:=aa h
  refine key (v:= .int k (aP k (Int.mul a (Int.ofNat (Nat.pow 2 n))))) rfl ?_ h
  rw [fY h1,fY h2]
  exact Cd (k:=k) (x:=a) (y:=b) (f:=fun n=>some (.int k (aP k (Int.mul a (Int.ofNat (Nat.pow 2 n)))))) h3
 case shr=>
  obtain⟨k,a,h1,h⟩:=ae h
  obtain⟨k',b,h2,h⟩:=ae h
  obtain⟨n,h3,h⟩:=aa h
  refine key (v:= .int k (a.fdiv (Int.ofNat (Nat.pow 2 n)))) rfl ?_ h
  rw [fY h1,fY h2]
  exact Cd (k:=k) (x:=a) (y:=b) (f:=fun n=>some (.int k (a.fdiv (Int.ofNat (Nat.pow 2 n))))) h3
 case add=>
  rcases bR (show Vq (ρ xo) (ρ yo) s K (iX T op ρ s K)=some r from h)with⟨a,h1,h⟩|⟨_,h⟩
  ·obtain⟨b,h2,h⟩:=aa h
   obtain⟨h3,h⟩:=aj h
   obtain⟨v,h4,h5⟩:=aa h1
   obtain⟨w,h6,h7⟩:=aa h2
   obtain⟨v',rfl,rfl⟩:=fe h5
   obtain⟨w',rfl,rfl⟩:=fe h7
   refine key rfl ?_ h
   rw [eM h4,eM h6]
   show iff (Nat.ble (Nat.add (aY v'.data.toList) (aY w'.data.toList)) 1000000000) _ none=_
   rw [h3];rfl
  ·exact eu h
variable (T)
def X4(x:Sym):Option (List Int):=andThen (vq x) fun p=>gj (.slice p.1) (.slice (.int .u8)) p.2
def X5(l:List Int):List UInt8:=l.map fun n=>UInt8.ofNat n.toNat
def QO(l:List UInt8):List Int:=l.map fun b=>Int.ofNat b.toNat
def Cf(ds:TypeDesc)(x:Sym)(s:ay)(K:Sym→ay→Option R):Option R:=
 kz (ye x) (fun l=>K (.v (.string ⟨⟨l⟩⟩)) s) <|
 andThen (bL ds) fun e=>iff (qG T e) (kz (X4 x) (fun l=>K (.v (.string ⟨⟨X5 l⟩⟩)) s) (iff (Ce x) (K (.v (.string ⟨⟨[]⟩⟩)) s) none)) none
def RP(ds:TypeDesc)(x:Sym)(s:ay)(K:Sym→ay→Option R):TypeDesc→Option R
 | .int k=>ak (B4 x) fun _ n=>K (.v (.int k (aP k n))) s
 | .string=>Cf T ds x s K
 | .slice e=>andThen (ye x) fun l=>iff (qG T e) (K (.os s.next (nat_lit 1) l.length) (s.new (.cons (.rw (.int .u8) (QO l)) .nil) (some (nat_lit 1)) s.next)) none
 |_=>none
def QP(src dst:TypeId)(x:Sym)(s:ay)(K:Sym→ay→Option R):Option R:=
 andThen (desc T src) fun ds=>andThen (desc T dst) (RP T ds x s K)
variable {T}
theorem kX:∀l:List Int,(∀v,bytesOf v=bytesOf v)→bytesOf ((l.map (ah (.int .u8))).flatten)=some (X5 l)
 | [],_=>rfl
 |n::l,h=>by
  show(andThen (some (UInt8.ofNat n.toNat)) fun b=>andThen (bytesOf ((l.map (ah (.int .u8))).flatten)) fun r=>some (b::r))=_
  rw [kX l h];rfl
theorem Ov(l:List Int):aW 1 (cW (l.map (ah (.int .u8))))=some (l.map (ah (.int .u8))).flatten:=bQ fun r hr=>by
 obtain⟨a,_,rfl⟩:=List.mem_map.1 hr
 rfl
theorem iY:∀l:List UInt8,byteCells l=((QO l).map (ah (.int .u8))).flatten
 | []=>rfl
 |b::l=>by
  show Value.int .u8 (Int.ofNat b.toNat)::byteCells l=_
  rw [iY l];rfl
theorem Kl{src dst:TypeId}{x:Sym}{s:ay}{K:Sym→ay→Option R}{r:R}(h:QP T src dst x s K=some r):bZ (tQ T src dst x.val s.g) s K r:=by
 obtain⟨ds,h1,h⟩:=aa h
 obtain⟨d,h2,h⟩:=aa h
 unfold tQ
 rw [h1,af,h2,af]
 cases d<;>first|(cases h;done)|skip
 case int k=>
  obtain⟨k',n,h3,h⟩:=ae (show(ak (B4 x) fun _ n=>K (.v (.int k (aP k n))) s)=some r from h)
  rw [fY h3]
  exact⟨_,s,rfl,h⟩
 case string=>
  show bZ (td T s.g ds x.val) s K r
  rcases bR (show Cf T ds x s K=some r from h)with⟨l,h3,h⟩|⟨_,h⟩
  ·obtain⟨v,h4,h5⟩:=aa h3
   obtain⟨v',rfl,rfl⟩:=fe h5
   rw [eM h4]
   exact⟨_,s,rfl,h⟩
  ·obtain⟨e,h3,h⟩:=aa h
   obtain⟨h4,h⟩:=aj h
   rcases bR h with⟨l,h5,h⟩|⟨_,h⟩
   ·obtain⟨⟨t',xs⟩,h6,h7⟩:=aa h5
    have hc:=(u9 h7).2.1
    refine⟨_,s,?_,h⟩
    rw [im h6,show(Sym.d (.slice t') xs).val=aT (.slice t') xs from rfl,←hc]
    show(andThen (bL ds) fun e=>iff (qG T e) (andThen (some (cW (List.map (ah (.int .u8)) l))) fun rows=>andThen (aW 1 rows) fun cs=>andThen (bytesOf cs) fun l=>some (Value.string ⟨⟨l⟩⟩,s.g)) none)=_
    rw [h3,af,h4,iff_true,af,Ov,af,kX l fun _=>rfl];rfl
   ·obtain⟨h5,h⟩:=aj h
    refine⟨_,s,?_,h⟩
    unfold Ce at h5
    split at h5
    ·show(andThen (bL ds) fun e=>iff (qG T e) (some (Value.string .empty,s.g)) none)=_
     rw [h3,af,h4];rfl
    ·cases h5
 case slice e=>
  obtain⟨l,h3,h⟩:=aa (show(andThen (ye x) fun l=>iff (qG T e) (K (.os s.next 1 l.length) (s.new (.cons (.rw (.int .u8) (QO l)) .nil) (some 1) s.next)) none)=some r from h)
  obtain⟨h4,h⟩:=aj h
  obtain⟨v,h5,h6⟩:=aa h3
  obtain⟨v',rfl,rfl⟩:=fe h6
  rw [eM h5]
  refine⟨_,_,?_,h⟩
  show(andThen (some v'.data.toList) fun w=>iff (qG T e) (bM s.g (aY w) (byteCells w) 1 s.g.next) none)=_
  rw [af,h4,iff_true]
  unfold bM
  rw [ay.FX,aC]
  show some (Value.slice (some ⟨s.next,0,some 1⟩) v'.data.toList.length v'.data.toList.length,s.g.new (.cells (byteCells v'.data.toList) (some 1) s.next false false))=some (_,s.g.new (.cells (((QO v'.data.toList).map (ah (.int .u8))).flatten++[]) (some 1) s.next false false))
  rw [List.append_nil,iY];rfl
end
end Go.az
namespace Go.az
section
variable {R:Type}
def Km:Sym→Sym→Sym
 | .cons a r=>fun t=> .cons a (Km r t)
 | .nil=>fun t=>t
 |s=>fun t=> .cons s t
theorem vx:∀s t:Sym,(Km s t).cells=s.cells++t.cells:=by
 intro s
 induction s with
 |cons a r _ ih=>
  intro t
  show a.cells++(Km r t).cells=(a.cells++r.cells)++t.cells
  rw [ih,List.append_assoc]
 |nil=>intro t;rfl
 |_=>intro t;rfl
def Kn:TypeDesc→Bool
 | .int _=>false
 |_=>true
def xg(a b:Nat):Nat:=iff (dS a) b (Nat.add a b)
theorem pR(a b:Nat):xg a b=a+b:=by
 unfold xg
 rw [iff_eq]
 split
 ·rename_i h;rw [(Tr.bz a).1 h,Nat.zero_add]
 ·rfl
def Ko:Sym→Option (Nat×Nat×Nat)
 | .os b z len=>some (b,z,len)
 |_=>none
theorem vy{s:Sym}{b z len:Nat}(h:Ko s=some (b,z,len)):s= .os b z len:=by
 cases s<;>first|(cases h;done)|(cases h;rfl)
def RQ:cM→Option (Bool×Bool×Sym×Nat×Nat)
 | .may nl nn l z aA=>some (nl,nn,l,z,aA)
 |_=>none
theorem F2{o:cM}{nl nn:Bool}{l:Sym}{z aA:Nat}(h:RQ o=some (nl,nn,l,z,aA)):o= .may nl nn l z aA:=by
 cases o<;>first|(cases h;done)|(cases h;rfl)
def Ow(s:ay)(b off m:Nat)(K:Sym→Option R):Option R:=andThen (s.heap.get b) fun o=>andThen (my o) fun l=>sI l off fun l1=>x7 l1 m K
theorem F3{s:ay}{b off m:Nat}{K:Sym→Option R}{r:R}(h:Ow s b off m K=some r):∃c,K c=some r∧c.cells.length=m∧s.g.db b off m=some c.cells:=by
 obtain⟨o,h1,h⟩:=aa h
 obtain⟨l,h2,h⟩:=aa h
 obtain⟨l1,h3,h4,h5⟩:=uZ _ _ _ _ h
 obtain⟨c,h6,h7,h8⟩:=BY _ _ _ _ h3
 refine⟨c,h6,h7,?_⟩
 unfold aD.db
 rw [pM h1 h2,af]
 have hw:eC l.cells off c.cells:=by
  obtain⟨g1,g2⟩:=h8
  rw [h5]at g1 g2
  refine⟨by simp at g1;omega,?_⟩
  simpa using g2
 rw [←h7]
 exact hw.mq
def Vr(s:ay)(b z len:Nat)(K:Sym→Option R):Option R:=andThen (s.heap.get b) fun o=>andThen (my o) fun l=>iff (Nat.beq l.size (Nat.mul len z)) (K l) none
theorem Ox{s:ay}{b z len:Nat}{K:Sym→Option R}{r:R}(h:Vr s b z len K=some r):∃c,K c=some r∧c.cells.length=len*z∧s.g.db b 0 (len*z)=some c.cells:=by
 obtain⟨o,h1,h⟩:=aa h
 obtain⟨l,h2,h⟩:=aa h
 obtain⟨h3,h⟩:=aj h
 have h3:l.cells.length=len*z:=by rw [Sym.size_eq];exact(beq_iff _ _).1 h3
 refine⟨l,h,h3,?_⟩
 unfold aD.db
 rw [pM h1 h2,af,←h3]
 exact(eC.all _).mq
def RR(s:ay)(b z len:Nat)(K:Sym→Nat→Option R):Option R:=andThen (s.heap.get b) fun o=>andThen (RQ o) fun q=>iff (and (not q.1) (and (Nat.beq q.2.2.2.1 z) (Nat.beq q.2.2.1.size (Nat.mul len z)))) (K q.2.2.1 q.2.2.2.2) none
theorem F4{s:ay}{b z len:Nat}{K:Sym→Nat→Option R}{r:R}(h:RR s b z len K=some r):∃c aA,K c aA=some r∧c.cells.length=len*z∧s.g.obj b=some (.cells c.cells (some z) aA false false):=by
 obtain⟨o,h1,h⟩:=aa h
 obtain⟨⟨nl,nn,l,z',aA⟩,h2,g⟩:=aa h
 obtain⟨h3,g1⟩:=aj g
 simp only [Bool.and_eq_true,Bool.not_eq_true',beq_iff]at h3
 obtain⟨h3,h4,h5⟩:=h3
 have h3:nl=false:=h3
 have h4:z'=z:=h4
 have h5:l.size=len*z:=h5
 have g2:K l aA=some r:=g1
 clear g g1 h
 subst h3;subst h4
 refine⟨l,aA,g2,by rw [Sym.size_eq];exact h5,?_⟩
 rw [ay.iV,h1,F2 h2];rfl
theorem sL{σ:aD}{b aA:Nat}{e:Option Nat}{c:List Value}(h:σ.obj b=some (.cells c e aA false false)):σ.db b 0 c.length=some c:=by
 unfold aD.db aD.row
 rw [h]
 show andThen (some c) (fun d=>az.sub d 0 c.length)=_
 rw [af]
 exact(eC.all _).mq
def Kp(ei:TI)(s:ay)(K:Nat→Sym→Option R)(a:Option Addr)(n:Nat):Option R:=
 @Option.rec Addr (fun _=>Option R) (iff (dS n) (K (nat_lit 0) .nil) none) (fun a=>Ow s a.block a.off (Nat.mul n ei.size) (K n)) a
def QQ(ei:TI)(x:Sym)(s:ay)(K:Nat→Sym→Option R):Option R:=
 kz (vq x) (fun p=>iff (Nat.beq ei.size (al p.1)) (K p.2.length (.cons (.rw p.1 p.2) .nil)) none) <|
 kz (ye x) (fun l=>iff (Nat.beq ei.size (nat_lit 1)) (K l.length (.cons (.rw (.int .u8) (QO l)) .nil)) none) <|
 kz (Ko x) (fun q=>iff (Nat.beq ei.size q.2.1) (Vr s q.1 q.2.1 q.2.2 (K q.2.2)) none) <|
 kz (D0 x) (fun q=>iff q.2.2.2.1 (iff q.2.2.2.2 (K (nat_lit 0) .nil) none) (iff (Nat.beq ei.size q.2.1) (RR s q.1 q.2.1 q.2.2.1 fun l _=>K q.2.2.1 l) none)) <|
 au (qE x.val) fun a n _=>Kp ei s K a n
theorem Kq{ei:TI}{x:Sym}{dx:TypeDesc}{s:ay}{K:Nat→Sym→Option R}{r:R}(hd:Kn dx=true)(h:QQ ei x s K=some r):∃n c,sg s.g ei x.val dx=some (n,c.cells)∧K n c=some r∧c.cells.length=n*ei.size:=by
 have key:∀{n:Nat}{ys:List Value},A8 x.val=some n→nT s.g ei.size n x.val=some ys→ys.length=n*ei.size→sg s.g ei x.val dx=some (n,ys):=fun{n ys} h1 h2 h3=>by
  have:sg s.g ei x.val dx=andThen (A8 x.val) fun n=>andThen (nT s.g ei.size n x.val) fun ys=>iff (Nat.beq (aY ys) (Nat.mul n ei.size)) (some (n,ys)) none:=by
   cases dx<;>first|rfl|cases hd
  rw [this,h1,af,h2,af,aC,show Nat.beq ys.length (Nat.mul n ei.size)=true from(beq_iff _ _).2 h3];rfl
 rcases bR h with⟨⟨t,xs⟩,hx,h⟩|⟨_,h⟩
 ·obtain⟨h1,h⟩:=aj h
  rw [beq_iff]at h1
  have hl:((xs.map (ah t)).flatten++[]).length=xs.length*ei.size:=by rw [List.append_nil,uX,h1]
  refine⟨_,_,key (ys:=(xs.map (ah t)).flatten++[]) ?_ ?_ hl,h,hl⟩
  ·rw [im hx]
   show some (aY (cW (xs.map (ah t))))=_
   rw [aC,bx,List.length_map]
  ·rw [im hx,List.append_nil]
   show(andThen (some (cW (xs.map (ah t)))) fun rows=>andThen (lq xs.length rows) fun r=>aW ei.size r)=_
   have:=oy (l:=0) (n:=xs.length) (rows:=cW (xs.map (ah t))) (by rw [bx,List.length_map];omega)
   have:lq xs.length (cW (xs.map (ah t)))=some (cW (xs.map (ah t))):=by
    have h2:az.sub (cW (xs.map (ah t))) 0 xs.length=lq xs.length (cW (xs.map (ah t))):=rfl
    rw [←h2,this,List.drop_zero,List.take_of_length_le (by rw [bx,List.length_map];omega)]
   rw [af,this,af,h1]
   exact bQ fun r hr=>by
    obtain⟨a,_,rfl⟩:=List.mem_map.1 hr
    exact aH t a
 rcases bR h with⟨l,hx,h⟩|⟨_,h⟩
 ·obtain⟨h1,h⟩:=aj h
  rw [beq_iff]at h1
  obtain⟨v,h2,h3⟩:=aa hx
  obtain⟨v',rfl,rfl⟩:=fe h3
  have hl:(((QO v'.data.toList).map (ah (.int .u8))).flatten++[]).length=v'.data.toList.length*ei.size:=by
   rw [List.append_nil,uX (t:= .int .u8) (xs:=QO v'.data.toList),h1]
   show(List.map (fun b:UInt8=>Int.ofNat b.toNat) v'.data.toList).length*1=_
   rw [List.length_map]
  refine⟨_,_,key (ys:=((QO v'.data.toList).map (ah (.int .u8))).flatten++[]) ?_ ?_ hl,h,hl⟩
  ·rw [eM h2]
   show some (aY v'.data.toList)=_
   rw [aC]
  ·rw [eM h2,List.append_nil]
   show some (byteCells (v'.data.toList.take v'.data.toList.length))=_
   rw [List.take_length,iY]
 rcases bR h with⟨⟨b,z,len⟩,hx,h⟩|⟨_,h⟩
 ·obtain⟨h1,h⟩:=aj h
  have h1:ei.size=z:=(beq_iff _ _).1 h1
  obtain⟨c,h2,h3,h4⟩:=Ox h
  rw [←h1]at h3 h4
  refine⟨_,c,key ?_ ?_ h3,h2,h3⟩
  ·rw [vy hx];rfl
  ·rw [vy hx];exact h4
 rcases bR h with⟨⟨b,z,len,nl,nn⟩,hx,h⟩|⟨_,h⟩
 ·rcases aG h with⟨h1,h⟩|⟨h1,h⟩
  ·have h1:nl=true:=h1
   obtain⟨h2,h⟩:=aj h
   have h2:nn=true:=h2
   subst h1;subst h2
   refine⟨0,.nil,key ?_ ?_ ?_,h,?_⟩
   ·rw [jF hx];rfl
   ·rw [jF hx]
    show(iff (dS (Nat.mul 0 ei.size)) (some []) none:Option (List Value))=_
    rw [show Nat.mul 0 ei.size=0 from Nat.zero_mul _];rfl
   ·show 0=0*ei.size;rw [Nat.zero_mul]
   ·show 0=0*ei.size;rw [Nat.zero_mul]
  ·have h1:nl=false:=h1
   subst h1
   obtain⟨h2,h⟩:=aj h
   have h2:ei.size=z:=(beq_iff _ _).1 h2
   obtain⟨c,aA,h3,h4,h5⟩:=F4 h
   have h4:c.cells.length=len*z:=h4
   rw [←h2]at h4
   refine⟨len,c,key ?_ ?_ h4,h3,h4⟩
   ·rw [jF hx];rfl
   ·rw [jF hx]
    show s.g.db b 0 (Nat.mul len ei.size)=_
    rw [show Nat.mul len ei.size=c.cells.length from h4.symm]
    exact sL h5
 ·obtain⟨a,n,cap,hx,h⟩:=aq h
  rw [gF hx]at key ⊢
  cases a with
  |none=>
   obtain⟨h1,h⟩:=aj (show iff (dS n) (K 0 .nil) none=some r from h)
   rw [Tr.bz]at h1
   subst h1
   refine⟨0,.nil,key rfl ?_ ?_,h,?_⟩
   ·show(iff (dS (Nat.mul 0 ei.size)) (some []) none:Option (List Value))=_
    rw [show Nat.mul 0 ei.size=0 from Nat.zero_mul _];rfl
   ·show 0=0*ei.size;rw [Nat.zero_mul]
   ·show 0=0*ei.size;rw [Nat.zero_mul]
  |some a=>
   obtain⟨c,h1,h2,h3⟩:=F3 (show Ow s a.block a.off (Nat.mul n ei.size) (K n)=some r from h)
   exact⟨n,c,key rfl h3 h2,h1,h2⟩
variable (T:ew)
def oz(ei:TI)(m:Nat):Bool:=and (and (Nat.ble (Nat.mul m (Nat.succ ei.info.bytes)) (nat_lit 1000000000)) (Nat.ble (nat_lit 1) ei.info.bytes)) (dY ei).isSome
theorem Kr{ei:TI}{m:Nat}(h:oz ei m=true){α:Type}(a:Option α)(b:Option α):iff (and (Nat.ble (Nat.mul m (Nat.succ ei.info.bytes)) 1000000000) (Nat.ble 1 ei.info.bytes)) (andThen (dY ei) fun _=>a) b=a:=by
 unfold oz at h
 rw [Bool.and_eq_true]at h
 have h1:(Nat.ble (Nat.mul m (Nat.succ ei.info.bytes)) 1000000000&&Nat.ble 1 ei.info.bytes)=true:=h.1
 show iff (Nat.ble (Nat.mul m (Nat.succ ei.info.bytes)) 1000000000&&Nat.ble 1 ei.info.bytes) _ b=a
 rw [h1,iff_true]
 cases hz:dY ei with
 |none=>rw [hz]at h;cases h.2
 |some c=>rfl
def Ks(ei:TI)(b aA z len n:Nat)(l c:Sym)(s:ay)(K:Sym→ay→Option R):Option R:=
 iff (oz ei (xg len n)) (K (.os s.next z (xg len n)) ((⟨s.heap.set b (.wP l (some z) aA false true),s.next,s.low,jh b s.bp⟩:ay).new (Km l c) (some z) aA)) none
def RS(ei:TI)(b z len n:Nat)(c:Sym)(s:ay)(K:Sym→ay→Option R):Option R:=
 andThen (s.heap.get b) fun o=>au (vj o) fun l e aA=>andThen e fun ze=>iff (and (Nat.beq ze z) (and (Nat.beq z ei.size) (Nat.beq l.size (Nat.mul len z)))) (iff (dS n) (K (.os b z len) s) (Ks ei b aA z len n l c s K)) none
def RT(ei:TI)(b z len n:Nat)(c:Sym)(nn:Bool)(s:ay)(K:Sym→ay→Option R):Option R:=
 RR s b z len fun l aA=>iff (Nat.beq z ei.size) (iff (dS n) (K (.mo b z len false nn) s) (Ks ei b aA z len n l c s K)) none
def Kt(ei:TI)(v:Sym)(n:Nat)(c:Sym)(s:ay)(K:Sym→ay→Option R):Option R:=
 iff (dS n) (K v s) (iff (oz ei n) (K (.os s.next ei.size n) (s.new c (some ei.size) s.next)) none)
def Ku(ei:TI)(v:Sym)(k off len n:Nat)(c:Sym)(s:ay)(K:Sym→ay→Option R):Option R:=
 iff (dS n) (K v s) (iff (oz ei (xg len n)) (Ow s k off (Nat.mul len ei.size) fun iw=>K (.os s.next ei.size (xg len n)) (s.new (Km iw c) (some ei.size) s.next)) none)
def Oy(ei:TI)(v:Sym)(n:Nat)(c:Sym)(s:ay)(K:Sym→ay→Option R)(a:Option Addr)(len cap:Nat):Option R:=
 iff (Nat.beq len cap) (match a with
  |none=>iff (dS len) (Kt ei v n c s K) none
  |some ⟨k,off,none⟩=>Ku ei v k off len n c s K
  |_=>none) none
def Vs(ei:TI)(v:Sym)(n:Nat)(c:Sym)(s:ay)(K:Sym→ay→Option R):Option R:=
 kz (vq v) (fun _=>iff (dS n) (K v s) none) <|
 kz (Ko v) (fun q=>RS ei q.1 q.2.1 q.2.2 n c s K) <|
 kz (D0 v) (fun q=>iff q.2.2.2.1 (iff q.2.2.2.2 (Kt ei (.v (.slice none 0 0)) n c s K) (Ku ei (.v (.slice (some ⟨q.1,0,none⟩) 0 0)) q.1 0 0 n c s K)) (RT ei q.1 q.2.1 q.2.2.1 n c q.2.2.2.2 s K)) <|
 au (qE v.val) (Oy ei v n c s K)
def F5(bT:List TypeId)(args:List Sym)(s:ay)(K:Sym→ay→Option R):Option R:=
 ak (tV bT) fun sT xT=>ak (tV args) fun v x=>andThen (desc T sT) fun d=>andThen (bL d) fun e=>andThen (ty T e) fun ei=>andThen (desc T xT) fun dx=>iff (Kn dx) (QQ ei x s fun n c=>Vs ei v n c s K) none
variable {T}
def pS(ei:TI)(n:Nat)(ys:List Value)(σ:aD)(base:Option Addr)(len cap:Nat):gk:=
 iff (Nat.ble (Nat.add len n) cap) (nU σ ys (Nat.mul len ei.size) (.slice base (Nat.add len n) cap) base)
  (iff (and (Nat.ble (Nat.mul (Nat.add len n) (Nat.succ ei.info.bytes)) (nat_lit 1000000000)) (Nat.ble 1 ei.info.bytes))
   (andThen (dY ei) fun _=>andThen (lS σ (Nat.mul len ei.size) base) fun iw=>xn σ ei.size len (Nat.add len n) (gL iw ys) base) none)
theorem Ec{σ:aD}{off:Nat}{v:Value}(a:Option Addr):nU σ [] off v a=some (v,σ):=by
 cases a<;>rfl
theorem pT{len n:Nat}:Nat.ble (Nat.add len n) len=dS n:=by
 cases n with
 |zero=>exact(bk _ _).2 (Nat.le_refl _)
 |succ n=>
  cases h:Nat.ble (Nat.add len (n+1)) len with
  |false=>rfl
  |true=>
   have h1:len+(n+1)≤len:=(bk _ _).1 h
   omega
theorem kY{ei:TI}{ys:List Value}{σ:aD}{base:Option Addr}{len n:Nat}(hn:dS n=true)(hy:ys.length=n*ei.size):pS ei n ys σ base len len=some (.slice base len len,σ):=by
 rw [Tr.bz]at hn
 subst hn
 rw [Nat.zero_mul]at hy
 obtain rfl:=List.eq_nil_of_length_eq_zero hy
 unfold pS
 rw [pT,show dS 0=true from rfl,iff_true,Ec];rfl
theorem oA{ei:TI}{ys:List Value}{σ:aD}{base:Option Addr}{len n:Nat}(hn:dS n=false)(hr:oz ei (xg len n)=true):pS ei n ys σ base len len=andThen (lS σ (Nat.mul len ei.size) base) fun iw=>xn σ ei.size len (Nat.add len n) (gL iw ys) base:=by
 unfold pS
 rw [pT,hn,iff_false]
 rw [pR]at hr
 exact Kr hr _ _
theorem vz{s:ay}{c:Sym}{z aA m:Nat}:bM s.g m c.cells z aA=some ((Sym.os s.next z m).val,(s.new c (some z) aA).g):=by
 unfold bM
 rw [ay.FX];rfl
theorem Cg{ei:TI}{b aA z len n:Nat}{l c:Sym}{s:ay}{K:Sym→ay→Option R}{r:R}(hn:dS n=false)(hz:z=ei.size)(hl:l.cells.length=len*z)(ho:s.g.obj b=some (.cells l.cells (some z) aA false false))(h:Ks ei b aA z len n l c s K=some r):
  bZ (pS ei n c.cells s.g (some ⟨b,0,some z⟩) len len) s K r:=by
 obtain⟨hr,h⟩:=aj h
 refine⟨_,_,?_,h⟩
 rw [oA hn hr]
 subst hz
 have h1:lS s.g (Nat.mul len ei.size) (some ⟨b,0,some ei.size⟩)=some l.cells:=by
  show s.g.db b 0 (Nat.mul len ei.size)=_
  rw [show Nat.mul len ei.size=l.cells.length from hl.symm]
  exact sL ho
 rw [h1,af]
 show iff (Nat.beq ei.size ei.size) (au (s.g.kill b (Nat.add 0 (Nat.mul len ei.size))) fun z' aA σ'=>iff (Nat.beq z' ei.size) (bM σ' (Nat.add len n) (gL l.cells c.cells) ei.size aA) none) none=_
 have h2:s.g.kill b (Nat.add 0 (Nat.mul len ei.size))=some (ei.size,aA,(⟨s.heap.set b (.wP l (some ei.size) aA false true),s.next,s.low,jh b s.bp⟩:ay).g):=by
  unfold aD.kill
  rw [ho]
  show iff (Nat.beq (aY l.cells) (Nat.add 0 (Nat.mul len ei.size))) (some (ei.size,aA,(⟨s.g.heap.set b (.cells l.cells (some ei.size) aA false true),s.next,s.low,jh b s.bp⟩:aD))) none=_
  rw [aC,(beq_iff _ _).2 (by rw [hl];show _=0+len*ei.size;omega),iff_true]
  unfold ay.g
  rw [dA (show cM.g (.wP l (some ei.size) aA false true)=some (.cells l.cells (some ei.size) aA false true)from rfl)]
 rw [(beq_iff _ _).2 rfl,iff_true,h2,nE,(beq_iff _ _).2 rfl,iff_true,eH,←vx,pR]
 exact vz
theorem z7{s:ay}{b aA:Nat}{e:Option Nat}{o:cM}{l:Sym}(h:s.heap.get b=some o)(h1:vj o=some (l,e,aA)):s.g.obj b=some (.cells l.cells e aA false false):=by
 rw [ay.iV,h,zZ h1];rfl
theorem Ch{ei:TI}{v:Sym}{n:Nat}{c:Sym}{s:ay}{K:Sym→ay→Option R}{r:R}(hv:v.val= .slice none 0 0)(hy:c.cells.length=n*ei.size)(h:Kt ei v n c s K=some r):bZ (pS ei n c.cells s.g none 0 0) s K r:=by
 rcases aG h with⟨hn,h⟩|⟨hn,h⟩
 ·exact⟨v,s,by rw [kY hn hy,hv],h⟩
 ·obtain⟨hr,h⟩:=aj h
  refine⟨_,_,?_,h⟩
  rw [oA hn (show oz ei (xg 0 n)=true from hr)]
  have:lS s.g (Nat.mul 0 ei.size) none=some []:=by
   show(iff (dS (Nat.mul 0 ei.size)) (some []) none:Option (List Value))=_
   rw [show Nat.mul 0 ei.size=0 from Nat.zero_mul _];rfl
  rw [this,af]
  show bM s.g (Nat.add 0 n) c.cells ei.size s.g.next=_
  rw [show Nat.add 0 n=n from Nat.zero_add n]
  exact vz
theorem Ci{ei:TI}{v:Sym}{k off len n:Nat}{c:Sym}{s:ay}{K:Sym→ay→Option R}{r:R}(hv:v.val= .slice (some ⟨k,off,none⟩) len len)(hy:c.cells.length=n*ei.size)(h:Ku ei v k off len n c s K=some r):bZ (pS ei n c.cells s.g (some ⟨k,off,none⟩) len len) s K r:=by
 rcases aG h with⟨hn,h⟩|⟨hn,h⟩
 ·exact⟨v,s,by rw [kY hn hy,hv],h⟩
 ·obtain⟨hr,h⟩:=aj h
  obtain⟨iw,h1,h2,h3⟩:=F3 h
  refine⟨_,_,?_,h1⟩
  rw [oA hn hr]
  show(andThen (s.g.db k off (Nat.mul len ei.size)) fun iw=>bM s.g (Nat.add len n) (gL iw c.cells) ei.size s.g.next)=_
  rw [h3,af,eH,←vx,pR]
  exact vz
theorem Oz{ei:TI}{v:Sym}{n:Nat}{c:Sym}{s:ay}{K:Sym→ay→Option R}{r:R}(hy:c.cells.length=n*ei.size)(h:Vs ei v n c s K=some r):
  (∃vs rows,v.val= .tuple vs∧nQ vs.toList=some rows∧bZ (tg (dV rows) n s.g) s K r)∨∃base len cap,v.val= .slice base len cap∧bZ (pS ei n c.cells s.g base len cap) s K r:=by
 rcases bR h with⟨⟨t,xs⟩,hx,h⟩|⟨_,h⟩
 ·obtain⟨hn,h⟩:=aj h
  refine .inl ⟨_,cW (xs.map (ah t)),by rw [im hx];rfl,rfl,v,s,?_,h⟩
  unfold tg
  rw [hn,im hx];rfl
 rcases bR h with⟨⟨b,z,len⟩,hx,h⟩|⟨_,h⟩
 ·refine .inr ⟨some ⟨b,0,some z⟩,len,len,by rw [vy hx];rfl,?_⟩
  obtain⟨o,h1,k1⟩:=aa h
  obtain⟨l,e,aA,h2,k2⟩:=aq k1
  obtain⟨ze,h3,k3⟩:=aa k2
  obtain⟨hc,k4⟩:=aj k3
  clear h k1 k2 k3
  simp only [Bool.and_eq_true,beq_iff]at hc
  obtain⟨hz,h4,h5⟩:=hc
  have hz:ze=z:=hz
  have h4:z=ei.size:=h4
  have h5:l.size=len*z:=h5
  subst h3;subst hz
  rcases aG k4 with⟨hn,k5⟩|⟨hn,k5⟩
  ·exact⟨_,s,by rw [kY hn hy];rfl,k5⟩
  ·exact Cg hn h4 (by rw [Sym.size_eq];exact h5) (z7 h1 h2) k5
 rcases bR h with⟨⟨b,z,len,nl,nn⟩,hx,h⟩|⟨_,h⟩
 ·have hb:=jF hx
  clear hx
  rcases aG h with⟨h1,k1⟩|⟨h1,k1⟩
  ·have h1:nl=true:=h1
   clear h
   subst h1
   rcases aG k1 with⟨h2,k2⟩|⟨h2,k2⟩
   ·have h2:nn=true:=h2
    clear k1
    subst h2
    exact .inr ⟨none,0,0,by rw [hb];rfl,Ch rfl hy k2⟩
   ·have h2:nn=false:=h2
    clear k1
    subst h2
    exact .inr ⟨some ⟨b,0,none⟩,0,0,by rw [hb];rfl,Ci rfl hy k2⟩
  ·have h1:nl=false:=h1
   clear h
   subst h1
   refine .inr ⟨some ⟨b,0,some z⟩,len,len,by rw [hb];rfl,?_⟩
   obtain⟨l,aA,h2,h3,h4⟩:=F4 k1
   obtain⟨hz,k2⟩:=aj h2
   have hz:z=ei.size:=(beq_iff _ _).1 hz
   rcases aG k2 with⟨hn,k3⟩|⟨hn,k3⟩
   ·exact⟨_,s,by rw [kY hn hy];rfl,k3⟩
   ·exact Cg hn hz h3 h4 k3
 ·obtain⟨a,len,cap,hx,h⟩:=aq h
  refine .inr ⟨a,len,cap,gF hx,?_⟩
  have hv:=gF hx
  obtain⟨hc,k1⟩:=aj h
  clear h hx
  rw [beq_iff]at hc
  subst hc
  match a,k1,hv with
  |none,k1,hv=>
   obtain⟨h1,k2⟩:=aj k1
   clear k1
   rw [Tr.bz]at h1
   subst h1
   exact Ch hv hy k2
  |some ⟨k,off,none⟩,k1,hv=>exact Ci hv hy k1
  |some ⟨k,off,some z⟩,k1,_=>cases k1
theorem Ed{bT:List TypeId}{args:List Sym}{s:ay}{K:Sym→ay→Option R}{r:R}(h:F5 T bT args s K=some r):bZ (zh T bT (args.map Sym.val) s.g) s K r:=by
 obtain⟨sT,xT,h1,h⟩:=ae h
 obtain⟨v,x,h2,h⟩:=ae h
 obtain⟨d,h3,h⟩:=aa h
 obtain⟨e,h4,h⟩:=aa h
 obtain⟨ei,h5,h⟩:=aa h
 obtain⟨dx,h6,h⟩:=aa h
 obtain⟨h7,h⟩:=aj h
 obtain⟨n,c,h8,h9,h10⟩:=Kq h7 h
 unfold zh
 rw [h1,ax,Ca h2,ax]
 unfold th
 rw [h3,af,h4,af,h5,af]
 rcases Oz h10 h9 with⟨vs,rows,g1,g2,g3⟩|⟨base,len,cap,g1,g2⟩
 ·rw [g1]
  show bZ (andThen (nQ vs.toList) fun rows=>andThen (desc T xT) fun dx=>ak (sg s.g ei x.val dx) fun n _=>tg (dV rows) n s.g) s K r
  rw [g2,af,h6,af,h8,ax]
  exact g3
 ·rw [g1]
  show bZ (au (some (base,len,cap)) fun base len cap=>andThen (desc T xT) fun dx=>ak (sg s.g ei x.val dx) fun n ys=>pS ei n ys s.g base len cap) s K r
  rw [nE,h6,af,h8,ax]
  exact g2
end
end Go.az
end
