/- The abstract machine, one part: see its own sections. Conditions: none. -/
import Derived.Test.YtdmpneafeadbbaaGreatDoorMachC
namespace Go.Abs
inductive Ty where
  | bool
  | int (k : IntKind)
  | str
  | unit
  | pair (a b : Ty)
  | arr (n : Nat) (t : Ty)
  | slice (t : Ty)
deriving DecidableEq
def El : Ty → Type
  | .bool => Bool
  | .int _ => Int
  | .str => List UInt8
  | .unit => Unit
  | .pair a b => El a × El b
  | .arr n t => { l : List (El t) // l.length = n }
  | .slice t => List (El t)
def appE (t : Ty) (a b : List (El t)) : List (El t) := a ++ b
def appU (a b : List UInt8) : List UInt8 := a ++ b
def EncT.unit : EncT Unit := ⟨0, fun _ => [], fun _ => rfl, fun _ v hv => (by cases hv), fun _ _ _ _ _ _ => rfl⟩
def encT : (t : Ty) → EncT (El t)
  | .bool => EncT.bool
  | .int k => EncT.int k
  | .str => EncT.text
  | .unit => EncT.unit
  | .pair a b => (encT a).pair (encT b)
  | .arr n t => (encT t).vec n
  | .slice t => (encT t).list
def sizeT : Ty → Nat
  | .bool => 1
  | .int _ => 1
  | .str => 1
  | .unit => 0
  | .pair a b => Nat.add (sizeT a) (sizeT b)
  | .arr n t => Nat.mul n (sizeT t)
  | .slice _ => 1
def aggT : Ty → Bool
  | .unit => true
  | .pair _ _ => true
  | .arr _ _ => true
  | _ => false
def cellsT (t : Ty) (x : El t) : List Value := (encT t).cells x
def oneT : (t : Ty) → El t → Value
  | .bool => fun x => .bool x
  | .int k => fun x => .int k x
  | .str => fun x => .string ⟨⟨x⟩⟩
  | .slice t => fun x => dat (aggs (x.map (cellsT t)))
  | _ => fun _ => .nilFunc
def valT (t : Ty) (x : El t) : Value := if aggT t then .agg ⟨cellsT t x⟩ else oneT t x
theorem cellsT_len (t : Ty) (x : El t) : (cellsT t x).length = sizeT t := by
  have : ∀ t : Ty, (encT t).n = sizeT t := by
    intro t
    induction t with
    | pair a b ha hb => show (encT a).n + (encT b).n = _; rw [ha, hb]; rfl
    | arr n t h => show n * (encT t).n = _; rw [h]; rfl
    | _ => rfl
  unfold cellsT
  rw [(encT t).len, this]
theorem cellsT_one {t : Ty} (h : aggT t = false) (x : El t) : cellsT t x = [oneT t x] := by
  cases t <;> first | rfl | cases h
theorem cellsT_pair (a b : Ty) (x : El (.pair a b)) : cellsT (.pair a b) x = cellsT a x.1 ++ cellsT b x.2 := rfl
theorem cellsT_closed (t : Ty) (x : El t) : ∀ v ∈ cellsT t x, closed1 v = true := (encT t).closed x
theorem flat_valT (t : Ty) (x : El t) : flat (valT t x) = some (cellsT t x) := by
  unfold valT
  cases h : aggT t with
  | true => rw [if_pos rfl]; rfl
  | false => rw [if_neg (by decide), cellsT_one h]; cases t <;> first | rfl | cases h
inductive Sym where
  | v (x : Value)
  | d (t : Ty) (x : El t)
  | p (t : Ty) (x : El t)
  | rp (b base z j off : Nat)
  | sl (b z lo len cap : Nat) (s : Option Nat)
  | os (b z len : Nat)
  | mo (b z len : Nat) (nl nn : Bool)
  | fn (f : Fn) (a c : Sym)
  | rw (t : Ty) (xs : List (El t))
  | nil
  | cons (a r : Sym)
  | agg (l : Sym)
  | tup (l : Sym)
structure Tell where
  val : Value
  cells : List Value
  vals : List Value
noncomputable def moV (b z len : Nat) (nl nn : Bool) : Value := iff nl (iff nn (.slice none 0 0) (.slice (some ⟨b, 0, none⟩) 0 0)) (.slice (some ⟨b, 0, some z⟩) len len)
noncomputable def Sym.g : Sym → Tell
  | .v x => ⟨x, [x], []⟩
  | .d t x => ⟨valT t x, cellsT t x, []⟩
  | .p t x => ⟨datP (cellsT t x), [datP (cellsT t x)], []⟩
  | .rp b base z j off => ⟨.pointer (some ⟨b, Nat.add (Nat.add base (Nat.mul j z)) off, none⟩), [.pointer (some ⟨b, Nat.add (Nat.add base (Nat.mul j z)) off, none⟩)], []⟩
  | .sl b z lo len cap s => ⟨.slice (some ⟨b, Nat.mul lo z, s⟩) len cap, [.slice (some ⟨b, Nat.mul lo z, s⟩) len cap], []⟩
  | .os b z len => ⟨.slice (some ⟨b, 0, some z⟩) len len, [.slice (some ⟨b, 0, some z⟩) len len], []⟩
  | .mo b z len nl nn => ⟨moV b z len nl nn, [moV b z len nl nn], []⟩
  | .fn f a c => ⟨.func f ⟨a.g.vals⟩ ⟨c.g.vals⟩, [.func f ⟨a.g.vals⟩ ⟨c.g.vals⟩], []⟩
  | .rw t xs => ⟨unk, (xs.map (cellsT t)).flatten, []⟩
  | .nil => ⟨unk, [], []⟩
  | .cons a r => ⟨unk, a.g.cells ++ r.g.cells, a.g.val :: r.g.vals⟩
  | .agg l => ⟨.agg ⟨l.g.cells⟩, l.g.cells, []⟩
  | .tup l => ⟨.tuple ⟨l.g.vals⟩, [.tuple ⟨l.g.vals⟩], []⟩
noncomputable def Sym.val (s : Sym) : Value := s.g.val
noncomputable def Sym.cells (s : Sym) : List Value := s.g.cells
noncomputable def Sym.vals (s : Sym) : List Value := s.g.vals
def oneV : Value → Bool
  | .agg _ => false
  | .tuple _ => false
  | _ => true
def Sym.size : Sym → Nat
  | .v _ => 1
  | .d t _ => sizeT t
  | .p _ _ => 1
  | .rp .. => 1
  | .sl .. => 1
  | .os .. => 1
  | .mo .. => 1
  | .fn .. => 1
  | .rw t xs => Nat.mul xs.length (sizeT t)
  | .nil => 0
  | .cons a r => Nat.add a.size r.size
  | .agg l => l.size
  | .tup _ => 1
theorem rows_len (t : Ty) (xs : List (El t)) : (xs.map (cellsT t)).flatten.length = xs.length * sizeT t := by
  induction xs with
  | nil => rw [List.length_nil, Nat.zero_mul]; rfl
  | cons x xs ih => rw [List.map_cons, List.flatten_cons, List.length_append, cellsT_len, ih, List.length_cons, Nat.succ_mul, Nat.add_comm]
theorem Sym.size_eq : ∀ s : Sym, s.cells.length = s.size
  | .v _ => rfl
  | .d t x => cellsT_len t x
  | .p _ _ => rfl
  | .rp .. => rfl
  | .sl .. => rfl
  | .os .. => rfl
  | .mo .. => rfl
  | .fn .. => rfl
  | .rw t xs => rows_len t xs
  | .nil => rfl
  | .cons a r => by
    show (a.cells ++ r.cells).length = Nat.add a.size r.size
    rw [List.length_append, Sym.size_eq a, Sym.size_eq r]; rfl
  | .agg l => Sym.size_eq l
  | .tup _ => rfl
def Sym.isAgg : Sym → Bool
  | .d t _ => aggT t
  | .agg _ => true
  | _ => false
def Sym.ok : Sym → Bool
  | .v x => oneV x
  | .nil => false
  | .cons _ _ => false
  | .tup _ => false
  | .rw _ _ => false
  | _ => true
def Sym.isRw : Sym → Bool
  | .rw _ _ => true
  | _ => false
theorem flat_oneV {x : Value} (h : oneV x = true) : flat x = some [x] := by
  cases x <;> first | rfl | cases h
theorem Sym.flat_ok {s : Sym} (h : s.ok = true) : flat s.val = some s.cells := by
  cases s with
  | v x => exact flat_oneV h
  | d t x => exact flat_valT t x
  | p t x => rfl
  | rp => rfl
  | sl => rfl
  | os => rfl
  | mo b z len nl nn => show flat (moV b z len nl nn) = some [moV b z len nl nn]; cases nl <;> cases nn <;> rfl
  | fn => rfl
  | agg l => rfl
  | _ => cases h
theorem Sym.agg_val {s : Sym} (h : s.isAgg = true) : s.val = .agg ⟨s.cells⟩ := by
  cases s with
  | d t x => show valT t x = _; unfold valT; rw [if_pos (show aggT t = true from h)]; rfl
  | agg l => rfl
  | _ => cases h
theorem Sym.one_val {s : Sym} (ho : s.ok = true) (h : s.isAgg = false) : s.cells = [s.val] := by
  cases s with
  | d t x => show cellsT t x = [valT t x]; unfold valT; rw [if_neg (by rw [show aggT t = false from h]; decide)]; exact cellsT_one h x
  | agg l => cases h
  | nil => cases ho
  | cons _ _ => cases ho
  | tup _ => cases ho
  | rw _ _ => cases ho
  | _ => rfl
def mkD : (t : Ty) → El t → Sym
  | .bool => fun x => .v (.bool x)
  | .int k => fun x => .v (.int k x)
  | .str => fun x => .v (.string ⟨⟨x⟩⟩)
  | .unit => fun x => .d .unit x
  | .pair a b => fun x => .d (.pair a b) x
  | .arr n t => fun x => .d (.arr n t) x
  | .slice t => fun x => .d (.slice t) x
theorem mkD_g (t : Ty) (x : El t) : (mkD t x).g = (Sym.d t x).g := by
  cases t <;> rfl
theorem mkD_val (t : Ty) (x : El t) : (mkD t x).val = valT t x := by unfold Sym.val; rw [mkD_g]; rfl
theorem mkD_cells (t : Ty) (x : El t) : (mkD t x).cells = cellsT t x := by unfold Sym.cells; rw [mkD_g]; rfl
theorem mkD_ok (t : Ty) (x : El t) : (mkD t x).ok = true := by cases t <;> rfl
theorem mkD_agg (t : Ty) (x : El t) : (mkD t x).isAgg = aggT t := by cases t <;> rfl
def symOf : Value → Sym
  | .agg cs => .agg (cs.toList.foldr (fun c r => .cons (.v c) r) .nil)
  | x => .v x
theorem chain_cells (l : List Value) : (l.foldr (fun c r => Sym.cons (.v c) r) .nil).cells = l := by
  induction l with
  | nil => rfl
  | cons a l ih => show [a] ++ (l.foldr (fun c r => Sym.cons (.v c) r) .nil).cells = _; rw [ih]; rfl
theorem symOf_val (x : Value) : (symOf x).val = x := by
  cases x with
  | agg cs => show Value.agg ⟨(cs.toList.foldr (fun c r => Sym.cons (.v c) r) .nil).cells⟩ = _; rw [chain_cells]
  | _ => rfl
end Go.Abs
namespace Go.Abs
theorem Win.all (l : List Value) : Win l 0 l := ⟨by omega, by simp⟩
theorem Win.left {a b cs : List Value} {off : Nat} (h : Win a off cs) : Win (a ++ b) off cs := by
  refine ⟨by have := h.1; simp; omega, ?_⟩
  have h1 := h.1
  rw [List.drop_append_of_le_length (by omega), List.take_append_of_le_length (by simp; omega)]
  exact h.2
theorem Win.right {a b cs : List Value} {off : Nat} (h : Win b off cs) : Win (a ++ b) (a.length + off) cs := by
  refine ⟨by have := h.1; simp; omega, ?_⟩
  rw [List.drop_append, List.drop_eq_nil_of_le (by omega), List.nil_append, Nat.add_sub_cancel_left]
  exact h.2
theorem Win.trans {a b c : List Value} {i j : Nat} (h : Win a i b) (h' : Win b j c) : Win a (i + j) c := by
  have := h.sub j c.length h'.1
  rw [h'.2] at this
  exact this
theorem Win.sub_some {l cs : List Value} {off : Nat} (h : Win l off cs) : Abs.sub l off cs.length = some cs := by
  unfold Abs.sub
  rw [dropQ_eq]
  have key : ∀ (n : Nat) (m : List Value), n ≤ m.length → takeO n m = some (m.take n) := by
    intro n
    induction n with
    | zero => intro m _; rfl
    | succ n ih =>
      intro m hm
      cases m with
      | nil => simp at hm
      | cons a m =>
        show andThen (takeO n m) (fun r => some (a :: r)) = _
        rw [ih m (by simpa using hm)]; rfl
  rw [key _ _ (by have := h.1; simp; omega), h.2]
theorem Win.one {l : List Value} {v : Value} {off : Nat} (h : Win l off [v]) : nthQ off l = some v := by
  rw [nthQ_eq]
  have h1 := h.1
  have h2 := h.2
  simp at h1
  rw [List.getElem?_eq_getElem (by omega)]
  have : (l.drop off).take 1 = [l[off]] := by
    rw [List.drop_eq_getElem_cons (by omega)]; rfl
  rw [show [v].length = 1 from rfl, this] at h2
  simpa using h2
theorem dropLe {α : Type} {a b : List α} {n : Nat} (h : a.length ≤ n) : (a ++ b).drop n = b.drop (n - a.length) := by
  rw [List.drop_append, List.drop_eq_nil_of_le (as := a) h, List.nil_append]
theorem Win.row {α : Type} {c : α → List Value} {z : Nat} : ∀ {l : List α}, (∀ x ∈ l, (c x).length = z) → ∀ {q : Nat} {y : α}, l[q]? = some y → Win (l.map c).flatten (q * z) (c y)
  | [], _, q, y, h => by simp at h
  | a :: l, hz, 0, y, h => by
    simp at h; subst h
    rw [Nat.zero_mul, List.map_cons, List.flatten_cons]
    exact (Win.all _).left
  | a :: l, hz, q + 1, y, h => by
    rw [List.map_cons, List.flatten_cons]
    have := (Win.row (l := l) (fun x hx => hz x (List.mem_cons_of_mem _ hx)) (q := q) (y := y) (by simpa using h)).right (a := c a)
    rw [hz a (by simp)] at this
    rw [Nat.succ_mul, Nat.add_comm]
    exact this
section
variable {R : Type}
def isAt (off n z : Nat) : Bool := and (isZ off) (Nat.beq n z)
theorem isAt_eq {off n z : Nat} (h : isAt off n z = true) : off = 0 ∧ n = z := by
  unfold isAt at h
  simp only [Bool.and_eq_true, Tr.isZ_iff, beq_iff] at h
  exact h
def lastT (a : Ty) : Ty → Bool
  | .unit => aggT a
  | _ => false
noncomputable def getT : (t : Ty) → El t → Nat → Nat → Bool → (Sym → Option R) → Option R
  | .pair a b => fun x off n ag K => iff (and (isAt off n (sizeT (.pair a b))) (and ag (not (lastT a b)))) (K (.d (.pair a b) x))
      (iff (Nat.ble (Nat.add off n) (sizeT a)) (getT a x.1 off n ag K) (iff (Nat.ble (sizeT a) off) (getT b x.2 (Nat.sub off (sizeT a)) n ag K) none))
  | .arr m t => fun x off n ag K => iff (and (isAt off n (sizeT (.arr m t))) ag) (K (.d (.arr m t) x))
      (iff (Nat.ble (Nat.add (Nat.mod off (sizeT t)) n) (sizeT t)) (andThen (nthQ (Nat.div off (sizeT t)) x.1) fun y => getT t y (Nat.mod off (sizeT t)) n ag K) none)
  | .unit => fun _ _ _ _ _ => none
  | .bool => fun x off n ag K => iff (and (isAt off n (nat_lit 1)) (not ag)) (K (.v (.bool x))) none
  | .int k => fun x off n ag K => iff (and (isAt off n (nat_lit 1)) (not ag)) (K (.v (.int k x))) none
  | .str => fun x off n ag K => iff (and (isAt off n (nat_lit 1)) (not ag)) (K (.v (.string ⟨⟨x⟩⟩))) none
  | .slice t => fun x off n ag K => iff (and (isAt off n (nat_lit 1)) (not ag)) (K (.d (.slice t) x)) none
structure Got (l : List Value) (off n : Nat) (ag : Bool) (u : Sym) : Prop where
  ok : u.ok = true
  agg : u.isAgg = ag
  size : u.cells.length = n
  win : Win l off u.cells
theorem Got.left {a b : List Value} {off n : Nat} {ag : Bool} {u : Sym} (h : Got a off n ag u) : Got (a ++ b) off n ag u := ⟨h.ok, h.agg, h.size, h.win.left⟩
theorem Got.right {a b : List Value} {off off' n : Nat} {ag : Bool} {u : Sym} (h : Got b off n ag u) (ho : off' = a.length + off) : Got (a ++ b) off' n ag u := ⟨h.ok, h.agg, h.size, by rw [ho]; exact h.win.right⟩
theorem Got.inside {a b : List Value} {i off off' n : Nat} {ag : Bool} {u : Sym} (h : Got b off n ag u) (hw : Win a i b) (ho : off' = i + off) : Got a off' n ag u := ⟨h.ok, h.agg, h.size, by rw [ho]; exact hw.trans h.win⟩
theorem iff_way {α : Type} {c : Bool} {a b : Option α} {r : α} (h : iff c a b = some r) : (c = true ∧ a = some r) ∨ (c = false ∧ b = some r) := by
  cases c with
  | true => exact .inl ⟨rfl, h⟩
  | false => exact .inr ⟨rfl, h⟩
theorem got_whole {t : Ty} {x : El t} {off n : Nat} {ag : Bool} (h : isAt off n (sizeT t) = true) (ha : aggT t = ag) : Got (cellsT t x) off n ag (mkD t x) := by
  obtain ⟨rfl, rfl⟩ := isAt_eq h
  exact ⟨mkD_ok t x, by rw [mkD_agg, ha], by rw [mkD_cells, cellsT_len], by rw [mkD_cells]; exact Win.all _⟩
theorem getT_ok : ∀ (t : Ty) (x : El t) (off n : Nat) (ag : Bool) (K : Sym → Option R) (r : R), getT t x off n ag K = some r → ∃ u, K u = some r ∧ Got (cellsT t x) off n ag u := by
  intro t
  have leaf : ∀ (t : Ty) (x : El t) (off n : Nat) (ag : Bool) (K : Sym → Option R) (r : R), aggT t = false → sizeT t = 1 → iff (and (isAt off n 1) (not ag)) (K (mkD t x)) none = some r → ∃ u, K u = some r ∧ Got (cellsT t x) off n ag u := by
    intro t x off n ag K r ha hz h
    obtain ⟨hc, h⟩ := iff_some h
    rw [Bool.and_eq_true] at hc
    refine ⟨_, h, got_whole (by rw [hz]; exact hc.1) (by rw [ha]; simpa using hc.2)⟩
  induction t with
  | bool => intro x off n ag K r h; exact leaf .bool x off n ag K r rfl rfl h
  | int k => intro x off n ag K r h; exact leaf (.int k) x off n ag K r rfl rfl h
  | str => intro x off n ag K r h; exact leaf .str x off n ag K r rfl rfl h
  | slice t _ => intro x off n ag K r h; exact leaf (.slice t) x off n ag K r rfl rfl h
  | unit => intro x off n ag K r h; cases (show none = some r from h)
  | pair a b iha ihb =>
    intro x off n ag K r h
    rcases iff_way (show iff (and (isAt off n (sizeT (.pair a b))) (and ag (not (lastT a b)))) (K (.d (.pair a b) x)) (iff (Nat.ble (Nat.add off n) (sizeT a)) (getT a x.1 off n ag K) (iff (Nat.ble (sizeT a) off) (getT b x.2 (Nat.sub off (sizeT a)) n ag K) none)) = some r from h) with ⟨hc, h⟩ | ⟨_, h⟩
    · rw [Bool.and_eq_true] at hc
      have hag := hc.2
      rw [Bool.and_eq_true] at hag
      exact ⟨_, h, got_whole hc.1 hag.1.symm⟩
    · rcases iff_way h with ⟨_, h⟩ | ⟨_, h⟩
      · obtain ⟨u, h1, h2⟩ := iha x.1 off n ag K r h
        exact ⟨u, h1, h2.left⟩
      · obtain ⟨hc, h⟩ := iff_some h
        rw [ble_iff] at hc
        obtain ⟨u, h1, h2⟩ := ihb x.2 _ n ag K r h
        exact ⟨u, h1, Got.right (a := cellsT a x.1) h2 (by rw [cellsT_len]; show off = sizeT a + (off - sizeT a); omega)⟩
  | arr m t ih =>
    intro x off n ag K r h
    rcases iff_way (show iff (and (isAt off n (sizeT (.arr m t))) ag) (K (.d (.arr m t) x)) (iff (Nat.ble (Nat.add (Nat.mod off (sizeT t)) n) (sizeT t)) (andThen (nthQ (Nat.div off (sizeT t)) x.1) fun y => getT t y (Nat.mod off (sizeT t)) n ag K) none) = some r from h) with ⟨hc, h⟩ | ⟨_, h⟩
    · rw [Bool.and_eq_true] at hc
      exact ⟨_, h, got_whole hc.1 hc.2.symm⟩
    · obtain ⟨_, h⟩ := iff_some h
      obtain ⟨y, h1, h⟩ := andThen_eq h
      rw [nthQ_eq] at h1
      obtain ⟨u, h2, h3⟩ := ih y _ n ag K r h
      exact ⟨u, h2, h3.inside (Win.row (fun x _ => cellsT_len t x) h1) (by show off = off / sizeT t * sizeT t + off % sizeT t; rw [Nat.mul_comm]; exact (Nat.div_add_mod _ _).symm)⟩
noncomputable def takeS : Sym → Nat → (Sym → Option R) → Option R
  | .cons a r => fun n K => iff (isZ n) (K .nil) (iff (Nat.ble a.size n) (takeS r (Nat.sub n a.size) fun l => K (.cons a l)) none)
  | .nil => fun n K => iff (isZ n) (K .nil) none
  | _ => fun _ _ => none
theorem takeS_ok : ∀ (s : Sym) (n : Nat) (K : Sym → Option R) (r : R), takeS s n K = some r → ∃ u, K u = some r ∧ u.cells.length = n ∧ Win s.cells 0 u.cells := by
  intro s
  have nl : ∀ (s : Sym) (n : Nat), isZ n = true → (Sym.nil).cells.length = n ∧ Win s.cells 0 (Sym.nil).cells := fun s n hn => by
    rw [Tr.isZ_iff] at hn
    exact ⟨hn.symm, by show 0 + 0 ≤ _; omega, rfl⟩
  induction s with
  | cons a s _ ih =>
    intro n K r h
    rcases iff_way (show iff (isZ n) (K .nil) (iff (Nat.ble a.size n) (takeS s (Nat.sub n a.size) fun l => K (.cons a l)) none) = some r from h) with ⟨hc, h⟩ | ⟨_, h⟩
    · exact ⟨_, h, nl _ n hc⟩
    · obtain ⟨hc, h⟩ := iff_some h
      rw [ble_iff] at hc
      obtain ⟨u, h1, h2, h3⟩ := ih _ _ r h
      refine ⟨_, h1, ?_, ?_, ?_⟩
      · show (a.cells ++ u.cells).length = n
        rw [List.length_append, h2, Sym.size_eq]
        show a.size + (n - a.size) = n
        omega
      · show 0 + (a.cells ++ u.cells).length ≤ (a.cells ++ s.cells).length
        have := h3.1
        simp at this ⊢
        omega
      · show ((a.cells ++ s.cells).drop 0).take (a.cells ++ u.cells).length = a.cells ++ u.cells
        have := h3.2
        rw [List.drop_zero] at this ⊢
        rw [List.length_append, List.take_length_add_append, this]
  | nil =>
    intro n K r h
    obtain ⟨hc, h⟩ := iff_some (show iff (isZ n) (K .nil) none = some r from h)
    exact ⟨_, h, nl _ n hc⟩
  | _ => intro n K r h; cases (show none = some r from h)
noncomputable def dropS : Sym → Nat → (Sym → Option R) → Option R
  | .cons a r => fun n K => iff (isZ n) (K (.cons a r)) (iff (Nat.ble a.size n) (dropS r (Nat.sub n a.size) K) none)
  | .nil => fun n K => iff (isZ n) (K .nil) none
  | _ => fun _ _ => none
theorem dropS_ok : ∀ (s : Sym) (n : Nat) (K : Sym → Option R) (r : R), dropS s n K = some r → ∃ u, K u = some r ∧ n ≤ s.cells.length ∧ u.cells = s.cells.drop n := by
  intro s
  induction s with
  | cons a s _ ih =>
    intro n K r h
    rcases iff_way (show iff (isZ n) (K (.cons a s)) (iff (Nat.ble a.size n) (dropS s (Nat.sub n a.size) K) none) = some r from h) with ⟨hc, h⟩ | ⟨_, h⟩
    · rw [Tr.isZ_iff] at hc
      subst hc
      exact ⟨_, h, Nat.zero_le _, rfl⟩
    · obtain ⟨hc, h⟩ := iff_some h
      rw [ble_iff] at hc
      obtain ⟨u, h1, h2, h3⟩ := ih _ _ r h
      refine ⟨_, h1, ?_, ?_⟩
      · show n ≤ (a.cells ++ s.cells).length
        rw [List.length_append, Sym.size_eq]
        have : n - a.size ≤ s.cells.length := h2
        omega
      · rw [h3]
        show List.drop (n - a.size) s.cells = (a.cells ++ s.cells).drop n
        rw [dropLe (by rw [Sym.size_eq]; exact hc), Sym.size_eq]
  | nil =>
    intro n K r h
    obtain ⟨hc, h⟩ := iff_some (show iff (isZ n) (K .nil) none = some r from h)
    rw [Tr.isZ_iff] at hc
    subst hc
    exact ⟨_, h, Nat.zero_le _, rfl⟩
  | _ => intro n K r h; cases (show none = some r from h)
noncomputable def getS : Sym → Nat → Nat → Bool → (Sym → Option R) → Option R
  | .d t x => getT t x
  | .agg l => getS l
  | .rw t xs => fun off n ag K => iff (Nat.ble (Nat.add (Nat.mod off (sizeT t)) n) (sizeT t)) (andThen (nthQ (Nat.div off (sizeT t)) xs) fun y => getT t y (Nat.mod off (sizeT t)) n ag K) none
  | .cons a s => fun off n ag K => iff a.isRw (getS a off n ag K) <|
      iff (Nat.ble a.size off) (getS s (Nat.sub off a.size) n ag K)
      (iff (and (and (isAt off n a.size) (a.isAgg == ag)) a.ok) (K a)
      (iff (and ag (and (isZ off) (Nat.ble a.size n))) (takeS (.cons a s) n fun l => K (.agg l))
      (iff (Nat.ble (Nat.add off n) a.size) (getS a off n ag K) none)))
  | _ => fun _ _ _ _ => none
theorem getS_ok : ∀ (s : Sym) (off n : Nat) (ag : Bool) (K : Sym → Option R) (r : R), getS s off n ag K = some r → ∃ u, K u = some r ∧ Got s.cells off n ag u := by
  intro s
  induction s with
  | d t x => intro off n ag K r h; exact getT_ok t x off n ag K r h
  | agg l ih => intro off n ag K r h; exact ih off n ag K r h
  | rw t xs =>
    intro off n ag K r h
    obtain ⟨_, h⟩ := iff_some (show iff (Nat.ble (Nat.add (Nat.mod off (sizeT t)) n) (sizeT t)) (andThen (nthQ (Nat.div off (sizeT t)) xs) fun y => getT t y (Nat.mod off (sizeT t)) n ag K) none = some r from h)
    obtain ⟨y, h1, h⟩ := andThen_eq h
    rw [nthQ_eq] at h1
    obtain ⟨u, h2, h3⟩ := getT_ok t y _ n ag K r h
    exact ⟨u, h2, h3.inside (Win.row (fun x _ => cellsT_len t x) h1) (by show off = off / sizeT t * sizeT t + off % sizeT t; rw [Nat.mul_comm]; exact (Nat.div_add_mod _ _).symm)⟩
  | cons a s iha ihs =>
    intro off n ag K r h
    rcases iff_way (show iff a.isRw (getS a off n ag K) (iff (Nat.ble a.size off) (getS s (Nat.sub off a.size) n ag K) (iff (and (and (isAt off n a.size) (a.isAgg == ag)) a.ok) (K a) (iff (and ag (and (isZ off) (Nat.ble a.size n))) (takeS (.cons a s) n fun l => K (.agg l)) (iff (Nat.ble (Nat.add off n) a.size) (getS a off n ag K) none)))) = some r from h) with ⟨_, h⟩ | ⟨_, h⟩
    · obtain ⟨u, h1, h2⟩ := iha off n ag K r h
      exact ⟨u, h1, h2.left⟩
    rcases iff_way h with ⟨hc, h⟩ | ⟨_, h⟩
    · rw [ble_iff] at hc
      obtain ⟨u, h1, h2⟩ := ihs _ n ag K r h
      exact ⟨u, h1, Got.right (a := a.cells) h2 (by rw [Sym.size_eq]; show off = a.size + (off - a.size); omega)⟩
    · rcases iff_way h with ⟨hc, h'⟩ | ⟨_, h⟩
      · simp only [Bool.and_eq_true, beq_iff_eq] at hc
        obtain ⟨rfl, rfl⟩ := isAt_eq hc.1.1
        exact ⟨a, h', hc.2, hc.1.2, Sym.size_eq a, (Win.all a.cells).left⟩
      · rcases iff_way h with ⟨hc, h⟩ | ⟨_, h⟩
        · simp only [Bool.and_eq_true, Tr.isZ_iff] at hc
          obtain ⟨u, h1, h2, h3⟩ := takeS_ok _ _ _ _ h
          obtain ⟨rfl, rfl, _⟩ := hc
          exact ⟨_, h1, rfl, rfl, h2, h3⟩
        · obtain ⟨_, h⟩ := iff_some h
          obtain ⟨u, h1, h2⟩ := iha off n ag K r h
          exact ⟨u, h1, h2.left⟩
  | _ => intro off n ag K r h; cases (show none = some r from h)
structure Puts (l : List Value) (off : Nat) (c : List Value) (u : List Value) : Prop where
  le : off + c.length ≤ l.length
  eq : u = l.take off ++ c ++ l.drop (off + c.length)
theorem Puts.splice {l c u : List Value} {off : Nat} (h : Puts l off c u) : splice c off l = some u := by
  have key : ∀ (off : Nat) (l : List Value), off + c.length ≤ l.length → Abs.splice c off l = some (l.take off ++ c ++ l.drop (off + c.length)) := by
    intro off
    induction off with
    | zero =>
      intro l hl
      show over c l = _
      have : ∀ (c l : List Value), c.length ≤ l.length → over c l = some (c ++ l.drop c.length) := by
        intro c
        induction c with
        | nil => intro l _; rfl
        | cons v c ih =>
          intro l hl
          cases l with
          | nil => simp at hl
          | cons a l =>
            show andThen (over c l) (fun r => some (v :: r)) = _
            rw [ih l (by simpa using hl)]; rfl
      rw [this c l (by omega)]
      simp
    | succ off ih =>
      intro l hl
      cases l with
      | nil => simp at hl
      | cons a l =>
        show andThen (Abs.splice c off l) (fun r => some (a :: r)) = _
        rw [ih l (by simp at hl; omega)]
        simp [andThen, Nat.succ_add]
  rw [key off l h.le, h.eq]
theorem Puts.left {a b c u : List Value} {off : Nat} (h : Puts a off c u) : Puts (a ++ b) off c (u ++ b) := by
  have h1 := h.le
  refine ⟨by simp; omega, ?_⟩
  rw [h.eq, List.take_append_of_le_length (by omega), List.drop_append_of_le_length h1]
  simp
theorem Puts.right {a b c u : List Value} {off off' : Nat} (h : Puts b off c u) (ho : off' = a.length + off) : Puts (a ++ b) off' c (a ++ u) := by
  have h1 := h.le
  subst ho
  refine ⟨by simp; omega, ?_⟩
  rw [h.eq, Nat.add_assoc, List.take_length_add_append, dropLe (a := a) (by omega), Nat.add_sub_cancel_left]
  simp
theorem Puts.whole (l c : List Value) (h : c.length = l.length) : Puts l 0 c c := ⟨by omega, by rw [List.take_zero, List.drop_eq_nil_of_le (by omega)]; simp⟩
theorem Puts.inside {a b c u : List Value} {i off off' : Nat} (h : Puts b off c u) (hw : Win a i b) (ho : off' = i + off) : Puts a off' c (a.take i ++ u ++ a.drop (i + b.length)) := by
  subst ho
  have h1 := h.le
  have h2 := hw.1
  have ha : a = a.take i ++ b ++ a.drop (i + b.length) := by
    have := List.take_append_drop i a
    have h3 := List.take_append_drop b.length (a.drop i)
    rw [hw.2, List.drop_drop] at h3
    rw [List.append_assoc, h3, this]
  have h3 : Puts (a.take i ++ b ++ a.drop (i + b.length)) (i + off) c (a.take i ++ u ++ a.drop (i + b.length)) := (h.right (a := a.take i) (by rw [List.length_take]; omega)).left
  rw [← ha] at h3
  exact h3
noncomputable def putT : (t : Ty) → El t → Nat → Nat → Sym → (Sym → Option R) → Option R
  | .pair a b => fun x off n w K => iff (isAt off n (sizeT (.pair a b))) (K w)
      (iff (Nat.ble (Nat.add off n) (sizeT a)) (putT a x.1 off n w fun u => K (.agg (.cons u (.cons (mkD b x.2) .nil))))
      (iff (Nat.ble (sizeT a) off) (putT b x.2 (Nat.sub off (sizeT a)) n w fun u => K (.agg (.cons (mkD a x.1) (.cons u .nil)))) none))
  | t => fun _ off n w K => iff (isAt off n (sizeT t)) (K w) none
theorem putT_ok : ∀ (t : Ty) (x : El t) (off n : Nat) (w : Sym) (K : Sym → Option R) (r : R), w.ok = true → w.cells.length = n → putT t x off n w K = some r → ∃ u, K u = some r ∧ u.ok = true ∧ Puts (cellsT t x) off w.cells u.cells := by
  intro t
  have leaf : ∀ (t : Ty) (x : El t) (off n : Nat) (w : Sym) (K : Sym → Option R) (r : R), w.ok = true → w.cells.length = n → iff (isAt off n (sizeT t)) (K w) none = some r → ∃ u, K u = some r ∧ u.ok = true ∧ Puts (cellsT t x) off w.cells u.cells := by
    intro t x off n w K r ho hn h
    obtain ⟨hc, h'⟩ := iff_some h
    obtain ⟨rfl, hz⟩ := isAt_eq hc
    exact ⟨w, h', ho, Puts.whole _ _ (by rw [hn, hz, cellsT_len])⟩
  induction t with
  | pair a b iha ihb =>
    intro x off n w K r ho hn h
    rcases iff_way (show iff (isAt off n (sizeT (.pair a b))) (K w) (iff (Nat.ble (Nat.add off n) (sizeT a)) (putT a x.1 off n w fun u => K (.agg (.cons u (.cons (mkD b x.2) .nil)))) (iff (Nat.ble (sizeT a) off) (putT b x.2 (Nat.sub off (sizeT a)) n w fun u => K (.agg (.cons (mkD a x.1) (.cons u .nil)))) none)) = some r from h) with ⟨hc, h'⟩ | ⟨_, h⟩
    · obtain ⟨rfl, hz⟩ := isAt_eq hc
      exact ⟨w, h', ho, Puts.whole _ _ (by rw [hn, hz, cellsT_len])⟩
    · rcases iff_way h with ⟨_, h⟩ | ⟨_, h⟩
      · obtain ⟨u, h1, _, h3⟩ := iha x.1 off n w _ r ho hn h
        refine ⟨_, h1, rfl, ?_⟩
        show Puts (cellsT a x.1 ++ cellsT b x.2) off w.cells (u.cells ++ ((mkD b x.2).cells ++ []))
        rw [List.append_nil, mkD_cells]
        exact h3.left
      · obtain ⟨hc, h⟩ := iff_some h
        rw [ble_iff] at hc
        obtain ⟨u, h1, _, h3⟩ := ihb x.2 _ n w _ r ho hn h
        refine ⟨_, h1, rfl, ?_⟩
        show Puts (cellsT a x.1 ++ cellsT b x.2) off w.cells ((mkD a x.1).cells ++ (u.cells ++ []))
        rw [List.append_nil, mkD_cells]
        exact h3.right (by rw [cellsT_len]; show off = sizeT a + (off - sizeT a); omega)
  | bool => intro x off n w K r ho hn h; exact leaf .bool x off n w K r ho hn h
  | int k => intro x off n w K r ho hn h; exact leaf (.int k) x off n w K r ho hn h
  | str => intro x off n w K r ho hn h; exact leaf .str x off n w K r ho hn h
  | unit => intro x off n w K r ho hn h; exact leaf .unit x off n w K r ho hn h
  | slice t _ => intro x off n w K r ho hn h; exact leaf (.slice t) x off n w K r ho hn h
  | arr m t _ => intro x off n w K r ho hn h; exact leaf (.arr m t) x off n w K r ho hn h
noncomputable def putS : Sym → Nat → Nat → Sym → (Sym → Option R) → Option R
  | .d t x => putT t x
  | .agg l => fun off n w K => putS l off n w fun u => K (.agg u)
  | .cons a s => fun off n w K =>
      iff (Nat.ble a.size off) (putS s (Nat.sub off a.size) n w fun u => K (.cons a u))
      (iff (and (isZ off) (Nat.ble a.size n)) (dropS s (Nat.sub n a.size) fun u => K (.cons w u))
      (iff (Nat.ble (Nat.add off n) a.size) (putS a off n w fun u => K (.cons u s)) none))
  | _ => fun _ _ _ _ => none
theorem putS_ok : ∀ (s : Sym) (off n : Nat) (w : Sym) (K : Sym → Option R) (r : R), w.ok = true → w.cells.length = n → putS s off n w K = some r → ∃ u, K u = some r ∧ Puts s.cells off w.cells u.cells := by
  intro s
  induction s with
  | d t x => intro off n w K r ho hn h; obtain ⟨u, h1, _, h3⟩ := putT_ok t x off n w K r ho hn h; exact ⟨u, h1, h3⟩
  | agg l ih => intro off n w K r ho hn h; obtain ⟨u, h1, h3⟩ := ih off n w _ r ho hn h; exact ⟨_, h1, h3⟩
  | cons a s iha ihs =>
    intro off n w K r ho hn h
    rcases iff_way (show iff (Nat.ble a.size off) (putS s (Nat.sub off a.size) n w fun u => K (.cons a u)) (iff (and (isZ off) (Nat.ble a.size n)) (dropS s (Nat.sub n a.size) fun u => K (.cons w u)) (iff (Nat.ble (Nat.add off n) a.size) (putS a off n w fun u => K (.cons u s)) none)) = some r from h) with ⟨hc, h⟩ | ⟨_, h⟩
    · rw [ble_iff] at hc
      obtain ⟨u, h1, h3⟩ := ihs _ n w _ r ho hn h
      exact ⟨_, h1, Puts.right (a := a.cells) h3 (by rw [Sym.size_eq]; show off = a.size + (off - a.size); omega)⟩
    · rcases iff_way h with ⟨hc, h'⟩ | ⟨_, h⟩
      · rw [Bool.and_eq_true, Tr.isZ_iff, ble_iff] at hc
        obtain ⟨rfl, hc⟩ := hc
        obtain ⟨u, h1, h2, h3⟩ := dropS_ok _ _ _ _ h'
        have h2 : n - a.size ≤ s.cells.length := h2
        have h3 : u.cells = s.cells.drop (n - a.size) := h3
        refine ⟨_, h1, ?_, ?_⟩
        · show 0 + w.cells.length ≤ (a.cells ++ s.cells).length
          rw [List.length_append, Sym.size_eq a, hn]
          omega
        · show w.cells ++ u.cells = (a.cells ++ s.cells).take 0 ++ w.cells ++ (a.cells ++ s.cells).drop (0 + w.cells.length)
          rw [h3, hn, List.take_zero, List.nil_append, Nat.zero_add, dropLe (by rw [Sym.size_eq]; exact hc), Sym.size_eq]
      · obtain ⟨_, h⟩ := iff_some h
        obtain ⟨u, h1, h3⟩ := iha off n w _ r ho hn h
        exact ⟨_, h1, h3.left⟩
  | _ => intro off n w K r ho hn h; cases (show none = some r from h)
noncomputable def dropT : (t : Ty) → El t → Nat → ((t : Ty) → El t → Option R) → Option R
  | .pair a b => fun x off K => iff (isZ off) (K (.pair a b) x) (iff (Nat.blt off (sizeT a)) (dropT a x.1 off fun a' y => K (.pair a' b) (y, x.2)) (dropT b x.2 (Nat.sub off (sizeT a)) K))
  | t => fun x off K => iff (isZ off) (K t x) none
theorem dropT_ok : ∀ (t : Ty) (x : El t) (off : Nat) (K : (t : Ty) → El t → Option R) (r : R), dropT t x off K = some r → ∃ t' y, K t' y = some r ∧ off ≤ (cellsT t x).length ∧ cellsT t' y = (cellsT t x).drop off := by
  intro t
  have leaf : ∀ (t : Ty) (x : El t) (off : Nat) (K : (t : Ty) → El t → Option R) (r : R), iff (isZ off) (K t x) none = some r → ∃ t' y, K t' y = some r ∧ off ≤ (cellsT t x).length ∧ cellsT t' y = (cellsT t x).drop off := by
    intro t x off K r h
    obtain ⟨hc, h⟩ := iff_some h
    rw [Tr.isZ_iff] at hc
    subst hc
    exact ⟨_, _, h, Nat.zero_le _, rfl⟩
  induction t with
  | pair a b iha ihb =>
    intro x off K r h
    rcases iff_way (show iff (isZ off) (K (.pair a b) x) (iff (Nat.blt off (sizeT a)) (dropT a x.1 off fun a' y => K (.pair a' b) (y, x.2)) (dropT b x.2 (Nat.sub off (sizeT a)) K)) = some r from h) with ⟨hc, h⟩ | ⟨_, h⟩
    · rw [Tr.isZ_iff] at hc
      subst hc
      exact ⟨_, _, h, Nat.zero_le _, rfl⟩
    · rcases iff_way h with ⟨hc, h⟩ | ⟨hc, h⟩
      · obtain ⟨t', y, h1, h2, h3⟩ := iha _ _ _ _ h
        refine ⟨_, _, h1, ?_, ?_⟩
        · rw [cellsT_pair, List.length_append]; omega
        · show cellsT t' y ++ cellsT b x.2 = (cellsT a x.1 ++ cellsT b x.2).drop off
          rw [List.drop_append_of_le_length h2, ← h3]
      · have hc : ¬ off < sizeT a := by rw [← blt_iff, hc]; decide
        obtain ⟨t', y, h1, h2, h3⟩ := ihb _ _ _ _ h
        have h2 : off - sizeT a ≤ (cellsT b x.2).length := h2
        have h3 : cellsT t' y = (cellsT b x.2).drop (off - sizeT a) := h3
        refine ⟨_, _, h1, ?_, ?_⟩
        · rw [cellsT_pair, List.length_append, cellsT_len]; omega
        · rw [h3]
          show (cellsT b x.2).drop (off - sizeT a) = (cellsT a x.1 ++ cellsT b x.2).drop off
          rw [dropLe (by rw [cellsT_len]; omega), cellsT_len]
  | bool => intro x off K r h; exact leaf .bool x off K r h
  | int k => intro x off K r h; exact leaf (.int k) x off K r h
  | str => intro x off K r h; exact leaf .str x off K r h
  | unit => intro x off K r h; exact leaf .unit x off K r h
  | slice t _ => intro x off K r h; exact leaf (.slice t) x off K r h
  | arr m t _ => intro x off K r h; exact leaf (.arr m t) x off K r h
end
end Go.Abs
namespace Go.Abs
def mapT {α β : Type} (f : α → Option β) : Tr α → Tr β
  | .leaf => .leaf
  | .node l v r => .node (mapT f l) (v.bind f) (mapT f r)
theorem mapT_get {α β : Type} (f : α → Option β) : ∀ (t : Tr α) (n : Nat), (mapT f t).get n = (t.get n).bind f
  | .leaf, n => rfl
  | .node l v r, n => by
    rw [Tr.get_node']
    show (Tr.node (mapT f l) (v.bind f) (mapT f r)).get n = _
    rw [Tr.get_node', mapT_get f l, mapT_get f r]
    split
    · rfl
    · split <;> rfl
theorem mapT_single {α β : Type} {f : α → Option β} {v : α} {w : β} (hv : f v = some w) : ∀ (m n : Nat), mapT f (Tr.single m n v) = Tr.single m n w
  | 0, n => by
    show Tr.node .leaf (f v) .leaf = Tr.node .leaf (some w) .leaf
    rw [hv]
  | m + 1, n => by
    rw [Tr.single_succ', Tr.single_succ']
    split
    · show Tr.node .leaf (f v) .leaf = Tr.node .leaf (some w) .leaf
      rw [hv]
    · split
      · show Tr.node (mapT f (Tr.single m (n / 2) v)) none .leaf = _
        rw [mapT_single hv m]
      · show Tr.node .leaf none (mapT f (Tr.single m (n / 2 - 1) v)) = _
        rw [mapT_single hv m]
theorem mapT_set {α β : Type} {f : α → Option β} {v : α} {w : β} (hv : f v = some w) : ∀ (t : Tr α) (n : Nat), mapT f (t.set n v) = (mapT f t).set n w
  | .leaf, n => mapT_single hv n n
  | .node l x r, n => by
    rw [Tr.set_node']
    show _ = (Tr.node (mapT f l) (x.bind f) (mapT f r)).set n w
    rw [Tr.set_node']
    split
    · show Tr.node (mapT f l) (f v) (mapT f r) = _
      rw [hv]
    · split
      · show Tr.node (mapT f (l.set (n / 2) v)) (x.bind f) (mapT f r) = _
        rw [mapT_set hv l]
      · show Tr.node (mapT f l) (x.bind f) (mapT f (r.set (n / 2 - 1) v)) = _
        rw [mapT_set hv r]
theorem Tr.set_again {α : Type} : ∀ (t : Tr α) (n : Nat) (v : α), t.get n = some v → t.set n v = t
  | .leaf, n, v, h => by cases (show none = some v from h)
  | .node l x r, n, v, h => by
    rw [Tr.get_node'] at h
    rw [Tr.set_node']
    split
    · rename_i h0
      rw [if_pos h0] at h
      rw [h]
    · rename_i h0
      rw [if_neg h0] at h
      split
      · rename_i h1
        rw [if_pos h1] at h
        rw [Tr.set_again l _ v h]
      · rename_i h1
        rw [if_neg h1] at h
        rw [Tr.set_again r _ v h]
abbrev mpT (kt vt : Ty) : Ty := .pair (.slice (.pair kt (.pair vt (.int .i64)))) (.int .i64)
noncomputable def entE (kt vt : Ty) (x : El kt × El vt × Int) : MapEntry := ⟨valT kt x.1, valT vt x.2.1, x.2.2.toNat⟩
noncomputable def entsE (kt vt : Ty) (x : El (mpT kt vt)) : List MapEntry := List.map (entE kt vt) x.1
inductive SObj where
  | cel (l : Sym) (e : Option Nat) (org : Nat) (ro dead : Bool)
  | raw (o : AObj)
  | may (nl nn : Bool) (l : Sym) (z org : Nat)
  | mp (kt vt : Ty) (x : El (mpT kt vt))
noncomputable def SObj.g : SObj → Option AObj
  | .cel l e org ro dead => some (.cells l.cells e org ro dead)
  | .raw o => some o
  | .may nl nn l z org => iff nl (iff nn none (some (.cells [] none org false false))) (some (.cells l.cells (some z) org false false))
  | .mp kt vt x => some (.map (entsE kt vt x) (Int.toNat x.2))
structure SSt where
  heap : Tr SObj
  next : Nat
  low : Nat
  klow : Nat
noncomputable def SSt.g (s : SSt) : ASt := ⟨mapT SObj.g s.heap, s.next, s.low, s.klow⟩
abbrev SEnv := Tr Sym
noncomputable def SEnv.g (e : SEnv) : Env := mapT (fun s => some s.val) e
noncomputable def orUnk (o : Option Sym) : Sym := @Option.rec Sym (fun _ => Sym) (.v unk) (fun v => v) o
noncomputable def senvOf : Operand → SEnv → Sym
  | .tmp t => fun e => orUnk (e.get t)
  | .const v => fun _ => symOf v
  | .global g => fun _ => .v (.pointer (some ⟨g, 0, none⟩))
  | .func f => fun _ => .v (.func (.func f) #[] #[])
noncomputable def senv (e : SEnv) (x : Operand) : Sym := senvOf x e
theorem senv_val (e : SEnv) (x : Operand) : (senv e x).val = env e.g x := by
  cases x with
  | tmp t =>
    show (orUnk (e.get t)).val = orUndef ((SEnv.g e).get t)
    unfold SEnv.g
    rw [mapT_get]
    cases e.get t <;> rfl
  | const v => exact symOf_val v
  | _ => rfl
theorem SSt.obj_g (s : SSt) (k : Nat) : s.g.obj k = (s.heap.get k).bind SObj.g := mapT_get _ _ _
def beqK (a b : IntKind) : Bool := Nat.beq (kindNo a) (kindNo b)
theorem beqK_eq {a b : IntKind} (h : beqK a b = true) : a = b := (sameKind_iff a b).1 h
def beqT : Ty → Ty → Bool
  | .bool => fun | .bool => true | _ => false
  | .int k => fun | .int k' => beqK k k' | _ => false
  | .str => fun | .str => true | _ => false
  | .unit => fun | .unit => true | _ => false
  | .pair a b => fun | .pair a' b' => and (beqT a a') (beqT b b') | _ => false
  | .arr n t => fun | .arr n' t' => and (Nat.beq n n') (beqT t t') | _ => false
  | .slice t => fun | .slice t' => beqT t t' | _ => false
theorem beqT_eq : ∀ {a b : Ty}, beqT a b = true → a = b := by
  intro a
  induction a with
  | int k => intro b h; cases b <;> first | (cases h; done) | (rw [beqK_eq h])
  | pair a b iha ihb =>
    intro c h
    cases c <;> first | (cases h; done) | skip
    rename_i a' b'
    have h : and (beqT a a') (beqT b b') = true := h
    rw [Bool.and_eq_true] at h
    rw [iha h.1, ihb h.2]
  | arr n t ih =>
    intro c h
    cases c <;> first | (cases h; done) | skip
    rename_i n' t'
    have h : and (Nat.beq n n') (beqT t t') = true := h
    rw [Bool.and_eq_true, beq_iff] at h
    rw [h.1, ih h.2]
  | slice t ih =>
    intro c h
    cases c <;> first | (cases h; done) | skip
    rename_i t'
    rw [ih (show beqT t t' = true from h)]
  | _ => intro b h; cases b <;> first | (cases h; done) | rfl
section
variable {R : Type}
def castT (t t' : Ty) (x : El t) : Option (El t') := if h : beqT t t' = true then some (beqT_eq h ▸ x) else none
theorem castT_eq {t t' : Ty} {x : El t} {y : El t'} (h : castT t t' x = some y) : cellsT t' y = cellsT t x ∧ valT t' y = valT t x ∧ oneT t' y = oneT t x := by
  unfold castT at h
  split at h
  · rename_i hb
    obtain rfl := beqT_eq hb
    cases h
    exact ⟨rfl, rfl, rfl⟩
  · cases h
def isUnit : Ty → Bool
  | .unit => true
  | _ => false
noncomputable def flatS : Sym → Sym → Sym
  | .agg l => flatS l
  | .cons a r => fun tail => flatS a (flatS r tail)
  | .nil => fun tail => tail
  | .d t x => fun tail => iff (isUnit t) tail (.cons (.d t x) tail)
  | s => fun tail => .cons s tail
theorem flatS_cells : ∀ (s tail : Sym), (flatS s tail).cells = s.cells ++ tail.cells := by
  intro s
  induction s with
  | agg l ih => intro tail; exact ih tail
  | cons a r iha ihr =>
    intro tail
    show (flatS a (flatS r tail)).cells = (a.cells ++ r.cells) ++ tail.cells
    rw [iha, ihr, List.append_assoc]
  | nil => intro tail; rfl
  | d t x =>
    intro tail
    show (iff (isUnit t) tail (.cons (.d t x) tail)).cells = _
    cases t <;> rfl
  | _ => intro tail; rfl
noncomputable def headS (s : Sym) (K : Sym → Sym → Option R) : Option R := match s with
  | .cons a r => K a r
  | _ => none
theorem headS_eq {s : Sym} {K : Sym → Sym → Option R} {r : R} (h : headS s K = some r) : ∃ a t, s = .cons a t ∧ K a t = some r := by
  cases s with
  | cons a t => exact ⟨a, t, rfl, h⟩
  | _ => cases h
def asV : Sym → Option Value
  | .v x => some x
  | _ => none
theorem asV_eq {s : Sym} {x : Value} (h : asV s = some x) : s = .v x := by
  cases s <;> first | (cases h; done) | (cases h; rfl)
def asDT (t : Ty) : Sym → Option (El t)
  | .d t' x => castT t' t x
  | _ => none
theorem asDT_eq {t : Ty} {s : Sym} {x : El t} (h : asDT t s = some x) : s.cells = cellsT t x ∧ s.val = valT t x := by
  cases s with
  | d t' y => have := castT_eq (show castT t' t y = some x from h); exact ⟨this.1.symm, this.2.1.symm⟩
  | _ => cases h
def asRw (t : Ty) : Sym → Option (List (El t))
  | .rw t' xs => castT (.slice t') (.slice t) xs
  | _ => none
theorem asRw_eq {t : Ty} {s : Sym} {xs : List (El t)} (h : asRw t s = some xs) : s.cells = (xs.map (cellsT t)).flatten := by
  cases s with
  | rw t' ys =>
    have h := show castT (.slice t') (.slice t) ys = some xs from h
    unfold castT at h
    split at h
    · rename_i hb
      have := beqT_eq hb
      injection this with this
      subst this
      cases h
      rfl
    · cases h
  | _ => cases h
def asOwn : Sym → Option (Option Nat × Nat)
  | .v (.slice none 0 _) => some (none, 0)
  | .v (.slice (some ⟨b, 0, _⟩) len _) => some (some b, len)
  | .os b _ len => some (some b, len)
  | _ => none
def asMo : Sym → Option (Nat × Nat × Nat × Bool × Bool)
  | .mo b z len nl nn => some (b, z, len, nl, nn)
  | _ => none
theorem asMo_eq {s : Sym} {b z len : Nat} {nl nn : Bool} (h : asMo s = some (b, z, len, nl, nn)) : s = .mo b z len nl nn := by
  cases s <;> first | (cases h; done) | (cases h; rfl)
noncomputable def orE {α β : Type} (o : Option α) (f : α → Option β) (d : Option β) : Option β := @Option.rec α (fun _ => Option β) d f o
theorem orE_eq {α β : Type} {o : Option α} {f : α → Option β} {d : Option β} {r : β} (h : orE o f d = some r) : (∃ a, o = some a ∧ f a = some r) ∨ (o = none ∧ d = some r) := by
  cases o with
  | none => exact .inr ⟨rfl, h⟩
  | some a => exact .inl ⟨a, rfl, h⟩
theorem asOwn_none {s : Sym} {n : Nat} (h : asOwn s = some (none, n)) : ∃ c, s.cells = [.slice none 0 c] := by
  unfold asOwn at h
  split at h
  · exact ⟨_, rfl⟩
  · cases h
  · cases h
  · cases h
theorem asOwn_some {s : Sym} {b n : Nat} (h : asOwn s = some (some b, n)) : ∃ sp c, s.cells = [.slice (some ⟨b, 0, sp⟩) n c] := by
  unfold asOwn at h
  split at h
  · cases h
  · cases h; exact ⟨_, _, rfl⟩
  · cases h; exact ⟨_, _, rfl⟩
  · cases h
noncomputable def colRows (t : Ty) (one : Sym → (El t → Sym → Option R) → Option R) : Nat → Sym → (List (El t) → Option R) → Option R
  | 0 => fun _ _ => none
  | n + 1 => fun s K => match s with
    | .nil => K []
    | .cons a r => match asRw t a with
      | some ys => (match r with
        | .nil => K ys
        | _ => colRows t one n r fun xs => K (ys ++ xs))
      | none => one (.cons a r) fun y r' => colRows t one n r' fun xs => K (y :: xs)
    | _ => none
noncomputable def colVec (t : Ty) (one : Sym → (El t → Sym → Option R) → Option R) : (n : Nat) → Sym → (El (.arr n t) → Sym → Option R) → Option R
  | 0 => fun s K => K ⟨[], rfl⟩ s
  | n + 1 => fun s K => one s fun y r => colVec t one n r fun ys r' => K ⟨y :: ys.1, by rw [List.length_cons, ys.2]⟩ r'
noncomputable def colC (nl : Bool) (hp : Nat → Option (Bool × Bool × Sym)) : (t : Ty) → Sym → (El t → Sym → Option R) → Option R
  | .bool => fun s K => headS s fun a r => andThen (asV a) fun v => andThen (asB v) fun b => K b r
  | .int k => fun s K => headS s fun a r => andThen (asV a) fun v => andThen (gI k v) fun n => K n r
  | .str => fun s K => headS s fun a r => andThen (asV a) fun v => andThen (asS v) fun l => K l r
  | .unit => fun s K => K () s
  | .pair a b => fun s K => headS s fun h r => match asDT (.pair a b) h with
    | some x => K x r
    | none => colC nl hp a s fun y r' => colC nl hp b r' fun z r'' => K (y, z) r''
  | .arr n t => fun s K => match n with
    | 0 => K ⟨[], rfl⟩ s
    | n + 1 => headS s fun h r => match asDT (.arr (n + 1) t) h with
      | some x => K x r
      | none => colVec t (colC nl hp t) (n + 1) s K
  | .slice t => fun s K => headS s fun h r => match asDT (.slice t) h with
    | some x => K x r
    | none => orE (asMo h) (fun q => andThen3 (hp q.1) fun n nn ch => iff (isZ (sizeT t)) none (colRows t (colC nl hp t) 2000 (flatS ch .nil) fun xs => iff (and (and nl (q.2.2.2.2 == nn)) (or q.2.2.2.1 (and (not n) (Nat.beq q.2.2.1 xs.length)))) (K (iff q.2.2.2.1 [] xs) r) none)) <|
      andThen2 (asOwn h) fun o len => match o with
      | none => iff nl (K [] r) none
      | some b => andThen3 (hp b) fun n _ ch => iff (or (isZ (sizeT t)) n) none (colRows t (colC nl hp t) 2000 (flatS ch .nil) fun xs => iff (Nat.beq len xs.length) (K xs r) none)
structure ColR (Rl : List Value → List Value → Prop) (nl : Bool) (hp : Nat → Option (Bool × Bool × Sym)) : Prop where
  nil : Rl [] []
  app : ∀ {a b c d}, Rl a b → Rl c d → Rl (a ++ c) (b ++ d)
  self : ∀ t x, Rl (cellsT t x) (cellsT t x)
  none : nl = true → ∀ t c, Rl (cellsT (.slice t) []) [.slice none 0 c]
  own : ∀ b nn ch t xs sp c, hp b = some (false, nn, ch) → Rl (xs.map (cellsT t)).flatten ch.cells → Rl (cellsT (.slice t) xs) [.slice (some ⟨b, 0, sp⟩) xs.length c]
  mo : nl = true → ∀ b n nn ch t xs z len q, hp b = some (n, nn, ch) → (q = true → xs = []) → (q = false → n = false ∧ len = xs.length ∧ Rl (xs.map (cellsT t)).flatten ch.cells) → Rl (cellsT (.slice t) xs) [moV b z len q nn]
variable {Rl : List Value → List Value → Prop} {nl : Bool} {hp : Nat → Option (Bool × Bool × Sym)}
theorem ColR.rows (hR : ColR Rl nl hp) (t : Ty) (xs : List (El t)) : Rl (xs.map (cellsT t)).flatten (xs.map (cellsT t)).flatten := by
  induction xs with
  | nil => exact hR.nil
  | cons x xs ih => rw [List.map_cons, List.flatten_cons]; exact hR.app (hR.self t x) ih
def OneOk (Rl : List Value → List Value → Prop) (t : Ty) (one : Sym → (El t → Sym → Option R) → Option R) : Prop :=
  ∀ s K r, one s K = some r → ∃ y s' c, K y s' = some r ∧ s.cells = c ++ s'.cells ∧ Rl (cellsT t y) c
theorem colRows_ok (hR : ColR Rl nl hp) {t : Ty} {one : Sym → (El t → Sym → Option R) → Option R} (h1 : OneOk Rl t one) :
    ∀ (n : Nat) (s : Sym) (K : List (El t) → Option R) (r : R), colRows t one n s K = some r → ∃ xs, K xs = some r ∧ Rl (xs.map (cellsT t)).flatten s.cells := by
  intro n
  induction n with
  | zero => intro s K r h; cases (show none = some r from h)
  | succ n ih =>
    intro s K r h
    unfold colRows at h
    split at h
    · exact ⟨[], h, hR.nil⟩
    · rename_i a s1
      split at h
      · rename_i ys hy
        have hc := asRw_eq hy
        split at h
        · refine ⟨ys, h, ?_⟩
          show Rl _ (a.cells ++ [])
          rw [hc, List.append_nil]
          exact hR.rows t ys
        · obtain ⟨xs, g1, g2⟩ := ih _ _ _ h
          refine ⟨_, g1, ?_⟩
          show Rl _ (a.cells ++ s1.cells)
          rw [hc, List.map_append, List.flatten_append]
          exact hR.app (hR.rows t ys) g2
      · obtain ⟨y, s', c, g1, g2, g3⟩ := h1 _ _ _ h
        obtain ⟨xs, g4, g5⟩ := ih _ _ _ g1
        refine ⟨_, g4, ?_⟩
        rw [g2, List.map_cons, List.flatten_cons]
        exact hR.app g3 g5
    · cases h
theorem colVec_ok (hR : ColR Rl nl hp) {t : Ty} {one : Sym → (El t → Sym → Option R) → Option R} (h1 : OneOk Rl t one) : ∀ (n : Nat), OneOk Rl (.arr n t) (colVec t one n) := by
  intro n
  induction n with
  | zero => intro s K r h; exact ⟨_, s, [], h, rfl, hR.nil⟩
  | succ n ih =>
    intro s K r h
    obtain ⟨y, s', c, g1, g2, g3⟩ := h1 _ _ _ (show one s (fun y r => colVec t one n r fun ys r' => K ⟨y :: ys.1, by rw [List.length_cons, ys.2]⟩ r') = some r from h)
    obtain ⟨ys, s'', c', g4, g5, g6⟩ := ih _ _ _ g1
    refine ⟨_, s'', c ++ c', g4, by rw [g2, g5, List.append_assoc], ?_⟩
    show Rl (((y :: ys.1).map (cellsT t)).flatten) (c ++ c')
    rw [List.map_cons, List.flatten_cons]
    exact hR.app g3 g6
theorem colC_ok (hR : ColR Rl nl hp) : ∀ (t : Ty), OneOk (R := R) Rl t (colC nl hp t) := by
  intro t
  induction t with
  | bool =>
    intro s K r h
    obtain ⟨a, s', hs, g⟩ := headS_eq (show headS s (fun a r => andThen (asV a) fun v => andThen (asB v) fun b => K b r) = some r from h)
    obtain ⟨v, h1, g⟩ := andThen_eq g
    obtain ⟨b, h2, g⟩ := andThen_eq g
    rw [hs, asV_eq h1, gB_eq (show gB v = some b from h2)]
    exact ⟨b, s', [.bool b], g, rfl, hR.self .bool b⟩
  | int k =>
    intro s K r h
    obtain ⟨a, s', hs, g⟩ := headS_eq (show headS s (fun a r => andThen (asV a) fun v => andThen (gI k v) fun n => K n r) = some r from h)
    obtain ⟨v, h1, g⟩ := andThen_eq g
    obtain ⟨n, h2, g⟩ := andThen_eq g
    rw [hs, asV_eq h1, gI_eq h2]
    exact ⟨n, s', [.int k n], g, rfl, hR.self (.int k) n⟩
  | str =>
    intro s K r h
    obtain ⟨a, s', hs, g⟩ := headS_eq (show headS s (fun a r => andThen (asV a) fun v => andThen (asS v) fun l => K l r) = some r from h)
    obtain ⟨v, h1, g⟩ := andThen_eq g
    obtain ⟨l, h2, g⟩ := andThen_eq g
    have : v = .string ⟨⟨l⟩⟩ := by
      cases v <;> first | (cases h2; done) | (cases h2; rfl)
    rw [hs, asV_eq h1, this]
    exact ⟨l, s', [.string ⟨⟨l⟩⟩], g, rfl, hR.self .str l⟩
  | unit => intro s K r h; exact ⟨(), s, [], h, rfl, hR.nil⟩
  | pair a b iha ihb =>
    intro s K r h
    have h : headS s (fun h r => match asDT (.pair a b) h with
      | some x => K x r
      | none => colC nl hp a s fun y r' => colC nl hp b r' fun z r'' => K (y, z) r'') = some r := h
    obtain ⟨hd1, s', hs, g⟩ := headS_eq h
    split at g
    · rename_i x hx
      subst hs
      exact ⟨x, s', cellsT (.pair a b) x, g, by show hd1.cells ++ s'.cells = _; rw [(asDT_eq hx).1], hR.self _ _⟩
    · obtain ⟨y, s1, c, g1, g2, g3⟩ := iha _ _ _ g
      obtain ⟨z, s2, c', g4, g5, g6⟩ := ihb _ _ _ g1
      exact ⟨(y, z), s2, c ++ c', g4, by rw [g2, g5, List.append_assoc], hR.app g3 g6⟩
  | arr n t ih =>
    intro s K r h
    cases n with
    | zero => exact ⟨⟨[], rfl⟩, s, [], h, rfl, hR.nil⟩
    | succ n =>
      have h : headS s (fun h r => match asDT (.arr (n + 1) t) h with
        | some x => K x r
        | none => colVec t (colC nl hp t) (n + 1) s K) = some r := h
      obtain ⟨hd1, s', hs, g⟩ := headS_eq h
      split at g
      · rename_i x hx
        subst hs
        exact ⟨x, s', cellsT (.arr (n + 1) t) x, g, by show hd1.cells ++ s'.cells = _; rw [(asDT_eq hx).1], hR.self _ _⟩
      · exact colVec_ok hR ih (n + 1) _ _ _ g
  | slice t ih =>
    intro s K r h
    have h : headS s (fun h r => match asDT (.slice t) h with
      | some x => K x r
      | none => orE (asMo h) (fun q => andThen3 (hp q.1) fun n nn ch => iff (isZ (sizeT t)) none (colRows t (colC nl hp t) 2000 (flatS ch .nil) fun xs => iff (and (and nl (q.2.2.2.2 == nn)) (or q.2.2.2.1 (and (not n) (Nat.beq q.2.2.1 xs.length)))) (K (iff q.2.2.2.1 [] xs) r) none)) <|
        andThen2 (asOwn h) fun o len => match o with
        | none => iff nl (K [] r) none
        | some b => andThen3 (hp b) fun n _ ch => iff (or (isZ (sizeT t)) n) none (colRows t (colC nl hp t) 2000 (flatS ch .nil) fun xs => iff (Nat.beq len xs.length) (K xs r) none)) = some r := h
    obtain ⟨hd1, s', hs, g⟩ := headS_eq h
    clear h
    subst hs
    split at g
    · rename_i x hx
      exact ⟨x, s', cellsT (.slice t) x, g, by show hd1.cells ++ s'.cells = _; rw [(asDT_eq hx).1], hR.self _ _⟩
    · rcases orE_eq g with ⟨⟨b, z, len, q, nn⟩, h1, h⟩ | ⟨_, g⟩
      · obtain ⟨n, nn', ch, h2, h⟩ := andThen3_eq h
        rcases iff_way h with ⟨_, h⟩ | ⟨_, h⟩
        · cases h
        obtain ⟨xs, g1, g2⟩ := colRows_ok hR ih _ _ _ _ h
        obtain ⟨hc, g9⟩ := iff_some g1
        rw [flatS_cells] at g2
        have g2 : Rl (xs.map (cellsT t)).flatten (ch.cells ++ []) := g2
        rw [List.append_nil] at g2
        simp only [Bool.and_eq_true, beq_iff_eq] at hc
        obtain ⟨⟨hn, hnn⟩, hc⟩ := hc
        have hnn : nn = nn' := hnn
        subst hnn
        refine ⟨_, s', [moV b z len q nn], g9, by show hd1.cells ++ s'.cells = _; rw [asMo_eq h1]; rfl, hR.mo hn b n nn ch t _ z len q h2 (fun hq => ?_) (fun hq => ?_)⟩
        · show iff q [] xs = []
          rw [hq]; rfl
        · have hc : (q || (!n && Nat.beq len xs.length)) = true := hc
          rw [hq, Bool.false_or, Bool.and_eq_true, beq_iff] at hc
          show n = false ∧ len = (iff q [] xs).length ∧ Rl ((iff q [] xs).map (cellsT t)).flatten ch.cells
          rw [hq]
          exact ⟨by simpa using hc.1, hc.2, g2⟩
      obtain ⟨o, len, h1, h⟩ := andThen2_eq g
      clear g
      cases o with
      | none =>
        obtain ⟨hn, g⟩ := iff_some h
        have h1' : len = 0 := by
          unfold asOwn at h1
          split at h1 <;> cases h1 <;> rfl
        subst h1'
        obtain ⟨c, hc⟩ := asOwn_none h1
        exact ⟨[], s', [.slice none 0 c], g, by show hd1.cells ++ s'.cells = _; rw [hc], hR.none hn t c⟩
      | some b =>
        obtain ⟨sp, c, hc⟩ := asOwn_some h1
        obtain ⟨n, nn, ch, h2, h8⟩ := andThen3_eq h
        rcases iff_way h8 with ⟨_, h9⟩ | ⟨hn, h9⟩
        · cases h9
        simp only [Bool.or_eq_false_iff] at hn
        obtain rfl : n = false := hn.2
        obtain ⟨xs, g3, g2⟩ := colRows_ok hR ih _ _ _ _ h9
        obtain ⟨hl, g1⟩ := iff_some g3
        rw [beq_iff] at hl
        rw [flatS_cells] at g2
        have g2 : Rl (xs.map (cellsT t)).flatten (ch.cells ++ []) := g2
        rw [List.append_nil] at g2
        refine ⟨xs, s', [.slice (some ⟨b, 0, sp⟩) len c], g1, by show hd1.cells ++ s'.cells = _; rw [hc], ?_⟩
        rw [hl]
        exact hR.own b nn ch t xs sp c h2 g2
theorem VAs.singl {ι : Ren} {v v' : Value} (h : VA ι v v') : VAs ι [v] [v'] := .cons h .nil
theorem fz_rows {ι : Ren} {t : Ty} {xs : List (El t)} {b : Nat} {sp : Option Nat} {c : Nat} {cells : List Value} (hi : ι.inn = true) (hf : ι.fz b = some cells) (h1 : VAs ι (xs.map (cellsT t)).flatten cells) : VAs ι (cellsT (.slice t) xs) [.slice (some ⟨b, 0, sp⟩) xs.length c] :=
  .singl (.fz hi hf (rowsCells_aggs (encT t).rows_of) (by rw [aggs_length]; exact List.length_map _) (Win.all _) (fun v hv => by
      obtain ⟨r, hr, hv⟩ := List.mem_flatten.1 hv
      obtain ⟨a, _, rfl⟩ := List.mem_map.1 hr
      exact cellsT_closed t a v hv) h1.1 h1.2)
theorem fz_none {ι : Ren} {t : Ty} {b c : Nat} {sp : Option Nat} {cells : List Value} (hi : ι.inn = true) (hf : ι.fz b = some cells) : VAs ι (cellsT (.slice t) []) [.slice (some ⟨b, 0, sp⟩) 0 c] :=
  .singl (.fz (z := sizeT t) (cs := []) (cs' := []) hi hf rfl rfl ⟨Nat.zero_le _, rfl⟩ (fun v hv => by cases hv) rfl (fun i v v' h => by simp at h))
theorem col_ren {ι : Ren} (hd : ι.dt = true) (hi : nl = true → ι.inn = true) (hp1 : ∀ b n nn ch, hp b = some (n, nn, ch) → ι.inn = true ∧ (n = false → ι.fz b = some ch.cells) ∧ (n = true → nn = false → ι.fz b = some [])) : ColR (VAs ι) nl hp where
  nil := .nil
  app := fun h h' => h.append h'
  self := fun t x => VAs.closed hd (cellsT_closed t x)
  none := fun hn t c => .singl (.nil0 c (hi hn))
  own := fun b nn ch t xs sp c h h1 => fz_rows (hp1 b _ _ ch h).1 ((hp1 b _ _ ch h).2.1 rfl) h1
  mo := fun hn b n nn ch t xs z len q h h1 h2 => by
    have hp := hp1 b n nn ch h
    cases q with
    | true =>
      obtain rfl := h1 rfl
      cases nn with
      | true => exact .singl (.nil0 0 (hi hn))
      | false =>
        cases n with
        | true => exact fz_none hp.1 (hp.2.2 rfl rfl)
        | false => exact fz_none hp.1 (hp.2.1 rfl)
    | false =>
      obtain ⟨rfl, rfl, h3⟩ := h2 rfl
      exact fz_rows hp.1 (hp.2.1 rfl) h3
theorem col_same : ColR (fun a b => b = a) false (fun _ => none) where
  nil := rfl
  app := fun h h' => by rw [h, h']
  self := fun _ _ => rfl
  none := fun h => by cases h
  own := fun _ _ _ _ _ _ _ h => by cases h
  mo := fun h => by cases h
noncomputable def nilS (s : Sym) (a : Option R) : Option R := match s with
  | .nil => a
  | _ => none
theorem nilS_eq {s : Sym} {a : Option R} {r : R} (h : nilS s a = some r) : s = .nil ∧ a = some r := by
  cases s with
  | nil => exact ⟨rfl, h⟩
  | _ => cases h
noncomputable def colV (nl : Bool) (hp : Nat → Option (Bool × Bool × Sym)) (t : Ty) (u : Sym) (K : El t → Option R) : Option R := iff (and u.ok (u.isAgg == aggT t)) (colC nl hp t (flatS u .nil) fun y r => nilS r (K y)) none
theorem colV_ok (hR : ColR Rl nl hp) {t : Ty} {u : Sym} {K : El t → Option R} {r : R} (h : colV nl hp t u K = some r) :
    ∃ y, K y = some r ∧ Rl (cellsT t y) u.cells ∧ u.ok = true ∧ u.isAgg = aggT t := by
  obtain ⟨h0, h⟩ := iff_some h
  simp only [Bool.and_eq_true, beq_iff_eq] at h0
  obtain ⟨y, s', c, h1, h2, h3⟩ := colC_ok hR t _ _ _ h
  obtain ⟨rfl, h1⟩ := nilS_eq h1
  rw [flatS_cells] at h2
  have h2 : u.cells ++ [] = c ++ [] := h2
  rw [List.append_nil, List.append_nil] at h2
  subst h2
  exact ⟨y, h1, h3, h0.1, h0.2⟩
theorem val_of_cells {ι : Ren} {t : Ty} {y : El t} {u : Sym} (h3 : VAs ι (cellsT t y) u.cells) (ho : u.ok = true) (hg : u.isAgg = aggT t) : VA ι (valT t y) u.val := by
  unfold valT
  cases ha : aggT t with
  | true =>
    rw [if_pos rfl, Sym.agg_val (hg.trans ha)]
    exact h3.agg
  | false =>
    rw [if_neg (by decide)]
    rw [cellsT_one ha, Sym.one_val ho (hg.trans ha)] at h3
    exact h3.2 0 _ _ rfl rfl
end
end Go.Abs
namespace Go.Abs
section
variable {R : Type}
noncomputable def rowT : (t : Ty) → El t → Nat → Nat → ((t : Ty) → List (El t) → (Nat → El t → Sym) → Option R) → Option R
  | .arr m t => fun x base z K => iff (and (isZ base) (Nat.beq z (sizeT t))) (K t x.1 fun j y => .d (.arr m t) ⟨x.1.set j y, by rw [List.length_set]; exact x.2⟩) none
  | .pair a b => fun x base z K => iff (Nat.blt base (sizeT a)) (rowT a x.1 base z fun t xs C => K t xs fun j y => .agg (.cons (C j y) (.cons (mkD b x.2) .nil)))
      (rowT b x.2 (Nat.sub base (sizeT a)) z fun t xs C => K t xs fun j y => .agg (.cons (mkD a x.1) (.cons (C j y) .nil)))
  | _ => fun _ _ _ _ => none
noncomputable def rowS : Sym → Nat → Nat → ((t : Ty) → List (El t) → (Nat → El t → Sym) → Option R) → Option R
  | .rw t xs => fun base z K => iff (and (isZ base) (Nat.beq z (sizeT t))) (K t xs fun j y => .rw t (xs.set j y)) none
  | .d t x => rowT t x
  | .agg l => fun base z K => rowS l base z fun t xs C => K t xs fun j y => .agg (C j y)
  | .cons a s => fun base z K => iff (or a.isRw (Nat.blt base a.size)) (rowS a base z fun t xs C => K t xs fun j y => .cons (C j y) s)
      (rowS s (Nat.sub base a.size) z fun t xs C => K t xs fun j y => .cons a (C j y))
  | _ => fun _ _ _ => none
structure RowAt (l : List Value) (base z : Nat) (t : Ty) (xs : List (El t)) (C : Nat → El t → Sym) : Prop where
  wide : z = sizeT t
  win : Win l base (xs.map (cellsT t)).flatten
  put : ∀ j y, j < xs.length → Puts l (base + j * z) (cellsT t y) (C j y).cells
theorem rows_put {t : Ty} : ∀ (xs : List (El t)) (j : Nat) (y : El t), j < xs.length → Puts (xs.map (cellsT t)).flatten (0 + j * sizeT t) (cellsT t y) ((xs.set j y).map (cellsT t)).flatten
  | [], _, _, h => absurd h (Nat.not_lt_zero _)
  | x :: xs, 0, y, _ => by
    rw [Nat.zero_mul]
    show Puts (cellsT t x ++ (xs.map (cellsT t)).flatten) 0 (cellsT t y) (cellsT t y ++ (xs.map (cellsT t)).flatten)
    exact (Puts.whole _ _ (by rw [cellsT_len, cellsT_len])).left
  | x :: xs, j + 1, y, h => by
    show Puts (cellsT t x ++ (xs.map (cellsT t)).flatten) (0 + (j + 1) * sizeT t) (cellsT t y) (cellsT t x ++ ((xs.set j y).map (cellsT t)).flatten)
    exact (rows_put xs j y (by simpa using h)).right (by rw [cellsT_len, Nat.succ_mul]; omega)
theorem RowAt.left {a b : List Value} {base z : Nat} {t : Ty} {xs : List (El t)} {C C' : Nat → El t → Sym} (h : RowAt a base z t xs C) (hC : ∀ j y, (C' j y).cells = (C j y).cells ++ b) : RowAt (a ++ b) base z t xs C' :=
  ⟨h.wide, h.win.left, fun j y hj => by rw [hC]; exact (h.put j y hj).left⟩
theorem RowAt.right {a b : List Value} {base base' z : Nat} {t : Ty} {xs : List (El t)} {C C' : Nat → El t → Sym} (h : RowAt b base z t xs C) (hb : base' = a.length + base) (hC : ∀ j y, (C' j y).cells = a ++ (C j y).cells) : RowAt (a ++ b) base' z t xs C' :=
  ⟨h.wide, by rw [hb]; exact h.win.right, fun j y hj => by rw [hC]; exact (h.put j y hj).right (by omega)⟩
theorem rowT_ok : ∀ (t : Ty) (x : El t) (base z : Nat) (K : (t : Ty) → List (El t) → (Nat → El t → Sym) → Option R) (r : R), rowT t x base z K = some r → ∃ t' xs C, K t' xs C = some r ∧ RowAt (cellsT t x) base z t' xs C := by
  intro t
  induction t with
  | arr m t _ =>
    intro x base z K r h
    obtain ⟨hc, g⟩ := iff_some (show iff (and (isZ base) (Nat.beq z (sizeT t))) (K t x.1 fun j y => .d (.arr m t) ⟨x.1.set j y, by rw [List.length_set]; exact x.2⟩) none = some r from h)
    rw [Bool.and_eq_true, Tr.isZ_iff, beq_iff] at hc
    obtain ⟨rfl, rfl⟩ := hc
    exact ⟨t, x.1, _, g, rfl, Win.all _, fun j y hj => rows_put x.1 j y hj⟩
  | pair a b iha ihb =>
    intro x base z K r h
    rcases iff_way (show iff (Nat.blt base (sizeT a)) (rowT a x.1 base z fun t xs C => K t xs fun j y => .agg (.cons (C j y) (.cons (mkD b x.2) .nil))) (rowT b x.2 (Nat.sub base (sizeT a)) z fun t xs C => K t xs fun j y => .agg (.cons (mkD a x.1) (.cons (C j y) .nil))) = some r from h) with ⟨_, h⟩ | ⟨hc, h⟩
    · obtain ⟨t', xs, C, h1, h2⟩ := iha _ _ _ _ _ h
      refine ⟨_, _, _, h1, h2.left fun j y => ?_⟩
      show (C j y).cells ++ ((mkD b x.2).cells ++ []) = _
      rw [List.append_nil, mkD_cells]; rfl
    · have hc : ¬ base < sizeT a := by rw [← blt_iff, hc]; decide
      obtain ⟨t', xs, C, h1, h2⟩ := ihb _ _ _ _ _ h
      refine ⟨_, _, _, h1, RowAt.right (a := cellsT a x.1) h2 (by rw [cellsT_len]; show base = sizeT a + (base - sizeT a); omega) fun j y => ?_⟩
      show (mkD a x.1).cells ++ ((C j y).cells ++ []) = _
      rw [List.append_nil, mkD_cells]
  | _ => intro x base z K r h; cases (show none = some r from h)
theorem rowS_ok : ∀ (s : Sym) (base z : Nat) (K : (t : Ty) → List (El t) → (Nat → El t → Sym) → Option R) (r : R), rowS s base z K = some r → ∃ t' xs C, K t' xs C = some r ∧ RowAt s.cells base z t' xs C := by
  intro s
  induction s with
  | rw t xs =>
    intro base z K r h
    obtain ⟨hc, g⟩ := iff_some (show iff (and (isZ base) (Nat.beq z (sizeT t))) (K t xs fun j y => .rw t (xs.set j y)) none = some r from h)
    rw [Bool.and_eq_true, Tr.isZ_iff, beq_iff] at hc
    obtain ⟨rfl, rfl⟩ := hc
    exact ⟨t, xs, _, g, rfl, Win.all _, fun j y hj => rows_put xs j y hj⟩
  | d t x => intro base z K r h; exact rowT_ok t x base z K r h
  | agg l ih =>
    intro base z K r h
    obtain ⟨t', xs, C, h1, h2⟩ := ih base z _ r h
    exact ⟨_, _, _, h1, h2.wide, h2.win, h2.put⟩
  | cons a s iha ihs =>
    intro base z K r h
    rcases iff_way (show iff (or a.isRw (Nat.blt base a.size)) (rowS a base z fun t xs C => K t xs fun j y => .cons (C j y) s) (rowS s (Nat.sub base a.size) z fun t xs C => K t xs fun j y => .cons a (C j y)) = some r from h) with ⟨_, h⟩ | ⟨hc, h⟩
    · obtain ⟨t', xs, C, h1, h2⟩ := iha _ _ _ _ h
      exact ⟨_, _, _, h1, h2.left fun j y => rfl⟩
    · have hc : ¬ base < a.size := by
        rw [← blt_iff]; intro hb; rw [hb] at hc; simp at hc
      obtain ⟨t', xs, C, h1, h2⟩ := ihs _ _ _ _ h
      exact ⟨_, _, _, h1, RowAt.right (a := a.cells) h2 (by rw [Sym.size_eq]; show base = a.size + (base - a.size); omega) fun j y => rfl⟩
  | _ => intro base z K r h; cases (show none = some r from h)
variable (T : Tab)
theorem part_got {T : Tab} {t : TypeId} {i : TI} {cs : List Value} {off : Nat} {u : Sym} (ht : ty T t = some i) (h : Got cs off i.size i.agg u) : part T t cs off = some u.val := by
  unfold part
  rw [ht, andThen_some]
  cases ha : i.agg with
  | true =>
    rw [ha] at h
    rw [iff_true, ← h.size, h.win.sub_some]
    show some (Value.agg ⟨u.cells⟩) = _
    rw [Sym.agg_val h.agg]
  | false =>
    rw [ha] at h
    rw [iff_false]
    have := h.win
    rw [Sym.one_val h.ok h.agg] at this
    exact this.one
def liveO : SObj → Option Sym
  | .cel l _ _ _ false => some l
  | _ => none
theorem liveO_eq {o : SObj} {l : Sym} (h : liveO o = some l) : ∃ e org ro, o = .cel l e org ro false := by
  unfold liveO at h
  split at h
  · cases h; exact ⟨_, _, _, rfl⟩
  · cases h
def ownO : SObj → Option (Sym × Option Nat × Nat)
  | .cel l e org false false => some (l, e, org)
  | _ => none
theorem ownO_eq {o : SObj} {l : Sym} {e : Option Nat} {org : Nat} (h : ownO o = some (l, e, org)) : o = .cel l e org false false := by
  unfold ownO at h
  split at h
  · cases h; rfl
  · cases h
def rawO : SObj → Option AObj
  | .raw o => some o
  | _ => none
theorem rawO_eq {o : SObj} {a : AObj} (h : rawO o = some a) : o = .raw a := by
  unfold rawO at h
  split at h
  · cases h; rfl
  · cases h
theorem row_live {s : SSt} {b : Nat} {o : SObj} {l : Sym} (h : s.heap.get b = some o) (hl : liveO o = some l) : s.g.row b = some l.cells := by
  obtain ⟨e, org, ro, rfl⟩ := liveO_eq hl
  unfold ASt.row
  rw [SSt.obj_g, h]
  rfl
def asPt : Sym → Option (Nat × Nat)
  | .v (.pointer (some ⟨b, off, none⟩)) => some (b, off)
  | _ => none
theorem asPt_eq {s : Sym} {b off : Nat} (h : asPt s = some (b, off)) : s = .v (.pointer (some ⟨b, off, none⟩)) := by
  unfold asPt at h
  split at h
  · cases h; rfl
  · cases h
noncomputable def sLoadV (t : TypeId) (i : TI) (_b off : Nat) (s : SSt) (K : Sym → SSt → Option R) (o : SObj) : Option R :=
  match liveO o with
  | some l => getS l off i.size i.agg fun u => K u s
  | none => andThen (andThen (rawO o) fun a => andThen (rowOf a) fun c => part T t c off) fun v => K (symOf v) s
noncomputable def sLoad (t : TypeId) (a : Sym) (s : SSt) (K : Sym → SSt → Option R) : Option R :=
  andThen (ty T t) fun i => match a with
  | .p t' x => getT t' x (nat_lit 0) i.size i.agg fun u => K u s
  | .rp b base z j off => andThen (s.heap.get b) fun o => andThen (liveO o) fun l => rowS l base z fun t' xs _ => andThen (nthQ j xs) fun y => getT t' y off i.size i.agg fun u => K u s
  | a => andThen2 (asPt a) fun b off => andThen (s.heap.get b) (sLoadV T t i b off s K)
theorem sLoad_ok {t : TypeId} {a : Sym} {s : SSt} {K : Sym → SSt → Option R} {r : R} (h : sLoad T t a s K = some r) : ∃ u, loadD T t s.g a.val = some (u.val, s.g) ∧ K u s = some r := by
  obtain ⟨i, hi, h⟩ := andThen_eq h
  have key : ∀ {cs : List Value} {off : Nat} {u : Sym}, Got cs off i.size i.agg u → part T t cs off = some u.val := fun hg => part_got hi hg
  have raw : ∀ a : Sym, (andThen2 (asPt a) fun b off => andThen (s.heap.get b) (sLoadV T t i b off s K)) = some r → ∃ u, loadD T t s.g a.val = some (u.val, s.g) ∧ K u s = some r := by
    intro a h
    obtain ⟨b, off, h1, h0⟩ := andThen2_eq h
    obtain ⟨o, h2, g⟩ := andThen_eq h0
    clear h h0
    obtain rfl := asPt_eq h1
    have hval : ∀ {c : List Value} {v : Value}, s.g.row b = some c → part T t c off = some v → loadD T t s.g (Sym.v (.pointer (some ⟨b, off, none⟩))).val = some (v, s.g) := fun hr hp => by
      show val s.g (loadV T s.g t b off) = _
      unfold loadV
      rw [hr, andThen_some, hp]; rfl
    unfold sLoadV at g
    split at g
    · rename_i l hl
      obtain ⟨u, g1, g2⟩ := getS_ok _ _ _ _ _ _ g
      exact ⟨u, hval (row_live h2 hl) (key g2), g1⟩
    · obtain ⟨v, g1, g2⟩ := andThen_eq g
      obtain ⟨a, g3, g5⟩ := andThen_eq g1
      obtain ⟨c, g4, g6⟩ := andThen_eq g5
      obtain rfl := rawO_eq g3
      refine ⟨symOf v, ?_, g2⟩
      rw [symOf_val]
      refine hval (c := c) ?_ g6
      unfold ASt.row
      rw [SSt.obj_g, h2]
      exact g4
  cases a with
  | p t' x =>
    obtain ⟨u, g1, g2⟩ := getT_ok _ _ _ _ _ _ _ (show getT t' x 0 i.size i.agg (fun u => K u s) = some r from h)
    refine ⟨u, ?_, g1⟩
    show val s.g (part T t (cellsT t' x) 0) = _
    rw [key g2]; rfl
  | rp b base z j off =>
    obtain ⟨o, h1, h⟩ := andThen_eq (show (andThen (s.heap.get b) fun o => andThen (liveO o) fun l => rowS l base z fun t' xs _ => andThen (nthQ j xs) fun y => getT t' y off i.size i.agg fun u => K u s) = some r from h)
    obtain ⟨l, h2, h⟩ := andThen_eq h
    obtain ⟨t', xs, C, h3, h4⟩ := rowS_ok _ _ _ _ _ h
    obtain ⟨y, h5, h6⟩ := andThen_eq h3
    rw [nthQ_eq] at h5
    obtain ⟨u, g1, g2⟩ := getT_ok _ _ _ _ _ _ _ h6
    refine ⟨u, ?_, g1⟩
    have hw : Win l.cells (base + j * z) (cellsT t' y) := by
      have := h4.win.trans (Win.row (fun x _ => cellsT_len t' x) h5)
      rw [← h4.wide] at this
      exact this
    have hg : Got l.cells (base + j * z + off) i.size i.agg u := g2.inside hw rfl
    show val s.g (loadV T s.g t b (Nat.add (Nat.add base (Nat.mul j z)) off)) = _
    unfold loadV
    rw [row_live h1 h2, andThen_some, show part T t l.cells (Nat.add (Nat.add base (Nat.mul j z)) off) = some u.val from key hg]
    rfl
  | _ => exact raw _ h
noncomputable def setO (s : SSt) (b org : Nat) (e : Option Nat) (l : Sym) : SSt := ⟨s.heap.set b (.cel l e org false false), s.next, minN org s.low, s.klow⟩
noncomputable def sStore (t : TypeId) (a x : Sym) (s : SSt) (K : Sym → SSt → Option R) : Option R :=
  andThen (size T t) fun n => iff (and x.ok (Nat.beq x.size n)) (match a with
  | .rp b base z j off => andThen (s.heap.get b) fun o => andThen3 (ownO o) fun l e org => rowS l base z fun t' xs C => iff (Nat.blt j xs.length) (andThen (nthQ j xs) fun y => putT t' y off n x fun u => colV false (fun _ => none) t' u fun y' => K (.v undef) (setO s b org e (C j y'))) none
  | a => andThen2 (asPt a) fun b off => andThen (s.heap.get b) fun o => andThen3 (ownO o) fun l e org => putS l off n x fun l' => K (.v undef) (setO s b org e l')) none
theorem setAt_own {s : SSt} {b off org : Nat} {e : Option Nat} {l l' : Sym} {c : List Value} (h : s.heap.get b = some (.cel l e org false false)) (hp : Puts l.cells off c l'.cells) : s.g.setAt b off c = some (setO s b org e l').g := by
  unfold ASt.setAt
  rw [SSt.obj_g, h]
  show andThen (splice c off l.cells) _ = _
  rw [hp.splice, andThen_some]
  unfold setO SSt.g
  rw [mapT_set (show SObj.g (.cel l' e org false false) = some (.cells l'.cells e org false false) from rfl)]
  rfl
theorem sStore_ok {t : TypeId} {a x : Sym} {s : SSt} {K : Sym → SSt → Option R} {r : R} (h : sStore T t a x s K = some r) : ∃ u s', unit (storeV T t a.val x.val s.g) = some (u.val, s'.g) ∧ K u s' = some r := by
  obtain ⟨n, hn, h⟩ := andThen_eq h
  obtain ⟨hc, h⟩ := iff_some h
  rw [Bool.and_eq_true, beq_iff] at hc
  obtain ⟨hok, hsz⟩ := hc
  have hlen : x.cells.length = n := by rw [Sym.size_eq, hsz]
  have key : ∀ {b off org : Nat} {e : Option Nat} {l l' : Sym}, asPtr a.val = some (b, off) → s.heap.get b = some (.cel l e org false false) → Puts l.cells off x.cells l'.cells → K (.v undef) (setO s b org e l') = some r →
      ∃ u s', unit (storeV T t a.val x.val s.g) = some (u.val, s'.g) ∧ K u s' = some r := fun ha ho hp hk => by
    refine ⟨_, _, ?_, hk⟩
    unfold storeV
    rw [ha, andThen2_some, hn, andThen_some, Sym.flat_ok hok, andThen_some, (beq_iff _ _).2 (by rw [lenQ_eq]; exact hlen), iff_true, setAt_own ho hp]
    rfl
  have raw : ∀ {b off : Nat}, asPt a = some (b, off) → (andThen (s.heap.get b) fun o => andThen3 (ownO o) fun l e org => putS l off n x fun l' => K (.v undef) (setO s b org e l')) = some r →
      ∃ u s', unit (storeV T t a.val x.val s.g) = some (u.val, s'.g) ∧ K u s' = some r := fun {b off} h1 h => by
    obtain ⟨o, h2, h⟩ := andThen_eq h
    obtain ⟨l, e, org, h3, h⟩ := andThen3_eq h
    obtain rfl := ownO_eq h3
    obtain ⟨l', g1, g2⟩ := putS_ok _ _ _ _ _ _ hok hlen h
    exact key (by rw [asPt_eq h1]; rfl) h2 g2 g1
  cases a with
  | rp b base z j off =>
    obtain ⟨o, h2, h⟩ := andThen_eq (show (andThen (s.heap.get b) fun o => andThen3 (ownO o) fun l e org => rowS l base z fun t' xs C => iff (Nat.blt j xs.length) (andThen (nthQ j xs) fun y => putT t' y off n x fun u => colV false (fun _ => none) t' u fun y' => K (.v undef) (setO s b org e (C j y'))) none) = some r from h)
    obtain ⟨l, e, org, h3, h⟩ := andThen3_eq h
    obtain rfl := ownO_eq h3
    obtain ⟨t', xs, C, h4, h5⟩ := rowS_ok _ _ _ _ _ h
    obtain ⟨hj, h4⟩ := iff_some h4
    rw [blt_iff] at hj
    obtain ⟨y, h6, h7⟩ := andThen_eq h4
    rw [nthQ_eq] at h6
    obtain ⟨u, g1, _, g3⟩ := putT_ok _ _ _ _ _ _ _ hok hlen h7
    obtain ⟨y', g4, g5, _, _⟩ := colV_ok col_same g1
    rw [g5] at g3
    refine key (off := base + j * z + off) rfl h2 ?_ g4
    have hw : Win l.cells (base + j * z) (cellsT t' y) := by
      have := h5.win.trans (Win.row (fun x _ => cellsT_len t' x) h6)
      rw [← h5.wide] at this
      exact this
    have e1 := g3.inside hw rfl
    have e2 := (h5.put j y' hj).eq
    rw [e2, cellsT_len, ← cellsT_len t' y]
    exact e1
  | _ =>
    obtain ⟨b, off, h1, h⟩ := andThen2_eq h
    exact raw h1 h
end
end Go.Abs
namespace Go.Abs
theorem opV_pure {T : Tab} {op : Op} {ρ : Operand → Value} (h : mem op = false) : ∃ o, ∀ σ, opV op T ρ σ = val σ o := by
  cases op <;> first | (cases h; done) | skip
  case move x => exact ⟨some (ρ x), fun _ => rfl⟩
  case assign x => exact ⟨some (ρ x), fun _ => rfl⟩
  case pick c a b => exact ⟨andThen (asB (ρ c)) fun t => some (iff t (ρ a) (ρ b)), fun σ => by show doPick c a b ρ σ = _; unfold doPick; cases asB (ρ c) <;> rfl⟩
  case makeInterface t x => exact ⟨andThen (desc T t) fun d => iff (isIface d) none (some (.iface t (ρ x))), fun σ => by
    show doIface T t x ρ σ = _
    unfold doIface
    cases desc T t with
    | none => rfl
    | some d => rw [andThen_some, andThen_some]; cases isIface d <;> rfl⟩
  case makeFunc fn a c => exact ⟨some _, fun _ => rfl⟩
  case binOp op t x y p => exact ⟨iff (iff (needsGuard op) (guarded T t x y (ρ x)) true) (binV (ρ x) T op t (ρ y)) none, fun σ => by
    show doBin T op t x y ρ σ = _
    unfold doBin
    cases iff (needsGuard op) (guarded T t x y (ρ x)) true <;> rfl⟩
  all_goals exact ⟨_, fun _ => rfl⟩
theorem valO_eq {σ : ASt} {o : Option Value} {v : Value} {σ' : ASt} (h : val σ o = some (v, σ')) : o = some v ∧ σ' = σ := by
  obtain ⟨a, h1, h2⟩ := andThen_eq h
  cases h2; exact ⟨h1, rfl⟩
def chainV (l : List Value) : Sym := l.foldr (fun c r => .cons (.v c) r) .nil
theorem chainV_cells (l : List Value) : (chainV l).cells = l := chain_cells l
noncomputable def SSt.new (s : SSt) (l : Sym) (e : Option Nat) (org : Nat) : SSt := ⟨s.heap.set s.next (.cel l e org false false), Nat.succ s.next, s.low, s.klow⟩
theorem SSt.new_g (s : SSt) (l : Sym) (e : Option Nat) (org : Nat) : (s.new l e org).g = s.g.new (.cells l.cells e org false false) := by
  unfold SSt.new SSt.g ASt.new
  rw [mapT_set (show SObj.g (.cel l e org false false) = some (.cells l.cells e org false false) from rfl)]
section
variable {R : Type} (T : Tab)
noncomputable def rawOp (op : Op) (ρ : Operand → Sym) (s : SSt) (K : Sym → SSt → Option R) : Option R :=
  iff (mem op) none (andThen2 (opV op T (fun o => (ρ o).val) ⟨.leaf, 0, 0, 0⟩) fun v _ => K (symOf v) s)
def Says (res : Res) (_s : SSt) (K : Sym → SSt → Option R) (r : R) : Prop := ∃ u s', res = some (u.val, s'.g) ∧ K u s' = some r
variable {T}
theorem rawOp_ok {op : Op} {ρ : Operand → Sym} {s : SSt} {K : Sym → SSt → Option R} {r : R} (h : rawOp T op ρ s K = some r) : Says (opV op T (fun o => (ρ o).val) s.g) s K r := by
  unfold rawOp at h
  rcases iff_way h with ⟨_, h⟩ | ⟨hm, h⟩
  · cases h
  · obtain ⟨v, σ, h1, h2⟩ := andThen2_eq h
    obtain ⟨o, ho⟩ := opV_pure (T := T) (ρ := fun o => (ρ o).val) hm
    rw [ho] at h1
    obtain ⟨rfl, _⟩ := valO_eq h1
    exact ⟨symOf v, s, by rw [ho, symOf_val]; rfl, h2⟩
variable (T)
noncomputable def sVar (l : Sym) (s : SSt) (K : Sym → SSt → Option R) : Option R := K (.v (.pointer (some ⟨s.next, 0, none⟩))) (s.new l none s.next)
theorem sVar_ok {l : Sym} {s : SSt} {K : Sym → SSt → Option R} {r : R} (h : sVar l s K = some r) : Says (newVar s.g l.cells) s K r :=
  ⟨_, _, by unfold newVar ASt.newRow; rw [SSt.new_g]; rfl, h⟩
noncomputable def sFill (place : Nat → Option (Nat × Nat)) : List (Nat × Sym) → Sym → (Sym → Option R) → Option R
  | [], c, K => K c
  | p :: rest, c, K => andThen2 (place p.1) fun off size => iff (and p.2.ok (Nat.beq p.2.size size)) (putS c off size p.2 fun c' => sFill place rest c' K) none
theorem sFill_ok {place : Nat → Option (Nat × Nat)} : ∀ (l : List (Nat × Sym)) (c : Sym) (K : Sym → Option R) (r : R), sFill place l c K = some r → ∃ u, K u = some r ∧ fill place (l.map fun p => (p.1, p.2.val)) c.cells = some u.cells
  | [], c, K, r, h => ⟨c, h, rfl⟩
  | p :: rest, c, K, r, h => by
    obtain ⟨off, size, h1, h⟩ := andThen2_eq (show (andThen2 (place p.1) fun off size => iff (and p.2.ok (Nat.beq p.2.size size)) (putS c off size p.2 fun c' => sFill place rest c' K) none) = some r from h)
    obtain ⟨hc, h⟩ := iff_some h
    rw [Bool.and_eq_true, beq_iff] at hc
    have hlen : p.2.cells.length = size := by rw [Sym.size_eq, hc.2]
    obtain ⟨u, h2, h3⟩ := putS_ok _ _ _ _ _ _ hc.1 hlen h
    obtain ⟨w, h4, h5⟩ := sFill_ok rest u K r h2
    refine ⟨w, h4, ?_⟩
    show (andThen2 (place p.1) fun off size => andThen (flat p.2.val) fun vs => iff (Nat.beq (lenQ vs) size) (andThen (splice vs off c.cells) (fill place (rest.map fun p => (p.1, p.2.val)))) none) = _
    rw [h1, andThen2_some, Sym.flat_ok hc.1, andThen_some, (beq_iff _ _).2 (by rw [lenQ_eq]; exact hlen), iff_true, h3.splice, andThen_some]
    exact h5
noncomputable def sParts (ρ : Operand → Sym) (ps : List (Nat × Operand)) : List (Nat × Sym) := mapQ (fun q => (q.1, ρ q.2)) ps
theorem sParts_val (ρ : Operand → Sym) (ps : List (Nat × Operand)) : (sParts ρ ps).map (fun p => (p.1, p.2.val)) = parts (fun o => (ρ o).val) ps := by
  unfold sParts parts
  rw [mapQ_eq, mapQ_eq, List.map_map]
  rfl
noncomputable def sBuildIn (ps : List (Nat × Sym)) (z : Sym) (s : SSt) (K : Sym → SSt → Option R) : TypeDesc → Option R
  | .struct fields => andThen (places T fields.toList) fun pl => sFill (fun i => nthQ i pl) ps z fun c => K (.agg c) s
  | .array _ elem => andThen (size T elem) fun n => sFill (fun i => some (Nat.mul i n, n)) ps z fun c => K (.agg c) s
  | _ => none
noncomputable def sBuild (t : TypeId) (ps : List (Nat × Sym)) (s : SSt) (K : Sym → SSt → Option R) : Option R :=
  andThen (ty T t) fun i => andThen (zcells i) fun z => sBuildIn T ps (chainV z) s K i.desc
theorem sBuild_ok {t : TypeId} {ps : List (Nat × Sym)} {s : SSt} {K : Sym → SSt → Option R} {r : R} (h : sBuild T t ps s K = some r) : Says (val s.g (build T t (ps.map fun p => (p.1, p.2.val)))) s K r := by
  obtain ⟨i, h1, h⟩ := andThen_eq h
  obtain ⟨z, h2, h⟩ := andThen_eq h
  unfold build
  rw [h1, andThen_some, h2, andThen_some]
  have key : ∀ {place : Nat → Option (Nat × Nat)}, sFill place ps (chainV z) (fun c => K (.agg c) s) = some r → Says (val s.g (aggO (fill place (ps.map fun p => (p.1, p.2.val)) z))) s K r := fun hf => by
    obtain ⟨u, g1, g2⟩ := sFill_ok _ _ _ _ hf
    rw [chainV_cells] at g2
    rw [g2]
    exact ⟨.agg u, s, rfl, g1⟩
  cases hd : i.desc <;> rw [hd] at h <;> first | (cases h; done) | skip
  case struct fields =>
    obtain ⟨pl, h3, h⟩ := andThen_eq (show (andThen (places T fields.toList) fun pl => sFill (fun i => nthQ i pl) ps (chainV z) fun c => K (.agg c) s) = some r from h)
    show Says (val s.g (andThen (places T fields.toList) fun ps' => _)) s K r
    rw [h3, andThen_some]
    exact key h
  case array n elem =>
    obtain ⟨m, h3, h⟩ := andThen_eq (show (andThen (size T elem) fun n => sFill (fun i => some (Nat.mul i n, n)) ps (chainV z) fun c => K (.agg c) s) = some r from h)
    show Says (val s.g (andThen (size T elem) fun ps' => _)) s K r
    rw [h3, andThen_some]
    exact key h
noncomputable def sBuildSl (t : TypeId) (len : Nat) (ps : List (Nat × Sym)) (s : SSt) (K : Sym → SSt → Option R) : Option R :=
  andThen (desc T t) fun d => andThen (sliceElem d) fun elem => andThen (ty T elem) fun i => andThen (zcells i) fun z =>
    iff (Nat.ble (Nat.mul len i.size) (nat_lit 1000000))
      (sFill (fun j => some (Nat.mul j i.size, i.size)) ps (chainV (zeros z len)) fun c => K (.v (.slice (some ⟨s.next, 0, none⟩) len len)) (s.new c none s.next)) none
theorem sBuildSl_ok {t : TypeId} {len : Nat} {ps : List (Nat × Sym)} {s : SSt} {K : Sym → SSt → Option R} {r : R} (h : sBuildSl T t len ps s K = some r) : Says (buildSlice T t len (ps.map fun p => (p.1, p.2.val)) s.g) s K r := by
  obtain ⟨d, h1, h⟩ := andThen_eq h
  obtain ⟨e, h2, h⟩ := andThen_eq h
  obtain ⟨i, h3, h⟩ := andThen_eq h
  obtain ⟨z, h4, h⟩ := andThen_eq h
  obtain ⟨h5, h⟩ := iff_some h
  obtain ⟨u, g1, g2⟩ := sFill_ok _ _ _ _ h
  rw [chainV_cells] at g2
  refine ⟨_, _, ?_, g1⟩
  unfold buildSlice
  rw [h1, andThen_some, h2, andThen_some, h3, andThen_some, h4, andThen_some, h5, iff_true, g2, andThen_some, SSt.new_g]
  rfl
noncomputable def sField (t : TypeId) (x : Sym) (f : Nat) (s : SSt) (K : Sym → SSt → Option R) : Option R :=
  iff x.isAgg (andThen (fieldOf T t f) fun g => andThen (ty T g.type) fun i => getS x g.offset i.size i.agg fun u => K u s) none
theorem sField_ok {t : TypeId} {x : Sym} {f : Nat} {s : SSt} {K : Sym → SSt → Option R} {r : R} (h : sField T t x f s K = some r) : Says (val s.g (fieldV T t x.val f)) s K r := by
  obtain ⟨h0, h⟩ := iff_some h
  obtain ⟨g, h1, h⟩ := andThen_eq h
  obtain ⟨i, h2, h⟩ := andThen_eq h
  obtain ⟨u, g1, g2⟩ := getS_ok _ _ _ _ _ _ h
  refine ⟨u, s, ?_, g1⟩
  unfold fieldV
  rw [Sym.agg_val h0]
  show val s.g (andThen (fieldOf T t f) fun g => part T g.type x.cells g.offset) = _
  rw [h1, andThen_some, part_got h2 g2]; rfl
noncomputable def sFieldAddr (op : Op) (ρ : Operand → Sym) (t : TypeId) (x : Sym) (f : Nat) (s : SSt) (K : Sym → SSt → Option R) : Option R :=
  match x with
  | .p t' y => andThen (fieldOf T t f) fun g => andThen (size T g.type) fun z => iff (isZ z) none (iff (Nat.ble (Nat.add g.offset z) (sizeT t')) (dropT t' y g.offset fun t'' w => K (.p t'' w) s) none)
  | .rp b base zz j off => andThen (fieldOf T t f) fun g => andThen (size T g.type) fun z => iff (isZ z) none (K (.rp b base zz j (Nat.add off g.offset)) s)
  | _ => rawOp T op ρ s K
theorem sFieldAddr_ok {op : Op} {ρ : Operand → Sym} {t : TypeId} {xo : Operand} {f : Nat} {s : SSt} {K : Sym → SSt → Option R} {r : R} (ho : op = .fieldAddr t xo f) (h : sFieldAddr T op ρ t (ρ xo) f s K = some r) : Says (opV op T (fun o => (ρ o).val) s.g) s K r := by
  unfold sFieldAddr at h
  split at h
  · rename_i t' y hx
    subst ho
    obtain ⟨g, h1, h⟩ := andThen_eq h
    obtain ⟨z, h2, h⟩ := andThen_eq h
    rcases iff_way h with ⟨_, h⟩ | ⟨hz, h⟩
    · cases h
    obtain ⟨hb, h⟩ := iff_some h
    obtain ⟨t'', w, g1, _, g3⟩ := dropT_ok _ _ _ _ _ h
    refine ⟨_, s, ?_, g1⟩
    show val s.g (fieldAddrV T t (ρ xo).val f) = _
    rw [hx]
    show val s.g (andThen (fieldOf T t f) fun g => andThen (size T g.type) fun z => iff (isZ z) none (datAt g.offset z (cellsT t' y))) = _
    rw [h1, andThen_some, h2, andThen_some, hz, iff_false]
    unfold datAt
    rw [lenQ_eq, cellsT_len, hb, iff_true, dropQ_eq, ← g3]
    rfl
  · rename_i b base zz j off hx
    subst ho
    obtain ⟨g, h1, h⟩ := andThen_eq h
    obtain ⟨z, h2, h⟩ := andThen_eq h
    rcases iff_way h with ⟨_, h⟩ | ⟨hz, h⟩
    · cases h
    refine ⟨_, s, ?_, h⟩
    show val s.g (fieldAddrV T t (ρ xo).val f) = _
    rw [hx]
    show val s.g (andThen (fieldOf T t f) fun g => andThen (size T g.type) fun z => iff (isZ z) none (ptrAt b (Nat.add (Nat.add (Nat.add base (Nat.mul j zz)) off) g.offset))) = _
    rw [h1, andThen_some, h2, andThen_some, hz, iff_false]
    show some (Value.pointer (some ⟨b, Nat.add (Nat.add (Nat.add base (Nat.mul j zz)) off) g.offset, none⟩), s.g) = some (Value.pointer (some ⟨b, Nat.add (Nat.add base (Nat.mul j zz)) (Nat.add off g.offset), none⟩), s.g)
    rw [show Nat.add (Nat.add (Nat.add base (Nat.mul j zz)) off) g.offset = Nat.add (Nat.add base (Nat.mul j zz)) (Nat.add off g.offset) from Nat.add_assoc _ _ _]
  · exact rawOp_ok h
noncomputable def isRows (s : SSt) (b off z : Nat) : Bool := match s.heap.get b with
  | some o => (match liveO o with
    | some l => (rowS l off z fun _ _ _ => some ()).isSome
    | none => false)
  | none => false
noncomputable def sPtr (b off z j : Nat) (s : SSt) (K : Sym → SSt → Option R) : Option R :=
  iff (isRows s b off z) (K (.rp b off z j 0) s) (K (.v (.pointer (some ⟨b, Nat.add off (Nat.mul j z), none⟩))) s)
theorem sPtr_ok {b off z j : Nat} {s : SSt} {K : Sym → SSt → Option R} {r : R} (h : sPtr b off z j s K = some r) : Says (val s.g (ptrAt b (Nat.add off (Nat.mul j z)))) s K r := by
  rcases iff_way h with ⟨_, h⟩ | ⟨_, h⟩
  · exact ⟨_, _, rfl, h⟩
  · exact ⟨_, _, rfl, h⟩
noncomputable def asN (x : Sym) : Option (IntKind × Int) := andThen (asV x) asI
theorem asN_eq {x : Sym} {k : IntKind} {n : Int} (h : asN x = some (k, n)) : x = .v (.int k n) := by
  obtain ⟨v, h1, h2⟩ := andThen_eq h
  rw [asV_eq h1]
  cases v <;> first | (cases h2; done) | (cases h2; rfl)
theorem tupElse_not {α : Type} {x : Value} {f : List Value → Option α} {d : Option α} (h : ∀ vs, x ≠ .tuple vs) : tupElse x f d = d := by
  cases x <;> first | rfl | exact absurd rfl (h _)
def asDS : Sym → Option ((t : Ty) × List (El t))
  | .d (.slice t) l => some ⟨t, l⟩
  | _ => none
theorem asDS_eq {x : Sym} {p : (t : Ty) × List (El t)} (h : asDS x = some p) : x = .d (.slice p.1) p.2 := by
  unfold asDS at h
  split at h
  · cases h; rfl
  · cases h
def asDA : Sym → Option ((t : Ty) × List (El t))
  | .d (.arr _ t) y => some ⟨t, y.1⟩
  | _ => none
theorem asDA_eq {x : Sym} {p : (t : Ty) × List (El t)} (h : asDA x = some p) : x.cells = (p.2.map (cellsT p.1)).flatten := by
  unfold asDA at h
  split at h
  · cases h; rfl
  · cases h
def asPartS : Sym → Option (Nat × Nat × Nat × Nat)
  | .sl b z lo len _ _ => some (b, z, lo, len)
  | _ => none
theorem asPartS_eq {x : Sym} {b z lo len : Nat} (h : asPartS x = some (b, z, lo, len)) : ∃ cap sp, x = .sl b z lo len cap sp := by
  cases x <;> first | (cases h; done) | (cases h; exact ⟨_, _, rfl⟩)
noncomputable def sIdxSl (e : TypeId) (n : Int) (x : Sym) (s : SSt) (K : Sym → SSt → Option R) : Option R :=
  orE (asDS x) (fun p => andThen (size T e) fun z => iff (Nat.beq z (sizeT p.1)) (andThen (inRange n p.2.length) fun j => andThen (nthQ j p.2) fun y => K (.p p.1 y) s) none) <|
  orE (asPartS x) (fun q => andThen (size T e) fun z => iff (Nat.beq q.2.1 z) (andThen (inRange n q.2.2.2) fun j => K (.rp q.1 0 q.2.1 (Nat.add q.2.2.1 j) 0) s) none) <|
  andThen3 (asSl x.val) fun a len _ => andThen a fun a => andThen (size T e) fun z => andThen (inRange n len) fun j => sPtr a.block a.off z j s K
noncomputable def sIdxArr (len : Nat) (e : TypeId) (n : Int) (x : Sym) (s : SSt) (K : Sym → SSt → Option R) : Option R :=
  andThen2 (asPtr x.val) fun k off => andThen (size T e) fun z => andThen (inRange n len) fun j => sPtr k off z j s K
noncomputable def sIdxD (n : Int) (x : Sym) (s : SSt) (K : Sym → SSt → Option R) : TypeDesc → Option R
  | .slice e => sIdxSl T e n x s K
  | .array len e => sIdxArr T len e n x s K
  | _ => none
noncomputable def sIndexAddr (t : TypeId) (x i : Sym) (s : SSt) (K : Sym → SSt → Option R) : Option R :=
  andThen2 (asN i) fun _ n => andThen (desc T t) fun d => sIdxD T n x s K d
theorem asSl_tup {x : Value} {p} (h : asSl x = some p) : ∀ vs, x ≠ .tuple vs := fun vs hx => by subst hx; cases h
theorem asPtr_tup {x : Value} {p} (h : asPtr x = some p) : ∀ vs, x ≠ .tuple vs := fun vs hx => by subst hx; cases h
theorem sIndexAddr_ok {t : TypeId} {x i : Sym} {s : SSt} {K : Sym → SSt → Option R} {r : R} (h : sIndexAddr T t x i s K = some r) : Says (val s.g (indexAddrV T t x.val i.val)) s K r := by
  obtain ⟨k, n, h1, h⟩ := andThen2_eq h
  obtain ⟨d, h2, h⟩ := andThen_eq h
  obtain rfl := asN_eq h1
  unfold indexAddrV
  show Says (val s.g (andThen2 (some (k, n)) fun _ i => andThen (desc T t) fun d => indexAddrD d T x.val i)) s K r
  rw [andThen2_some, h2, andThen_some]
  cases d <;> first | (cases h; done) | skip
  case array len e =>
    obtain ⟨b, off, g1, h⟩ := andThen2_eq (show (andThen2 (asPtr x.val) fun k off => andThen (size T e) fun z => andThen (inRange n len) fun j => sPtr k off z j s K) = some r from h)
    obtain ⟨z, g2, h⟩ := andThen_eq h
    obtain ⟨j, g3, h⟩ := andThen_eq h
    show Says (val s.g (indexAddrArr T len e x.val n)) s K r
    unfold indexAddrArr
    rw [tupElse_not (asPtr_tup g1), g1, andThen2_some, g2, andThen_some, g3, andThen_some]
    exact sPtr_ok h
  case slice e =>
    have h : sIdxSl T e n x s K = some r := h
    show Says (val s.g (indexAddrSl T e x.val n)) s K r
    clear h1 h2
    rcases orE_eq h with ⟨⟨t', l⟩, hx, h⟩ | ⟨_, h⟩
    · rw [asDS_eq hx]
      obtain ⟨z, g2, h⟩ := andThen_eq h
      obtain ⟨hz, h⟩ := iff_some h
      rw [beq_iff] at hz
      obtain ⟨j, g3, h⟩ := andThen_eq h
      obtain ⟨y, g4, h⟩ := andThen_eq h
      have g4 : l[j]? = some y := by rw [← nthQ_eq]; exact g4
      refine ⟨_, s, ?_, h⟩
      show val s.g (andThen (size T e) fun z => andThen (inRange n (lenQ (aggs (l.map (cellsT t'))))) fun j => rowAt z (aggs (l.map (cellsT t'))) j) = _
      rw [g2, andThen_some, lenQ_eq, aggs_length, List.length_map, g3, andThen_some]
      unfold rowAt
      have : nthQ j (aggs (l.map (cellsT t'))) = some (.agg ⟨cellsT t' y⟩) := by
        rw [nthQ_eq]; unfold aggs; rw [List.map_map, List.getElem?_map, g4]; rfl
      rw [this, andThen_some]
      show val s.g (iff (Nat.beq (lenQ (cellsT t' y)) z) (some (datP (cellsT t' y))) none) = _
      rw [lenQ_eq, cellsT_len, (beq_iff _ _).2 hz.symm]
      rfl
    rcases orE_eq h with ⟨⟨b, zz, lo, len⟩, hx, h⟩ | ⟨_, h⟩
    · obtain ⟨cap, sp, hx⟩ := asPartS_eq hx
      rw [hx]
      obtain ⟨z, g2, h⟩ := andThen_eq h
      obtain ⟨hz, h⟩ := iff_some h
      have hz : zz = z := (beq_iff _ _).1 hz
      obtain ⟨j, g3, h⟩ := andThen_eq h
      refine ⟨_, s, ?_, h⟩
      show val s.g (andThen (size T e) fun z => andThen (inRange n len) fun j => ptrAt b (Nat.add (Nat.mul lo zz) (Nat.mul j z))) = _
      rw [g2, andThen_some, g3, andThen_some, ← hz]
      show some (Value.pointer (some ⟨b, Nat.add (Nat.mul lo zz) (Nat.mul j zz), none⟩), s.g) = some (Value.pointer (some ⟨b, Nat.add 0 (Nat.mul (Nat.add lo j) zz), none⟩), s.g)
      rw [show Nat.add (Nat.mul lo zz) (Nat.mul j zz) = Nat.add 0 (Nat.mul (Nat.add lo j) zz) from by
        show lo * zz + j * zz = 0 + (lo + j) * zz
        rw [Nat.zero_add, Nat.add_mul]]
    · obtain ⟨a', len, cap, g1, h⟩ := andThen3_eq h
      obtain ⟨a, ha, h⟩ := andThen_eq h
      obtain ⟨z, g2, h⟩ := andThen_eq h
      obtain ⟨j, g3, h⟩ := andThen_eq h
      unfold indexAddrSl
      rw [ha] at g1
      rw [tupElse_not (asSl_tup g1), g1]
      show Says (val s.g (andThen (size T e) fun z => andThen (inRange n len) fun j => ptrAt a.block (Nat.add a.off (Nat.mul j z)))) s K r
      rw [g2, andThen_some, g3, andThen_some]
      exact sPtr_ok h
noncomputable def sIndexArr (len : Nat) (e : TypeId) (n : Int) (x : Sym) (s : SSt) (K : Sym → SSt → Option R) : Option R :=
  iff x.isAgg (andThen (ty T e) fun ie => andThen (inRange n len) fun j =>
    orE (asDA x) (fun p => iff (and (Nat.beq (sizeT p.1) ie.size) (aggT p.1 == ie.agg)) (andThen (nthQ j p.2) fun w => K (mkD p.1 w) s) none)
      (getS x (Nat.mul j ie.size) ie.size ie.agg fun u => K u s)) none
noncomputable def sIndexD (n : Int) (x : Sym) (s : SSt) (K : Sym → SSt → Option R) : TypeDesc → Option R
  | .array len e => sIndexArr T len e n x s K
  | .string => andThen (andThen (asV x) asS) fun l => andThen (inRange n (lenQ l)) fun j => andThen (nthQ j l) fun b => K (.v (.int .u8 (Int.ofNat b.toNat))) s
  | _ => none
noncomputable def sIndex (t : TypeId) (x i : Sym) (s : SSt) (K : Sym → SSt → Option R) : Option R :=
  andThen2 (asN i) fun _ n => andThen (desc T t) fun d => sIndexD T n x s K d
theorem sIndex_ok {t : TypeId} {x i : Sym} {s : SSt} {K : Sym → SSt → Option R} {r : R} (h : sIndex T t x i s K = some r) : Says (val s.g (indexV T t x.val i.val)) s K r := by
  obtain ⟨k, n, h1, h⟩ := andThen2_eq h
  obtain ⟨d, h2, h⟩ := andThen_eq h
  obtain rfl := asN_eq h1
  unfold indexV
  show Says (val s.g (andThen2 (some (k, n)) fun _ i => andThen (desc T t) fun d => indexD d T x.val i)) s K r
  rw [andThen2_some, h2, andThen_some]
  cases d <;> first | (cases h; done) | skip
  case array len e =>
    obtain ⟨h0, h⟩ := iff_some (show sIndexArr T len e n x s K = some r from h)
    obtain ⟨ie, g2, h⟩ := andThen_eq h
    obtain ⟨j, g3, h⟩ := andThen_eq h
    show Says (val s.g (indexArr T len e x.val n)) s K r
    unfold indexArr
    have hsz : size T e = some ie.size := by unfold size; rw [g2]; rfl
    rw [Sym.agg_val h0]
    show Says (val s.g (andThen (size T e) fun z => andThen (inRange n len) fun j => part T e x.cells (Nat.mul j z))) s K r
    rw [hsz, andThen_some, g3, andThen_some]
    rcases orE_eq h with ⟨⟨t', l⟩, hx, h⟩ | ⟨_, h⟩
    · rw [asDA_eq hx]
      obtain ⟨hc, h⟩ := iff_some h
      simp only [Bool.and_eq_true, beq_iff, beq_iff_eq] at hc
      obtain ⟨w, g4, h⟩ := andThen_eq h
      have g4 : l[j]? = some w := by rw [← nthQ_eq]; exact g4
      refine ⟨_, s, ?_, h⟩
      have hg : Got (l.map (cellsT t')).flatten (Nat.mul j ie.size) ie.size ie.agg (mkD t' w) := ⟨mkD_ok _ _, by rw [mkD_agg, hc.2], by rw [mkD_cells, cellsT_len, hc.1], by
        rw [mkD_cells, ← hc.1]
        exact Win.row (fun x _ => cellsT_len t' x) g4⟩
      rw [part_got g2 hg]; rfl
    · obtain ⟨u, g4, g5⟩ := getS_ok _ _ _ _ _ _ h
      exact ⟨u, s, by rw [part_got g2 g5]; rfl, g4⟩
  case string =>
    obtain ⟨l, g1, h⟩ := andThen_eq (show (andThen (andThen (asV x) asS) fun l => andThen (inRange n (lenQ l)) fun j => andThen (nthQ j l) fun b => K (.v (.int .u8 (Int.ofNat b.toNat))) s) = some r from h)
    obtain ⟨v, g0, g1⟩ := andThen_eq g1
    rw [asV_eq g0]
    obtain ⟨j, g3, h⟩ := andThen_eq h
    obtain ⟨b, g4, h⟩ := andThen_eq h
    refine ⟨_, s, ?_, h⟩
    show val s.g (andThen (asS v) fun s => andThen (inRange n (lenQ s)) fun j => andThen (nthQ j s) fun b => some (.int .u8 (Int.ofNat b.toNat))) = _
    rw [g1, andThen_some, g3, andThen_some, g4]; rfl
end
end Go.Abs
namespace Go.Abs
def eqLs {α : Type} (f : α → α → Bool) : List α → List α → Bool
  | [], [] => true
  | x :: a, y :: b => and (f x y) (eqLs f a b)
  | _, _ => false
def eqBl (a b : Bool) : Bool := a == b
noncomputable def eqE : (t : Ty) → El t → El t → Bool
  | .bool => fun a b => eqBl a b
  | .int _ => fun a b => eqQ a b
  | .str => fun a b => sameBytes a b
  | .unit => fun _ _ => true
  | .pair a b => fun x y => and (eqE a x.1 y.1) (eqE b x.2 y.2)
  | .arr _ t => fun x y => eqLs (eqE t) x.1 y.1
  | .slice _ => fun _ _ => false
def flatTy : Ty → Bool
  | .slice _ => false
  | .pair a b => and (flatTy a) (flatTy b)
  | .arr _ t => flatTy t
  | _ => true
theorem eqLs_iff {α : Type} {f : α → α → Bool} (hf : ∀ x y, f x y = true ↔ x = y) : ∀ (a b : List α), eqLs f a b = true ↔ a = b
  | [], [] => by simp [eqLs]
  | x :: a, y :: b => by simp [eqLs, hf, eqLs_iff hf a b]
  | [], _ :: _ => by simp [eqLs]
  | _ :: _, [] => by simp [eqLs]
theorem eqE_iff : ∀ {t : Ty}, flatTy t = true → ∀ x y : El t, eqE t x y = true ↔ x = y := by
  intro t
  induction t with
  | bool =>
    intro _ x y
    exact (show ∀ a b : Bool, eqBl a b = true ↔ a = b from fun a b => beq_iff_eq) x y
  | int k =>
    intro _ x y
    exact (show ∀ a b : Int, eqQ a b = true ↔ a = b from fun a b => by rw [eqQ_eq]; exact beq_iff_eq) x y
  | str =>
    intro _ x y
    exact (show ∀ a b : List UInt8, sameBytes a b = true ↔ a = b from fun a b => beq_iff_eq) x y
  | unit => intro _ x y; exact ⟨fun _ => rfl, fun _ => rfl⟩
  | pair a b iha ihb =>
    intro h x y
    have h : (flatTy a && flatTy b) = true := h
    rw [Bool.and_eq_true] at h
    show (eqE a x.1 y.1 && eqE b x.2 y.2) = true ↔ x = y
    rw [Bool.and_eq_true, iha h.1, ihb h.2]
    exact ⟨fun h => Prod.ext h.1 h.2, fun h => by rw [h]; exact ⟨rfl, rfl⟩⟩
  | arr n t ih =>
    intro h x y
    show eqLs (eqE t) x.1 y.1 = true ↔ x = y
    rw [eqLs_iff (ih h)]
    exact ⟨fun h => Subtype.ext h, fun h => by rw [h]⟩
  | slice t => intro h; cases h
theorem eqE_self {t : Ty} (h : flatTy t = true) (x : El t) : eqE t x x = true := (eqE_iff h x x).2 rfl
noncomputable def tyFs (f : TypeId → Option Ty) : List Field → Nat → Option Ty
  | [], _ => some .unit
  | g :: fs, off => iff (or (g.name == "_") (not (Nat.beq g.offset off))) none (andThen (f g.type) fun t => andThen (tyFs f fs (Nat.add off (sizeT t))) fun r => some (.pair t r))
noncomputable def tyD (held : Bool) (f : TypeId → Option Ty) : TypeDesc → Option Ty
  | .bool => some .bool
  | .int k => some (.int k)
  | .string => some .str
  | .array n e => andThen (f e) fun t => some (.arr n t)
  | .struct fs => iff held none (tyFs f fs.toList 0)
  | _ => none
noncomputable def tyOf (T : Tab) : Nat → TypeId → Option Ty
  | 0, _ => none
  | d + 1, t => andThen (ty T t) fun i => andThen (tyD i.held (tyOf T d) i.desc) fun u => iff (and (Nat.beq i.size (sizeT u)) (i.agg == aggT u)) (some u) none
section
variable {T : Tab}
theorem part_val {e : TypeId} {i : TI} {t : Ty} (hi : ty T e = some i) (hs : i.size = sizeT t) (ha : i.agg = aggT t) {cs : List Value} {off : Nat} {z : El t} (hw : Win cs off (cellsT t z)) : part T e cs off = some (valT t z) :=
  part_got (u := .d t z) hi ⟨rfl, ha.symm, by show (cellsT t z).length = _; rw [cellsT_len, hs], hw⟩
theorem Win.split {l a b : List Value} {off : Nat} (h : Win l off (a ++ b)) : Win l off a ∧ Win l (off + a.length) b := by
  have h1 := h.trans ((Win.all a).left (b := b))
  have h2 := h.trans ((Win.all b).right (a := a))
  rw [Nat.add_zero] at h1 h2
  exact ⟨h1, h2⟩
def EqAt (T : Tab) (g : TypeId → Value → Value → Option Bool) (u : TypeId) (t : Ty) : Prop :=
  (∃ i, ty T u = some i ∧ i.size = sizeT t ∧ i.agg = aggT t) ∧ ∀ x y : El t, g u (valT t x) (valT t y) = some (eqE t x y)
theorem eqPart_ok {g : TypeId → Value → Value → Option Bool} {u : TypeId} {t : Ty} (h : EqAt T g u t) {xs ys : List Value} {off : Nat} {x y : El t} (hx : Win xs off (cellsT t x)) (hy : Win ys off (cellsT t y)) : eqPart T g xs ys u off = some (eqE t x y) := by
  obtain ⟨⟨i, h1, h2, h3⟩, h4⟩ := h
  unfold eqPart
  rw [part_val h1 h2 h3 hx, part_val h1 h2 h3 hy]
  exact h4 x y
theorem eqFields_ok {f : TypeId → Option Ty} {g : TypeId → Value → Value → Option Bool} (hf : ∀ u t, f u = some t → EqAt T g u t) : ∀ (fs : List Field) (off : Nat) (t : Ty), tyFs f fs off = some t → ∀ (x y : El t) (xs ys : List Value), Win xs off (cellsT t x) → Win ys off (cellsT t y) →
    aggT t = true ∧ eqFields (eqPart T g xs ys) fs = some (eqE t x y)
  | [], off, t, h, x, y, xs, ys, hx, hy => by
    cases (show some Ty.unit = some t from h)
    exact ⟨rfl, rfl⟩
  | q :: fs, off, t, h, x, y, xs, ys, hx, hy => by
    rcases iff_way (show iff (or (q.name == "_") (not (Nat.beq q.offset off))) none (andThen (f q.type) fun t => andThen (tyFs f fs (Nat.add off (sizeT t))) fun r => some (.pair t r)) = some t from h) with ⟨_, h1⟩ | ⟨h0, h1⟩
    · cases h1
    obtain ⟨t1, h2, h3⟩ := andThen_eq h1
    obtain ⟨r, h4, h5⟩ := andThen_eq h3
    clear h h1 h3
    cases h5
    simp only [Bool.or_eq_false_iff] at h0
    have hoff : q.offset = off := by
      have := h0.2
      rw [Bool.not_eq_false', beq_iff] at this
      exact this
    rw [cellsT_pair] at hx hy
    obtain ⟨hx1, hx2⟩ := hx.split
    obtain ⟨hy1, hy2⟩ := hy.split
    rw [cellsT_len] at hx2 hy2
    obtain ⟨_, ih⟩ := eqFields_ok hf fs _ r h4 x.2 y.2 xs ys hx2 hy2
    refine ⟨rfl, ?_⟩
    show iff (q.name == "_") (eqFields (eqPart T g xs ys) fs) (andThen (eqPart T g xs ys q.type q.offset) fun b => iff b (eqFields (eqPart T g xs ys) fs) (some false)) = some (and (eqE t1 x.1 y.1) (eqE r x.2 y.2))
    rw [h0.1, iff_false, hoff, eqPart_ok (hf _ _ h2) hx1 hy1, andThen_some, ih]
    cases eqE t1 x.1 y.1 <;> rfl
theorem eqInts_ok (k : IntKind) : ∀ (l l' : List Int) (n : Nat), l.length = n → l'.length = n → eqInts n (l.map (cellsT (.int k))).flatten (l'.map (cellsT (.int k))).flatten = some (eqLs eqQ l l')
  | [], [], n, h, _ => by subst h; rfl
  | [], _ :: _, n, h, h' => by subst h; simp at h'
  | _ :: _, [], n, h, h' => by subst h; simp at h'
  | x :: l, y :: l', n, h, h' => by
    subst h
    have ih := eqInts_ok k l l' l.length rfl (by simpa using h')
    show iff (sameKind k k) (iff (eqQ x y) (eqInts l.length (l.map (cellsT (.int k))).flatten (l'.map (cellsT (.int k))).flatten) (some false)) none = some (and (eqQ x y) (eqLs eqQ l l'))
    rw [(sameKind_iff k k).2 rfl, iff_true, ih]
    cases eqQ x y <;> rfl
theorem eqArr_ok {g : TypeId → Value → Value → Option Bool} {u : TypeId} {t : Ty} (h : EqAt T g u t) : ∀ (l l' : List (El t)) (n : Nat), l.length = n → l'.length = n →
    eqArr (fun l r => eqPart T g l r u 0) (sizeT t) n (l.map (cellsT t)).flatten (l'.map (cellsT t)).flatten = some (eqLs (eqE t) l l')
  | [], [], n, h1, _ => by subst h1; rfl
  | [], _ :: _, n, h1, h' => by subst h1; simp at h'
  | _ :: _, [], n, h1, h' => by subst h1; simp at h'
  | x :: l, y :: l', n, h1, h' => by
    subst h1
    have ih := eqArr_ok h l l' l.length rfl (by simpa using h')
    have hd : ∀ (z : El t) (m : List Value), dropQ (sizeT t) (cellsT t z ++ m) = m := fun z m => by
      rw [dropQ_eq, ← cellsT_len t z, List.drop_left]
    show andThen (eqPart T g (cellsT t x ++ (l.map (cellsT t)).flatten) (cellsT t y ++ (l'.map (cellsT t)).flatten) u 0) (fun b => iff b (eqArr (fun l r => eqPart T g l r u 0) (sizeT t) l.length (dropQ (sizeT t) (cellsT t x ++ (l.map (cellsT t)).flatten)) (dropQ (sizeT t) (cellsT t y ++ (l'.map (cellsT t)).flatten))) (some false)) = some (and (eqE t x y) (eqLs (eqE t) l l'))
    rw [eqPart_ok h ((Win.all _).left) ((Win.all _).left), andThen_some, hd, hd, ih]
    cases eqE t x y <;> rfl
theorem eqV_ok : ∀ (d : Nat) (u : TypeId) (t : Ty), tyOf T d u = some t → EqAt T (eqV T d) u t
  | 0, u, t, h => by cases (show none = some t from h)
  | d + 1, u, t, h => by
    obtain ⟨i, h1, h2⟩ := andThen_eq (show andThen (ty T u) (fun i => andThen (tyD i.held (tyOf T d) i.desc) fun u => iff (and (Nat.beq i.size (sizeT u)) (i.agg == aggT u)) (some u) none) = some t from h)
    obtain ⟨t0, h3, h4⟩ := andThen_eq h2
    obtain ⟨h5, h6⟩ := iff_some h4
    clear h h2 h4
    cases h6
    rw [Bool.and_eq_true, beq_iff, beq_iff_eq] at h5
    refine ⟨⟨i, h1, h5.1, h5.2⟩, fun x y => ?_⟩
    show (andThen (ty T u) fun i => eqD i.desc T (eqV T d) i.held (valT t x) (valT t y)) = _
    rw [h1, andThen_some]
    have ih := eqV_ok d
    cases hd : i.desc <;> rw [hd] at h3 <;> first | (cases h3; done) | skip
    case bool => cases h3; rfl
    case int k =>
      cases h3
      show eqN (.int k x) (.int k y) = some (eqQ x y)
      show iff (sameKind k k) (some (eqQ x y)) none = _
      rw [(sameKind_iff k k).2 rfl]; rfl
    case string => cases h3; rfl
    case array n e =>
      obtain ⟨t1, h7, h8⟩ := andThen_eq (show andThen (tyOf T d e) (fun t => some (.arr n t)) = some t from h3)
      cases h8
      have he := ih e t1 h7
      obtain ⟨⟨j, hj, hjs, hja⟩, _⟩ := he
      show eqArray T (eqV T d) n e (.agg ⟨(x.1.map (cellsT t1)).flatten⟩) (.agg ⟨(y.1.map (cellsT t1)).flatten⟩) = some (eqLs (eqE t1) x.1 y.1)
      have hsz : size T e = some (sizeT t1) := by
        unfold size
        rw [hj, andThen_some, hjs]
      show (andThen (size T e) fun z => iff (and (isIntT T e) (Nat.beq z 1)) (eqInts n (x.1.map (cellsT t1)).flatten (y.1.map (cellsT t1)).flatten) (eqArr (fun l r => eqPart T (eqV T d) l r e 0) z n (x.1.map (cellsT t1)).flatten (y.1.map (cellsT t1)).flatten)) = _
      rw [hsz, andThen_some, iff_eq]
      split
      · rename_i hc
        rw [Bool.and_eq_true] at hc
        have hk : ∃ k, t1 = .int k := by
          have h9 := hc.1
          unfold isIntT desc at h9
          rw [hj, andThen_some, andThen_some] at h9
          cases d with
          | zero => cases h7
          | succ d =>
            obtain ⟨j', g1, g2⟩ := andThen_eq (show andThen (ty T e) (fun i => andThen (tyD i.held (tyOf T d) i.desc) fun u => iff (and (Nat.beq i.size (sizeT u)) (i.agg == aggT u)) (some u) none) = some t1 from h7)
            rw [hj] at g1
            cases g1
            obtain ⟨t2, g3, g4⟩ := andThen_eq g2
            obtain ⟨_, g5⟩ := iff_some g4
            cases g5
            cases hjd : j.desc <;> rw [hjd] at h9 g3 <;> first | (cases h9; done) | skip
            cases g3
            exact ⟨_, rfl⟩
        obtain ⟨k, rfl⟩ := hk
        exact eqInts_ok k x.1 y.1 n x.2 y.2
      · exact eqArr_ok (ih e t1 h7) x.1 y.1 n x.2 y.2
    case struct fs =>
      rcases iff_way (show iff i.held none (tyFs (tyOf T d) fs.toList 0) = some t from h3) with ⟨_, h7⟩ | ⟨h7, h8⟩
      · cases h7
      obtain ⟨ha, hq⟩ := eqFields_ok ih fs.toList 0 t h8 x y (cellsT t x) (cellsT t y) (Win.all _) (Win.all _)
      show eqStruct T (eqV T d) i.held fs.toList (valT t x) (valT t y) = _
      have hv : ∀ z : El t, valT t z = .agg ⟨cellsT t z⟩ := fun z => by unfold valT; rw [if_pos ha]
      rw [hv, hv]
      unfold eqStruct
      rw [h7, iff_false]
      exact hq
end
end Go.Abs
namespace Go.Abs
section
variable {R : Type}
noncomputable def boundK (dflt most : Nat) (o : Option Sym) (K : Nat → Option R) : Option R :=
  @Option.rec Sym (fun _ => Option R) (K dflt) (fun x => andThen2 (asN x) fun _ i => andThen (upTo i most) K) o
theorem boundK_ok {dflt most : Nat} {o : Option Sym} {K : Nat → Option R} {r : R} (h : boundK dflt most o K = some r) : ∃ n, bound dflt most (o.map Sym.val) = some n ∧ K n = some r := by
  cases o with
  | none => exact ⟨dflt, rfl, h⟩
  | some x =>
    obtain ⟨k, i, h1, h3⟩ := andThen2_eq (show (andThen2 (asN x) fun _ i => andThen (upTo i most) K) = some r from h)
    obtain ⟨n, h2, h4⟩ := andThen_eq h3
    clear h h3
    obtain rfl := asN_eq h1
    exact ⟨n, h2, h4⟩
noncomputable def bounds2 (len cap : Nat) (lo hi : Option Sym) (K : Nat → Nat → Option R) : Option R :=
  boundK len cap hi fun h => boundK (nat_lit 0) h lo fun l => K l h
noncomputable def cutL {α : Type} (l h : Nat) (xs : List α) : List α := (xs.drop l).take (Nat.sub h l)
theorem takeO_drop {l n : Nat} {rows : List Value} (h : l + n ≤ rows.length) : sub rows l n = some ((rows.drop l).take n) := by
  have := Win.sub_some (l := rows) (off := l) (cs := (rows.drop l).take n) ⟨by simp; omega, by simp⟩
  rwa [show ((rows.drop l).take n).length = n from by simp; omega] at this
theorem cut_rows {t : Ty} {xs : List (El t)} {l h : Nat} (h1 : l ≤ h) (h2 : h ≤ xs.length) : sub (aggs (xs.map (cellsT t))) l (Nat.sub h l) = some (aggs ((cutL l h xs).map (cellsT t))) := by
  rw [takeO_drop (by rw [aggs_length, List.length_map]; show l + (h - l) ≤ _; omega)]
  unfold cutL aggs
  rw [← List.map_drop, ← List.map_take, ← List.map_drop, ← List.map_take]
theorem rowZ_aggs {t : Ty} {xs : List (El t)} {z : Nat} (h : z = sizeT t) : rowZ z (aggs (xs.map (cellsT t))) = true := by
  cases xs with
  | nil => rfl
  | cons x xs =>
    show Nat.beq (lenQ (cellsT t x)) z = true
    rw [lenQ_eq, cellsT_len, h, beq_iff]
variable (T : Tab)
noncomputable def sSliceSl (e : TypeId) (x : Sym) (lo hi mx : Option Sym) (d : Option R) (s : SSt) (K : Sym → SSt → Option R) : Option R :=
  orE (asDS x) (fun p => andThen (size T e) fun z => iff (and (Nat.beq z (sizeT p.1)) (not mx.isSome)) (bounds2 p.2.length p.2.length lo hi fun l h => K (.d (.slice p.1) (cutL l h p.2)) s) none) d
noncomputable def sSliceD (x : Sym) (lo hi mx : Option Sym) (d : Option R) (s : SSt) (K : Sym → SSt → Option R) : TypeDesc → Option R
  | .slice e => sSliceSl T e x lo hi mx d s K
  | .string => orE (andThen (asV x) asS) (fun l => iff mx.isSome none (bounds2 (lenQ l) (lenQ l) lo hi fun a b => K (.v (.string ⟨⟨cutL a b l⟩⟩)) s)) d
  | _ => d
noncomputable def sSlice (op : Op) (ρ : Operand → Sym) (t : TypeId) (x : Sym) (lo hi mx : Option Sym) (s : SSt) (K : Sym → SSt → Option R) : Option R :=
  andThen (desc T t) fun d => sSliceD T x lo hi mx (rawOp T op ρ s K) s K d
variable {T}
theorem bounds_le {len : Nat} {lo hi : Option Sym} {l m : Nat} (h : bounds3 len len (lo.map Sym.val) (hi.map Sym.val) none = some (l, m, len)) : l ≤ m ∧ m ≤ len := by
  obtain ⟨m', h1, h⟩ := andThen_eq (show (andThen (some len) fun m => andThen (bound len m (hi.map Sym.val)) fun h => andThen (bound 0 h (lo.map Sym.val)) fun l => some (l, h, m)) = some (l, m, len) from h)
  cases h1
  obtain ⟨h', h2, h⟩ := andThen_eq h
  obtain ⟨l', h3, h⟩ := andThen_eq h
  cases h
  have up : ∀ {o : Option Sym} {a b c : Nat}, a ≤ b → bound a b (o.map Sym.val) = some c → c ≤ b := by
    intro o a b c hab hb
    cases o with
    | none => cases hb; exact hab
    | some x =>
      obtain ⟨_, i, _, h1⟩ := andThen2_eq (show (andThen2 (asI x.val) fun _ i => upTo i b) = some c from hb)
      cases i with
      | ofNat i => obtain ⟨h4, h5⟩ := iff_some (show iff (Nat.ble i b) (some i) none = some c from h1); cases h5; exact (ble_iff _ _).1 h4
      | negSucc i => cases h1
  exact ⟨up (Nat.zero_le _) h3, up (Nat.le_refl _) h2⟩
theorem bounds2_same {len : Nat} {lo hi : Option Sym} {K : Nat → Nat → Option R} {r : R} (h : bounds2 len len lo hi K = some r) : ∃ l m, bounds3 len len (lo.map Sym.val) (hi.map Sym.val) none = some (l, m, len) ∧ K l m = some r ∧ l ≤ m ∧ m ≤ len := by
  obtain ⟨m, h1, h⟩ := boundK_ok h
  obtain ⟨l, h2, h⟩ := boundK_ok h
  have h3 : bounds3 len len (lo.map Sym.val) (hi.map Sym.val) none = some (l, m, len) := by
    show andThen (some len) (fun m => andThen (bound len m (hi.map Sym.val)) fun h => andThen (bound 0 h (lo.map Sym.val)) fun l => some (l, h, m)) = _
    rw [andThen_some, h1, andThen_some, h2]; rfl
  exact ⟨l, m, h3, h, bounds_le h3⟩
theorem sSlice_ok {op : Op} {ρ : Operand → Sym} {t : TypeId} {xo : Operand} {lo hi mx : Option Operand} {s : SSt} {K : Sym → SSt → Option R} {r : R} (ho : op = .slice t xo lo hi mx) (h : sSlice T op ρ t (ρ xo) (lo.map ρ) (hi.map ρ) (mx.map ρ) s K = some r) : Says (opV op T (fun o => (ρ o).val) s.g) s K r := by
  obtain ⟨d, h1, h⟩ := andThen_eq h
  have hmap : ∀ o : Option Operand, (o.map ρ).map Sym.val = o.map fun o => (ρ o).val := fun o => by cases o <;> rfl
  have key : ∀ {u : Sym}, sliceV T t (ρ xo).val (lo.map fun o => (ρ o).val) (hi.map fun o => (ρ o).val) (mx.map fun o => (ρ o).val) = some u.val → K u s = some r → Says (opV op T (fun o => (ρ o).val) s.g) s K r := fun {u} h1 h2 => by
    subst ho
    exact ⟨u, s, by show val s.g (sliceV T t _ _ _ _) = _; rw [h1]; rfl, h2⟩
  cases d <;> first | exact rawOp_ok h | skip
  case slice e =>
    rcases orE_eq (show sSliceSl T e (ρ xo) (lo.map ρ) (hi.map ρ) (mx.map ρ) (rawOp T op ρ s K) s K = some r from h) with ⟨⟨t', xs⟩, hx, g⟩ | ⟨_, g⟩
    · obtain ⟨z, h2, g⟩ := andThen_eq g
      obtain ⟨hc, g⟩ := iff_some g
      rw [Bool.and_eq_true, beq_iff] at hc
      obtain ⟨hz, hm⟩ := hc
      have hmx : mx = none := by cases mx with | none => rfl | some m => cases hm
      obtain ⟨l, m, h3, h4, h5, h6⟩ := bounds2_same g
      refine key (u := .d (.slice t') (cutL l m xs)) ?_ h4
      rw [hmap, hmap] at h3
      rw [asDS_eq hx, hmx]
      unfold sliceV
      rw [h1, andThen_some]
      show (andThen (some (aggs (xs.map (cellsT t')))) fun rows => andThen (size T e) fun z => iff (rowZ z rows) (andThen3 (bounds3 (lenQ rows) (lenQ rows) _ _ none) fun l h m => cutDat none rows l h m) none) = _
      rw [andThen_some, h2, andThen_some, rowZ_aggs hz, iff_true, lenQ_eq, aggs_length, List.length_map]
      show andThen3 (bounds3 xs.length xs.length (lo.map fun o => (ρ o).val) (hi.map fun o => (ρ o).val) none) _ = _
      rw [h3]
      show (andThen (sub (aggs (xs.map (cellsT t'))) l (Nat.sub m l)) fun r => some (dat r)) = _
      rw [cut_rows h5 h6]; rfl
    · exact rawOp_ok g
  case string =>
    rcases orE_eq (show orE (andThen (asV (ρ xo)) asS) (fun l => iff (mx.map ρ).isSome none (bounds2 (lenQ l) (lenQ l) (lo.map ρ) (hi.map ρ) fun a b => K (.v (.string ⟨⟨cutL a b l⟩⟩)) s)) (rawOp T op ρ s K) = some r from h) with ⟨w, hx, g⟩ | ⟨_, g⟩
    · obtain ⟨v, h2, h3⟩ := andThen_eq hx
      rcases iff_way g with ⟨_, g⟩ | ⟨hm, g⟩
      · cases g
      have hmx : mx = none := by cases mx with | none => rfl | some m => cases hm
      obtain ⟨l, m, h4, h5, h6, h7⟩ := bounds2_same g
      refine key (u := .v (.string ⟨⟨cutL l m w⟩⟩)) ?_ h5
      rw [hmap, hmap] at h4
      rw [asV_eq h2, hmx]
      unfold sliceV
      rw [h1, andThen_some]
      show (andThen (asS v) fun s => iff (Option.isSome (none : Option Value)) none (andThen3 (bounds3 (lenQ s) (lenQ s) _ _ none) fun l h _ => some (Value.string ⟨⟨(s.drop l).take (Nat.sub h l)⟩⟩))) = _
      rw [h3, andThen_some]
      rw [show (Option.isSome (none : Option Value)) = false from rfl, iff_false]
      rw [h4]; rfl
    · exact rawOp_ok g
variable (T)
noncomputable def sLenSl (x : Sym) (s : SSt) (K : Sym → SSt → Option R) : Option R :=
  orE (asDS x) (fun p => K (.v (.int .i64 (Int.ofNat p.2.length))) s) <|
  orE (asMo x) (fun q => K (.v (.int .i64 (Int.ofNat (iff q.2.2.2.1 (nat_lit 0) q.2.2.1)))) s) <|
  andThen3 (asSl x.val) fun _ n _ => K (.v (.int .i64 (Int.ofNat n))) s
noncomputable def sLenD (x : Sym) (s : SSt) (K : Sym → SSt → Option R) : TypeDesc → Option R
  | .string => andThen (andThen (asV x) asS) fun l => K (.v (.int .i64 (Int.ofNat (lenQ l)))) s
  | .slice _ => sLenSl x s K
  | .array n _ => K (.v (.int .i64 (Int.ofNat n))) s
  | _ => none
noncomputable def sLen (tys : List TypeId) (args : List Sym) (s : SSt) (K : Sym → SSt → Option R) : Option R :=
  andThen2 (arg1 tys) fun t _ => andThen2 (arg1 args) fun x _ => andThen (desc T t) (sLenD x s K)
variable {T}
theorem arg1_map {α β : Type} {f : α → β} {l : List α} {a : α} {r : List α} (h : arg1 l = some (a, r)) : arg1 (l.map f) = some (f a, r.map f) := by
  cases l with
  | nil => cases h
  | cons x l => cases h; rfl
theorem arg2_map {α β : Type} {f : α → β} {l : List α} {a b : α} (h : arg2 l = some (a, b)) : arg2 (l.map f) = some (f a, f b) := by
  cases l with
  | nil => cases h
  | cons x l =>
    cases l with
    | nil => cases h
    | cons y l => cases h; rfl
theorem sLen_ok {tys : List TypeId} {args : List Sym} {s : SSt} {K : Sym → SSt → Option R} {r : R} (h : sLen T tys args s K = some r) : Says (bLen T tys (args.map Sym.val) s.g) s K r := by
  obtain ⟨t, tr, h1, h⟩ := andThen2_eq h
  obtain ⟨x, xr, h2, h⟩ := andThen2_eq h
  obtain ⟨d, h3, h⟩ := andThen_eq h
  unfold bLen
  rw [h1, andThen2_some, arg1_map h2, andThen2_some]
  have key : ∀ {n : Nat}, lenD d T s.g x.val = some n → K (.v (.int .i64 (Int.ofNat n))) s = some r → Says (val s.g (lenB T s.g t x.val)) s K r := fun {n} h4 h5 =>
    ⟨_, s, by unfold lenB; rw [h3, andThen_some, h4]; rfl, h5⟩
  cases d <;> first | (cases h; done) | skip
  case string =>
    obtain ⟨l, h4, h⟩ := andThen_eq (show (andThen (andThen (asV x) asS) fun l => K (.v (.int .i64 (Int.ofNat (lenQ l)))) s) = some r from h)
    obtain ⟨v, h5, h6⟩ := andThen_eq h4
    refine key (n := lenQ l) ?_ h
    rw [asV_eq h5]
    show (andThen (asS v) fun s => some (lenQ s)) = _
    rw [h6]; rfl
  case array n e => exact key rfl h
  case slice e =>
    rcases orE_eq (show sLenSl x s K = some r from h) with ⟨⟨t', xs⟩, hx, g⟩ | ⟨_, g⟩
    · refine key (n := xs.length) ?_ g
      rw [asDS_eq hx]
      show some (lenQ (aggs (xs.map (cellsT t')))) = _
      rw [lenQ_eq, aggs_length, List.length_map]
    rcases orE_eq g with ⟨⟨b, z, len, nl, nn⟩, hx, g⟩ | ⟨_, g⟩
    · refine key (n := iff nl 0 len) ?_ g
      rw [asMo_eq hx]
      show lenSl (moV b z len nl nn) = _
      cases nl <;> cases nn <;> rfl
    · obtain ⟨a, n, c, hx, g⟩ := andThen3_eq g
      refine key (n := n) ?_ g
      rw [asSl_eq hx]; rfl
variable (T)
def asTup : Sym → Option Sym
  | .tup l => some l
  | _ => none
theorem asTup_eq {x l : Sym} (h : asTup x = some l) : x = .tup l := by
  cases x <;> first | (cases h; done) | (cases h; rfl)
def isChain : Sym → Bool
  | .cons _ (.cons _ _) => true
  | _ => false
noncomputable def nthS : Nat → Sym → Option Sym
  | 0 => fun s => match s with | .cons a _ => some a | _ => none
  | n + 1 => fun s => match s with | .cons _ r => nthS n r | _ => none
theorem nthS_vals : ∀ {n : Nat} {s a : Sym}, nthS n s = some a → s.vals[n]? = some a.val
  | 0, s, a, h => by
    cases s with
    | cons b r => cases (show some b = some a from h); rfl
    | _ => cases h
  | n + 1, s, a, h => by
    cases s with
    | cons b r =>
      have := nthS_vals (n := n) (show nthS n r = some a from h)
      show (b.val :: r.vals)[n + 1]? = _
      simpa using this
    | _ => cases h
noncomputable def sExtract (op : Op) (ρ : Operand → Sym) (x : Sym) (i : Nat) (s : SSt) (K : Sym → SSt → Option R) : Option R :=
  orE (asTup x) (fun l => iff (isChain l) (andThen (nthS i l) fun a => K a s) none) (rawOp T op ρ s K)
variable {T}
theorem sExtract_ok {op : Op} {ρ : Operand → Sym} {xo : Operand} {i : Nat} {s : SSt} {K : Sym → SSt → Option R} {r : R} (ho : op = .extract xo i) (h : sExtract T op ρ (ρ xo) i s K = some r) : Says (opV op T (fun o => (ρ o).val) s.g) s K r := by
  rcases orE_eq h with ⟨l, hx, g⟩ | ⟨_, g⟩
  · obtain ⟨hc, g⟩ := iff_some g
    obtain ⟨a, h1, h2⟩ := andThen_eq g
    subst ho
    refine ⟨a, s, ?_, h2⟩
    show val s.g (compV i (ρ xo).val) = _
    rw [asTup_eq hx]
    have h3 := nthS_vals h1
    cases l with
    | cons b m =>
      cases m with
      | cons c m =>
        show val s.g ((Sym.cons b (.cons c m)).vals[i]?) = _
        rw [h3]; rfl
      | _ => cases hc
    | _ => cases hc
  · exact rawOp_ok g
variable (T)
noncomputable def shAmt (k : IntKind) (y : Int) : Option Nat := @Int.rec (fun _ => Option Nat) (fun n => some (iff (Nat.ble n k.bits) n k.bits)) (fun _ => none) y
theorem shAmt_eq {k : IntKind} {x y : Int} {f : Nat → Option Value} {n : Nat} (h : shAmt k y = some n) : shiftQ k x y f = f n := by
  cases y with
  | ofNat m => cases (show some (iff (Nat.ble m k.bits) m k.bits) = some n from h); rfl
  | negSucc m => cases h
def isNilSym : Sym → Bool
  | .v (.slice none 0 _) => true
  | _ => false
noncomputable def sQuo (op : BinOp) (k : IntKind) (a b : Int) (s : SSt) (K : Sym → SSt → Option R) : Option R :=
  iff (eqQ b (Int.ofNat (nat_lit 0))) none (match op with
    | .quo => K (.v (.int k (wrapQ k (a.tdiv b)))) s
    | .rem => K (.v (.int k (a.tmod b))) s
    | _ => none)
noncomputable def sShift (op : BinOp) (k : IntKind) (a b : Int) (s : SSt) (K : Sym → SSt → Option R) : Option R :=
  andThen (shAmt k b) fun n => match op with
    | .shl => K (.v (.int k (wrapQ k (Int.mul a (Int.ofNat (Nat.pow (nat_lit 2) n)))))) s
    | .shr => K (.v (.int k (a.fdiv (Int.ofNat (Nat.pow (nat_lit 2) n))))) s
    | _ => none
noncomputable def asTxt (x : Sym) : Option (List UInt8) := andThen (asV x) asS
noncomputable def sAdd (x y : Sym) (s : SSt) (K : Sym → SSt → Option R) (d : Option R) : Option R :=
  orE (asTxt x) (fun a => andThen (asTxt y) fun b => iff (Nat.ble (Nat.add (lenQ a) (lenQ b)) (nat_lit 1000000000)) (K (.v (.string ⟨⟨a ++ b⟩⟩)) s) none) d
noncomputable def aggTy (t : TypeId) : Option Ty := andThen (ty T t) fun i => iff (and i.agg (not i.guard)) (tyOf T (nat_lit 10) t) none
noncomputable def sEql (n : Bool) (u : Ty) (x y : Sym) (s : SSt) (K : Sym → SSt → Option R) : Option R :=
  colV false (fun _ => none) u x fun a => colV false (fun _ => none) u y fun b => K (.v (.bool (iff n (not (eqE u a b)) (eqE u a b)))) s
noncomputable def sBin (op : Op) (ρ : Operand → Sym) (t : TypeId) (bo : BinOp) (x y : Sym) (s : SSt) (K : Sym → SSt → Option R) : Option R :=
  match bo with
  | .quo => andThen2 (asN x) fun k a => andThen2 (asN y) fun k' b => iff (sameKind k k') (sQuo .quo k a b s K) none
  | .rem => andThen2 (asN x) fun k a => andThen2 (asN y) fun k' b => iff (sameKind k k') (sQuo .rem k a b s K) none
  | .shl => andThen2 (asN x) fun k a => andThen2 (asN y) fun _ b => sShift .shl k a b s K
  | .shr => andThen2 (asN x) fun k a => andThen2 (asN y) fun _ b => sShift .shr k a b s K
  | .add => sAdd x y s K (rawOp T op ρ s K)
  | .eql => orE (aggTy T t) (fun u => sEql false u x y s K) (rawOp T op ρ s K)
  | .neq => orE (aggTy T t) (fun u => sEql true u x y s K) (rawOp T op ρ s K)
  | _ => rawOp T op ρ s K
variable {T}
theorem sEql_ok {bo : BinOp} {n : Bool} (hb : isNeq bo = some n) (hbv : ∀ (cs : List Value) (y : Value) t, binV (.agg ⟨cs⟩) T bo t y = binE T bo t (.agg ⟨cs⟩) y) {t : TypeId} {u : Ty} (hu : aggTy T t = some u) {xo yo : Operand} {x y : Sym} {s : SSt} {K : Sym → SSt → Option R} {r : R} (h : sEql n u x y s K = some r) :
    ∃ b : Bool, iff (iff (needsGuard bo) (guarded T t xo yo x.val) true) (val s.g (binV x.val T bo t y.val)) none = some (.bool b, s.g) ∧ K (.v (.bool b)) s = some r := by
  obtain ⟨i, h1, h2⟩ := andThen_eq hu
  obtain ⟨h3, h4⟩ := iff_some h2
  rw [Bool.and_eq_true] at h3
  obtain ⟨⟨j, h5, _, h6⟩, h7⟩ := eqV_ok 10 t u h4
  rw [h1] at h5
  cases h5
  have ha : aggT u = true := h6.symm.trans h3.1
  obtain ⟨a, g1, g2, g3, g4⟩ := colV_ok col_same h
  obtain ⟨b, g5, g6, g7, g8⟩ := colV_ok col_same g1
  have hv : ∀ z : El u, valT u z = .agg ⟨cellsT u z⟩ := fun z => by unfold valT; rw [if_pos ha]
  have hx : x.val = valT u a := by rw [Sym.agg_val (g4.trans ha), hv, g2]
  have hy : y.val = valT u b := by rw [Sym.agg_val (g8.trans ha), hv, g6]
  refine ⟨_, ?_, g5⟩
  have hq := h7 a b
  rw [hx, hy, hv a, hbv]
  rw [hv a] at hq
  have hg : guarded T t xo yo (.agg ⟨cellsT u a⟩) = true := by
    show (match ty T t with | some i => not i.guard | none => false) = true
    rw [h1]; exact h3.2
  rw [hg]
  show iff (iff (needsGuard bo) true true) (val s.g (andThen (isNeq bo) fun n => andThen (eqV T 10 t (.agg ⟨cellsT u a⟩) (valT u b)) fun b => some (.bool (iff n (not b) b)))) none = _
  rw [hb, andThen_some, hq, andThen_some]
  cases needsGuard bo <;> rfl
theorem sBin_ok {op : Op} {ρ : Operand → Sym} {bo : BinOp} {t yt : TypeId} {xo yo : Operand} {s : SSt} {K : Sym → SSt → Option R} {r : R} (ho : op = .binOp bo t xo yo yt) (h : sBin T op ρ t bo (ρ xo) (ρ yo) s K = some r) : Says (opV op T (fun o => (ρ o).val) s.g) s K r := by
  have key : ∀ {v : Value}, needsGuard bo = false → binV (ρ xo).val T bo t (ρ yo).val = some v → K (.v v) s = some r → Says (opV op T (fun o => (ρ o).val) s.g) s K r := fun {v} hn h1 h2 => by
    subst ho
    refine ⟨_, s, ?_, h2⟩
    show iff (iff (needsGuard bo) (guarded T t xo yo (ρ xo).val) true) (val s.g (binV (ρ xo).val T bo t (ρ yo).val)) none = _
    rw [hn, h1]; rfl
  unfold sBin at h
  cases bo <;> first | exact rawOp_ok h | skip
  case eql =>
    rcases orE_eq h with ⟨u, h1, h2⟩ | ⟨_, h⟩
    · obtain ⟨b, h3, h4⟩ := sEql_ok (bo := .eql) (xo := xo) (yo := yo) rfl (fun _ _ _ => rfl) h1 h2
      subst ho
      exact ⟨.v (.bool b), s, h3, h4⟩
    · exact rawOp_ok h
  case neq =>
    rcases orE_eq h with ⟨u, h1, h2⟩ | ⟨_, h⟩
    · obtain ⟨b, h3, h4⟩ := sEql_ok (bo := .neq) (xo := xo) (yo := yo) rfl (fun _ _ _ => rfl) h1 h2
      subst ho
      exact ⟨.v (.bool b), s, h3, h4⟩
    · exact rawOp_ok h
  case quo =>
    obtain ⟨k, a, h1, h⟩ := andThen2_eq h
    obtain ⟨k', b, h2, h⟩ := andThen2_eq h
    obtain ⟨h3, h⟩ := iff_some h
    rcases iff_way h with ⟨_, h⟩ | ⟨h4, h⟩
    · cases h
    refine key (v := .int k (wrapQ k (a.tdiv b))) rfl ?_ h
    rw [asN_eq h1, asN_eq h2]
    show iff (or false (sameKind k k')) (iff (eqQ b (Int.ofNat 0)) none _) none = _
    rw [h3, show eqQ b (Int.ofNat 0) = false from h4]; rfl
  case rem =>
    obtain ⟨k, a, h1, h⟩ := andThen2_eq h
    obtain ⟨k', b, h2, h⟩ := andThen2_eq h
    obtain ⟨h3, h⟩ := iff_some h
    rcases iff_way h with ⟨_, h⟩ | ⟨h4, h⟩
    · cases h
    refine key (v := .int k (a.tmod b)) rfl ?_ h
    rw [asN_eq h1, asN_eq h2]
    show iff (or false (sameKind k k')) (iff (eqQ b (Int.ofNat 0)) none _) none = _
    rw [h3, show eqQ b (Int.ofNat 0) = false from h4]; rfl
  case shl =>
    obtain ⟨k, a, h1, h⟩ := andThen2_eq h
    obtain ⟨k', b, h2, h⟩ := andThen2_eq h
    obtain ⟨n, h3, h⟩ := andThen_eq h
    refine key (v := .int k (wrapQ k (Int.mul a (Int.ofNat (Nat.pow 2 n))))) rfl ?_ h
    rw [asN_eq h1, asN_eq h2]
    exact shAmt_eq (k := k) (x := a) (y := b) (f := fun n => some (.int k (wrapQ k (Int.mul a (Int.ofNat (Nat.pow 2 n)))))) h3
  case shr =>
    obtain ⟨k, a, h1, h⟩ := andThen2_eq h
    obtain ⟨k', b, h2, h⟩ := andThen2_eq h
    obtain ⟨n, h3, h⟩ := andThen_eq h
    refine key (v := .int k (a.fdiv (Int.ofNat (Nat.pow 2 n)))) rfl ?_ h
    rw [asN_eq h1, asN_eq h2]
    exact shAmt_eq (k := k) (x := a) (y := b) (f := fun n => some (.int k (a.fdiv (Int.ofNat (Nat.pow 2 n))))) h3
  case add =>
    rcases orE_eq (show sAdd (ρ xo) (ρ yo) s K (rawOp T op ρ s K) = some r from h) with ⟨a, h1, h⟩ | ⟨_, h⟩
    · obtain ⟨b, h2, h⟩ := andThen_eq h
      obtain ⟨h3, h⟩ := iff_some h
      obtain ⟨v, h4, h5⟩ := andThen_eq h1
      obtain ⟨w, h6, h7⟩ := andThen_eq h2
      obtain ⟨v', rfl, rfl⟩ := asS_eq h5
      obtain ⟨w', rfl, rfl⟩ := asS_eq h7
      refine key rfl ?_ h
      rw [asV_eq h4, asV_eq h6]
      show iff (Nat.ble (Nat.add (lenQ v'.data.toList) (lenQ w'.data.toList)) 1000000000) _ none = _
      rw [h3]; rfl
    · exact rawOp_ok h
variable (T)
noncomputable def asD8 (x : Sym) : Option (List Int) := andThen (asDS x) fun p => castT (.slice p.1) (.slice (.int .u8)) p.2
noncomputable def toB (l : List Int) : List UInt8 := l.map fun n => UInt8.ofNat n.toNat
noncomputable def ofB (l : List UInt8) : List Int := l.map fun b => Int.ofNat b.toNat
noncomputable def sConvStr (ds : TypeDesc) (x : Sym) (s : SSt) (K : Sym → SSt → Option R) : Option R :=
  orE (asTxt x) (fun l => K (.v (.string ⟨⟨l⟩⟩)) s) <|
  andThen (sliceElem ds) fun e => iff (isU8 T e) (orE (asD8 x) (fun l => K (.v (.string ⟨⟨toB l⟩⟩)) s) (iff (isNilSym x) (K (.v (.string ⟨⟨[]⟩⟩)) s) none)) none
noncomputable def sConvD (ds : TypeDesc) (x : Sym) (s : SSt) (K : Sym → SSt → Option R) : TypeDesc → Option R
  | .int k => andThen2 (asN x) fun _ n => K (.v (.int k (wrapQ k n))) s
  | .string => sConvStr T ds x s K
  | .slice e => andThen (asTxt x) fun l => iff (isU8 T e) (K (.os s.next (nat_lit 1) l.length) (s.new (.cons (.rw (.int .u8) (ofB l)) .nil) (some (nat_lit 1)) s.next)) none
  | _ => none
noncomputable def sConv (src dst : TypeId) (x : Sym) (s : SSt) (K : Sym → SSt → Option R) : Option R :=
  andThen (desc T src) fun ds => andThen (desc T dst) (sConvD T ds x s K)
variable {T}
theorem bytesOf_rows : ∀ l : List Int, (∀ v, bytesOf v = bytesOf v) → bytesOf ((l.map (cellsT (.int .u8))).flatten) = some (toB l)
  | [], _ => rfl
  | n :: l, h => by
    show (andThen (some (UInt8.ofNat n.toNat)) fun b => andThen (bytesOf ((l.map (cellsT (.int .u8))).flatten)) fun r => some (b :: r)) = _
    rw [bytesOf_rows l h]; rfl
theorem rows_u8 (l : List Int) : rowsCells 1 (aggs (l.map (cellsT (.int .u8)))) = some (l.map (cellsT (.int .u8))).flatten := rowsCells_aggs fun r hr => by
  obtain ⟨a, _, rfl⟩ := List.mem_map.1 hr
  rfl
theorem byteCells_rows : ∀ l : List UInt8, byteCells l = ((ofB l).map (cellsT (.int .u8))).flatten
  | [] => rfl
  | b :: l => by
    show Value.int .u8 (Int.ofNat b.toNat) :: byteCells l = _
    rw [byteCells_rows l]; rfl
theorem sConv_ok {src dst : TypeId} {x : Sym} {s : SSt} {K : Sym → SSt → Option R} {r : R} (h : sConv T src dst x s K = some r) : Says (convV T src dst x.val s.g) s K r := by
  obtain ⟨ds, h1, h⟩ := andThen_eq h
  obtain ⟨d, h2, h⟩ := andThen_eq h
  unfold convV
  rw [h1, andThen_some, h2, andThen_some]
  cases d <;> first | (cases h; done) | skip
  case int k =>
    obtain ⟨k', n, h3, h⟩ := andThen2_eq (show (andThen2 (asN x) fun _ n => K (.v (.int k (wrapQ k n))) s) = some r from h)
    rw [asN_eq h3]
    exact ⟨_, s, rfl, h⟩
  case string =>
    show Says (convStr T s.g ds x.val) s K r
    rcases orE_eq (show sConvStr T ds x s K = some r from h) with ⟨l, h3, h⟩ | ⟨_, h⟩
    · obtain ⟨v, h4, h5⟩ := andThen_eq h3
      obtain ⟨v', rfl, rfl⟩ := asS_eq h5
      rw [asV_eq h4]
      exact ⟨_, s, rfl, h⟩
    · obtain ⟨e, h3, h⟩ := andThen_eq h
      obtain ⟨h4, h⟩ := iff_some h
      rcases orE_eq h with ⟨l, h5, h⟩ | ⟨_, h⟩
      · obtain ⟨⟨t', xs⟩, h6, h7⟩ := andThen_eq h5
        have hc := (castT_eq h7).2.1
        refine ⟨_, s, ?_, h⟩
        rw [asDS_eq h6, show (Sym.d (.slice t') xs).val = valT (.slice t') xs from rfl, ← hc]
        show (andThen (sliceElem ds) fun e => iff (isU8 T e) (andThen (some (aggs (List.map (cellsT (.int .u8)) l))) fun rows => andThen (rowsCells 1 rows) fun cs => andThen (bytesOf cs) fun l => some (Value.string ⟨⟨l⟩⟩, s.g)) none) = _
        rw [h3, andThen_some, h4, iff_true, andThen_some, rows_u8, andThen_some, bytesOf_rows l fun _ => rfl]; rfl
      · obtain ⟨h5, h⟩ := iff_some h
        refine ⟨_, s, ?_, h⟩
        unfold isNilSym at h5
        split at h5
        · show (andThen (sliceElem ds) fun e => iff (isU8 T e) (some (Value.string .empty, s.g)) none) = _
          rw [h3, andThen_some, h4]; rfl
        · cases h5
  case slice e =>
    obtain ⟨l, h3, h⟩ := andThen_eq (show (andThen (asTxt x) fun l => iff (isU8 T e) (K (.os s.next 1 l.length) (s.new (.cons (.rw (.int .u8) (ofB l)) .nil) (some 1) s.next)) none) = some r from h)
    obtain ⟨h4, h⟩ := iff_some h
    obtain ⟨v, h5, h6⟩ := andThen_eq h3
    obtain ⟨v', rfl, rfl⟩ := asS_eq h6
    rw [asV_eq h5]
    refine ⟨_, _, ?_, h⟩
    show (andThen (some v'.data.toList) fun w => iff (isU8 T e) (openSlice s.g (lenQ w) (byteCells w) 1 s.g.next) none) = _
    rw [andThen_some, h4, iff_true]
    unfold openSlice
    rw [SSt.new_g, lenQ_eq]
    show some (Value.slice (some ⟨s.next, 0, some 1⟩) v'.data.toList.length v'.data.toList.length, s.g.new (.cells (byteCells v'.data.toList) (some 1) s.next false false)) = some (_, s.g.new (.cells (((ofB v'.data.toList).map (cellsT (.int .u8))).flatten ++ []) (some 1) s.next false false))
    rw [List.append_nil, byteCells_rows]; rfl
end
end Go.Abs
