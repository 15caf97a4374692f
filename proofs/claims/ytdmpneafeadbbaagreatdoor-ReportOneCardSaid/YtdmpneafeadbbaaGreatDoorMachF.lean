/- The abstract machine, one part: see its own sections. Conditions: none. -/
import Derived.Test.YtdmpneafeadbbaaGreatDoorMachE
import Derived.Below
namespace Go.Abs
section
variable {R : Type}
noncomputable def appS : Sym → Sym → Sym
  | .cons a r => fun t => .cons a (appS r t)
  | .nil => fun t => t
  | s => fun t => .cons s t
theorem appS_cells : ∀ s t : Sym, (appS s t).cells = s.cells ++ t.cells := by
  intro s
  induction s with
  | cons a r _ ih =>
    intro t
    show a.cells ++ (appS r t).cells = (a.cells ++ r.cells) ++ t.cells
    rw [ih, List.append_assoc]
  | nil => intro t; rfl
  | _ => intro t; rfl
def notInt : TypeDesc → Bool
  | .int _ => false
  | _ => true
noncomputable def addN (a b : Nat) : Nat := iff (isZ a) b (Nat.add a b)
theorem addN_eq (a b : Nat) : addN a b = a + b := by
  unfold addN
  rw [iff_eq]
  split
  · rename_i h; rw [(Tr.isZ_iff a).1 h, Nat.zero_add]
  · rfl
def asOsS : Sym → Option (Nat × Nat × Nat)
  | .os b z len => some (b, z, len)
  | _ => none
theorem asOsS_eq {s : Sym} {b z len : Nat} (h : asOsS s = some (b, z, len)) : s = .os b z len := by
  cases s <;> first | (cases h; done) | (cases h; rfl)
def mayO : SObj → Option (Bool × Bool × Sym × Nat × Nat)
  | .may nl nn l z org => some (nl, nn, l, z, org)
  | _ => none
theorem mayO_eq {o : SObj} {nl nn : Bool} {l : Sym} {z org : Nat} (h : mayO o = some (nl, nn, l, z, org)) : o = .may nl nn l z org := by
  cases o <;> first | (cases h; done) | (cases h; rfl)
noncomputable def sCut (s : SSt) (b off m : Nat) (K : Sym → Option R) : Option R := andThen (s.heap.get b) fun o => andThen (liveO o) fun l => dropS l off fun l1 => takeS l1 m K
theorem sCut_ok {s : SSt} {b off m : Nat} {K : Sym → Option R} {r : R} (h : sCut s b off m K = some r) : ∃ c, K c = some r ∧ c.cells.length = m ∧ s.g.cellsAt b off m = some c.cells := by
  obtain ⟨o, h1, h⟩ := andThen_eq h
  obtain ⟨l, h2, h⟩ := andThen_eq h
  obtain ⟨l1, h3, h4, h5⟩ := dropS_ok _ _ _ _ h
  obtain ⟨c, h6, h7, h8⟩ := takeS_ok _ _ _ _ h3
  refine ⟨c, h6, h7, ?_⟩
  unfold ASt.cellsAt
  rw [row_live h1 h2, andThen_some]
  have hw : Win l.cells off c.cells := by
    obtain ⟨g1, g2⟩ := h8
    rw [h5] at g1 g2
    refine ⟨by simp at g1; omega, ?_⟩
    simpa using g2
  rw [← h7]
  exact hw.sub_some
noncomputable def sAll (s : SSt) (b z len : Nat) (K : Sym → Option R) : Option R := andThen (s.heap.get b) fun o => andThen (liveO o) fun l => iff (Nat.beq l.size (Nat.mul len z)) (K l) none
theorem sAll_ok {s : SSt} {b z len : Nat} {K : Sym → Option R} {r : R} (h : sAll s b z len K = some r) : ∃ c, K c = some r ∧ c.cells.length = len * z ∧ s.g.cellsAt b 0 (len * z) = some c.cells := by
  obtain ⟨o, h1, h⟩ := andThen_eq h
  obtain ⟨l, h2, h⟩ := andThen_eq h
  obtain ⟨h3, h⟩ := iff_some h
  have h3 : l.cells.length = len * z := by rw [Sym.size_eq]; exact (beq_iff _ _).1 h3
  refine ⟨l, h, h3, ?_⟩
  unfold ASt.cellsAt
  rw [row_live h1 h2, andThen_some, ← h3]
  exact (Win.all _).sub_some
noncomputable def sMay (s : SSt) (b z len : Nat) (K : Sym → Nat → Option R) : Option R := andThen (s.heap.get b) fun o => andThen (mayO o) fun q => iff (and (not q.1) (and (Nat.beq q.2.2.2.1 z) (Nat.beq q.2.2.1.size (Nat.mul len z)))) (K q.2.2.1 q.2.2.2.2) none
theorem sMay_ok {s : SSt} {b z len : Nat} {K : Sym → Nat → Option R} {r : R} (h : sMay s b z len K = some r) : ∃ c org, K c org = some r ∧ c.cells.length = len * z ∧ s.g.obj b = some (.cells c.cells (some z) org false false) := by
  obtain ⟨o, h1, h⟩ := andThen_eq h
  obtain ⟨⟨nl, nn, l, z', org⟩, h2, g⟩ := andThen_eq h
  obtain ⟨h3, g1⟩ := iff_some g
  simp only [Bool.and_eq_true, Bool.not_eq_true', beq_iff] at h3
  obtain ⟨h3, h4, h5⟩ := h3
  have h3 : nl = false := h3
  have h4 : z' = z := h4
  have h5 : l.size = len * z := h5
  have g2 : K l org = some r := g1
  clear g g1 h
  subst h3; subst h4
  refine ⟨l, org, g2, by rw [Sym.size_eq]; exact h5, ?_⟩
  rw [SSt.obj_g, h1, mayO_eq h2]; rfl
theorem cellsAt_own {σ : ASt} {b org : Nat} {e : Option Nat} {c : List Value} (h : σ.obj b = some (.cells c e org false false)) : σ.cellsAt b 0 c.length = some c := by
  unfold ASt.cellsAt ASt.row
  rw [h]
  show andThen (some c) (fun d => Abs.sub d 0 c.length) = _
  rw [andThen_some]
  exact (Win.all _).sub_some
noncomputable def sAddsRaw (ei : TI) (s : SSt) (K : Nat → Sym → Option R) (a : Option Addr) (n : Nat) : Option R :=
  @Option.rec Addr (fun _ => Option R) (iff (isZ n) (K (nat_lit 0) .nil) none) (fun a => sCut s a.block a.off (Nat.mul n ei.size) (K n)) a
noncomputable def sAdds (ei : TI) (x : Sym) (s : SSt) (K : Nat → Sym → Option R) : Option R :=
  orE (asDS x) (fun p => iff (Nat.beq ei.size (sizeT p.1)) (K p.2.length (.cons (.rw p.1 p.2) .nil)) none) <|
  orE (asTxt x) (fun l => iff (Nat.beq ei.size (nat_lit 1)) (K l.length (.cons (.rw (.int .u8) (ofB l)) .nil)) none) <|
  orE (asOsS x) (fun q => iff (Nat.beq ei.size q.2.1) (sAll s q.1 q.2.1 q.2.2 (K q.2.2)) none) <|
  orE (asMo x) (fun q => iff q.2.2.2.1 (iff q.2.2.2.2 (K (nat_lit 0) .nil) none) (iff (Nat.beq ei.size q.2.1) (sMay s q.1 q.2.1 q.2.2.1 fun l _ => K q.2.2.1 l) none)) <|
  andThen3 (asSl x.val) fun a n _ => sAddsRaw ei s K a n
theorem sAdds_ok {ei : TI} {x : Sym} {dx : TypeDesc} {s : SSt} {K : Nat → Sym → Option R} {r : R} (hd : notInt dx = true) (h : sAdds ei x s K = some r) : ∃ n c, addsV s.g ei x.val dx = some (n, c.cells) ∧ K n c = some r ∧ c.cells.length = n * ei.size := by
  have key : ∀ {n : Nat} {ys : List Value}, lenV x.val = some n → firstV s.g ei.size n x.val = some ys → ys.length = n * ei.size → addsV s.g ei x.val dx = some (n, ys) := fun {n ys} h1 h2 h3 => by
    have : addsV s.g ei x.val dx = andThen (lenV x.val) fun n => andThen (firstV s.g ei.size n x.val) fun ys => iff (Nat.beq (lenQ ys) (Nat.mul n ei.size)) (some (n, ys)) none := by
      cases dx <;> first | rfl | cases hd
    rw [this, h1, andThen_some, h2, andThen_some, lenQ_eq, show Nat.beq ys.length (Nat.mul n ei.size) = true from (beq_iff _ _).2 h3]; rfl
  rcases orE_eq h with ⟨⟨t, xs⟩, hx, h⟩ | ⟨_, h⟩
  · obtain ⟨h1, h⟩ := iff_some h
    rw [beq_iff] at h1
    have hl : ((xs.map (cellsT t)).flatten ++ []).length = xs.length * ei.size := by rw [List.append_nil, rows_len, h1]
    refine ⟨_, _, key (ys := (xs.map (cellsT t)).flatten ++ []) ?_ ?_ hl, h, hl⟩
    · rw [asDS_eq hx]
      show some (lenQ (aggs (xs.map (cellsT t)))) = _
      rw [lenQ_eq, aggs_length, List.length_map]
    · rw [asDS_eq hx, List.append_nil]
      show (andThen (some (aggs (xs.map (cellsT t)))) fun rows => andThen (takeO xs.length rows) fun r => rowsCells ei.size r) = _
      have := takeO_drop (l := 0) (n := xs.length) (rows := aggs (xs.map (cellsT t))) (by rw [aggs_length, List.length_map]; omega)
      have : takeO xs.length (aggs (xs.map (cellsT t))) = some (aggs (xs.map (cellsT t))) := by
        have h2 : Abs.sub (aggs (xs.map (cellsT t))) 0 xs.length = takeO xs.length (aggs (xs.map (cellsT t))) := rfl
        rw [← h2, this, List.drop_zero, List.take_of_length_le (by rw [aggs_length, List.length_map]; omega)]
      rw [andThen_some, this, andThen_some, h1]
      exact rowsCells_aggs fun r hr => by
        obtain ⟨a, _, rfl⟩ := List.mem_map.1 hr
        exact cellsT_len t a
  rcases orE_eq h with ⟨l, hx, h⟩ | ⟨_, h⟩
  · obtain ⟨h1, h⟩ := iff_some h
    rw [beq_iff] at h1
    obtain ⟨v, h2, h3⟩ := andThen_eq hx
    obtain ⟨v', rfl, rfl⟩ := asS_eq h3
    have hl : (((ofB v'.data.toList).map (cellsT (.int .u8))).flatten ++ []).length = v'.data.toList.length * ei.size := by
      rw [List.append_nil, rows_len (t := .int .u8) (xs := ofB v'.data.toList), h1]
      show (List.map (fun b : UInt8 => Int.ofNat b.toNat) v'.data.toList).length * 1 = _
      rw [List.length_map]
    refine ⟨_, _, key (ys := ((ofB v'.data.toList).map (cellsT (.int .u8))).flatten ++ []) ?_ ?_ hl, h, hl⟩
    · rw [asV_eq h2]
      show some (lenQ v'.data.toList) = _
      rw [lenQ_eq]
    · rw [asV_eq h2, List.append_nil]
      show some (byteCells (v'.data.toList.take v'.data.toList.length)) = _
      rw [List.take_length, byteCells_rows]
  rcases orE_eq h with ⟨⟨b, z, len⟩, hx, h⟩ | ⟨_, h⟩
  · obtain ⟨h1, h⟩ := iff_some h
    have h1 : ei.size = z := (beq_iff _ _).1 h1
    obtain ⟨c, h2, h3, h4⟩ := sAll_ok h
    rw [← h1] at h3 h4
    refine ⟨_, c, key ?_ ?_ h3, h2, h3⟩
    · rw [asOsS_eq hx]; rfl
    · rw [asOsS_eq hx]; exact h4
  rcases orE_eq h with ⟨⟨b, z, len, nl, nn⟩, hx, h⟩ | ⟨_, h⟩
  · rcases iff_way h with ⟨h1, h⟩ | ⟨h1, h⟩
    · have h1 : nl = true := h1
      obtain ⟨h2, h⟩ := iff_some h
      have h2 : nn = true := h2
      subst h1; subst h2
      refine ⟨0, .nil, key ?_ ?_ ?_, h, ?_⟩
      · rw [asMo_eq hx]; rfl
      · rw [asMo_eq hx]
        show (iff (isZ (Nat.mul 0 ei.size)) (some []) none : Option (List Value)) = _
        rw [show Nat.mul 0 ei.size = 0 from Nat.zero_mul _]; rfl
      · show 0 = 0 * ei.size; rw [Nat.zero_mul]
      · show 0 = 0 * ei.size; rw [Nat.zero_mul]
    · have h1 : nl = false := h1
      subst h1
      obtain ⟨h2, h⟩ := iff_some h
      have h2 : ei.size = z := (beq_iff _ _).1 h2
      obtain ⟨c, org, h3, h4, h5⟩ := sMay_ok h
      have h4 : c.cells.length = len * z := h4
      rw [← h2] at h4
      refine ⟨len, c, key ?_ ?_ h4, h3, h4⟩
      · rw [asMo_eq hx]; rfl
      · rw [asMo_eq hx]
        show s.g.cellsAt b 0 (Nat.mul len ei.size) = _
        rw [show Nat.mul len ei.size = c.cells.length from h4.symm]
        exact cellsAt_own h5
  · obtain ⟨a, n, cap, hx, h⟩ := andThen3_eq h
    rw [asSl_eq hx] at key ⊢
    cases a with
    | none =>
      obtain ⟨h1, h⟩ := iff_some (show iff (isZ n) (K 0 .nil) none = some r from h)
      rw [Tr.isZ_iff] at h1
      subst h1
      refine ⟨0, .nil, key rfl ?_ ?_, h, ?_⟩
      · show (iff (isZ (Nat.mul 0 ei.size)) (some []) none : Option (List Value)) = _
        rw [show Nat.mul 0 ei.size = 0 from Nat.zero_mul _]; rfl
      · show 0 = 0 * ei.size; rw [Nat.zero_mul]
      · show 0 = 0 * ei.size; rw [Nat.zero_mul]
    | some a =>
      obtain ⟨c, h1, h2, h3⟩ := sCut_ok (show sCut s a.block a.off (Nat.mul n ei.size) (K n) = some r from h)
      exact ⟨n, c, key rfl h3 h2, h1, h2⟩
variable (T : Tab)
noncomputable def roomOk (ei : TI) (m : Nat) : Bool := and (and (Nat.ble (Nat.mul m (Nat.succ ei.info.bytes)) (nat_lit 1000000000)) (Nat.ble (nat_lit 1) ei.info.bytes)) (zcells ei).isSome
theorem app_room {ei : TI} {m : Nat} (h : roomOk ei m = true) {α : Type} (a : Option α) (b : Option α) : iff (and (Nat.ble (Nat.mul m (Nat.succ ei.info.bytes)) 1000000000) (Nat.ble 1 ei.info.bytes)) (andThen (zcells ei) fun _ => a) b = a := by
  unfold roomOk at h
  rw [Bool.and_eq_true] at h
  have h1 : (Nat.ble (Nat.mul m (Nat.succ ei.info.bytes)) 1000000000 && Nat.ble 1 ei.info.bytes) = true := h.1
  show iff (Nat.ble (Nat.mul m (Nat.succ ei.info.bytes)) 1000000000 && Nat.ble 1 ei.info.bytes) _ b = a
  rw [h1, iff_true]
  cases hz : zcells ei with
  | none => rw [hz] at h; cases h.2
  | some c => rfl
noncomputable def sGrow (ei : TI) (b org z len n : Nat) (l c : Sym) (s : SSt) (K : Sym → SSt → Option R) : Option R :=
  iff (roomOk ei (addN len n)) (K (.os s.next z (addN len n)) ((⟨s.heap.set b (.cel l (some z) org false true), s.next, s.low, minN b s.klow⟩ : SSt).new (appS l c) (some z) org)) none
noncomputable def sAppOs (ei : TI) (b z len n : Nat) (c : Sym) (s : SSt) (K : Sym → SSt → Option R) : Option R :=
  andThen (s.heap.get b) fun o => andThen3 (ownO o) fun l e org => andThen e fun ze => iff (and (Nat.beq ze z) (and (Nat.beq z ei.size) (Nat.beq l.size (Nat.mul len z)))) (iff (isZ n) (K (.os b z len) s) (sGrow ei b org z len n l c s K)) none
noncomputable def sAppMo (ei : TI) (b z len n : Nat) (c : Sym) (nn : Bool) (s : SSt) (K : Sym → SSt → Option R) : Option R :=
  sMay s b z len fun l org => iff (Nat.beq z ei.size) (iff (isZ n) (K (.mo b z len false nn) s) (sGrow ei b org z len n l c s K)) none
noncomputable def sApp0 (ei : TI) (v : Sym) (n : Nat) (c : Sym) (s : SSt) (K : Sym → SSt → Option R) : Option R :=
  iff (isZ n) (K v s) (iff (roomOk ei n) (K (.os s.next ei.size n) (s.new c (some ei.size) s.next)) none)
noncomputable def sApp1 (ei : TI) (v : Sym) (k off len n : Nat) (c : Sym) (s : SSt) (K : Sym → SSt → Option R) : Option R :=
  iff (isZ n) (K v s) (iff (roomOk ei (addN len n)) (sCut s k off (Nat.mul len ei.size) fun old => K (.os s.next ei.size (addN len n)) (s.new (appS old c) (some ei.size) s.next)) none)
noncomputable def sAppRaw (ei : TI) (v : Sym) (n : Nat) (c : Sym) (s : SSt) (K : Sym → SSt → Option R) (a : Option Addr) (len cap : Nat) : Option R :=
  iff (Nat.beq len cap) (match a with
    | none => iff (isZ len) (sApp0 ei v n c s K) none
    | some ⟨k, off, none⟩ => sApp1 ei v k off len n c s K
    | _ => none) none
noncomputable def sApp (ei : TI) (v : Sym) (n : Nat) (c : Sym) (s : SSt) (K : Sym → SSt → Option R) : Option R :=
  orE (asDS v) (fun _ => iff (isZ n) (K v s) none) <|
  orE (asOsS v) (fun q => sAppOs ei q.1 q.2.1 q.2.2 n c s K) <|
  orE (asMo v) (fun q => iff q.2.2.2.1 (iff q.2.2.2.2 (sApp0 ei (.v (.slice none 0 0)) n c s K) (sApp1 ei (.v (.slice (some ⟨q.1, 0, none⟩) 0 0)) q.1 0 0 n c s K)) (sAppMo ei q.1 q.2.1 q.2.2.1 n c q.2.2.2.2 s K)) <|
  andThen3 (asSl v.val) (sAppRaw ei v n c s K)
noncomputable def sAppend (tys : List TypeId) (args : List Sym) (s : SSt) (K : Sym → SSt → Option R) : Option R :=
  andThen2 (arg2 tys) fun sT xT => andThen2 (arg2 args) fun v x => andThen (desc T sT) fun d => andThen (sliceElem d) fun e => andThen (ty T e) fun ei => andThen (desc T xT) fun dx => iff (notInt dx) (sAdds ei x s fun n c => sApp ei v n c s K) none
variable {T}
noncomputable def appTo (ei : TI) (n : Nat) (ys : List Value) (σ : ASt) (base : Option Addr) (len cap : Nat) : Res :=
  iff (Nat.ble (Nat.add len n) cap) (storeS σ ys (Nat.mul len ei.size) (.slice base (Nat.add len n) cap) base)
    (iff (and (Nat.ble (Nat.mul (Nat.add len n) (Nat.succ ei.info.bytes)) (nat_lit 1000000000)) (Nat.ble 1 ei.info.bytes))
      (andThen (zcells ei) fun _ => andThen (firstA σ (Nat.mul len ei.size) base) fun old => growV σ ei.size len (Nat.add len n) (appQ old ys) base) none)
theorem storeS_nil {σ : ASt} {off : Nat} {v : Value} (a : Option Addr) : storeS σ [] off v a = some (v, σ) := by
  cases a <;> rfl
theorem ble_self_add {len n : Nat} : Nat.ble (Nat.add len n) len = isZ n := by
  cases n with
  | zero => exact (ble_iff _ _).2 (Nat.le_refl _)
  | succ n =>
    cases h : Nat.ble (Nat.add len (n + 1)) len with
    | false => rfl
    | true =>
      have h1 : len + (n + 1) ≤ len := (ble_iff _ _).1 h
      omega
theorem appTo_zero {ei : TI} {ys : List Value} {σ : ASt} {base : Option Addr} {len n : Nat} (hn : isZ n = true) (hy : ys.length = n * ei.size) : appTo ei n ys σ base len len = some (.slice base len len, σ) := by
  rw [Tr.isZ_iff] at hn
  subst hn
  rw [Nat.zero_mul] at hy
  obtain rfl := List.eq_nil_of_length_eq_zero hy
  unfold appTo
  rw [ble_self_add, show isZ 0 = true from rfl, iff_true, storeS_nil]; rfl
theorem appTo_grow {ei : TI} {ys : List Value} {σ : ASt} {base : Option Addr} {len n : Nat} (hn : isZ n = false) (hr : roomOk ei (addN len n) = true) : appTo ei n ys σ base len len = andThen (firstA σ (Nat.mul len ei.size) base) fun old => growV σ ei.size len (Nat.add len n) (appQ old ys) base := by
  unfold appTo
  rw [ble_self_add, hn, iff_false]
  rw [addN_eq] at hr
  exact app_room hr _ _
theorem open_new {s : SSt} {c : Sym} {z org m : Nat} : openSlice s.g m c.cells z org = some ((Sym.os s.next z m).val, (s.new c (some z) org).g) := by
  unfold openSlice
  rw [SSt.new_g]; rfl
theorem sGrow_ok {ei : TI} {b org z len n : Nat} {l c : Sym} {s : SSt} {K : Sym → SSt → Option R} {r : R} (hn : isZ n = false) (hz : z = ei.size) (hl : l.cells.length = len * z) (ho : s.g.obj b = some (.cells l.cells (some z) org false false)) (h : sGrow ei b org z len n l c s K = some r) :
    Says (appTo ei n c.cells s.g (some ⟨b, 0, some z⟩) len len) s K r := by
  obtain ⟨hr, h⟩ := iff_some h
  refine ⟨_, _, ?_, h⟩
  rw [appTo_grow hn hr]
  subst hz
  have h1 : firstA s.g (Nat.mul len ei.size) (some ⟨b, 0, some ei.size⟩) = some l.cells := by
    show s.g.cellsAt b 0 (Nat.mul len ei.size) = _
    rw [show Nat.mul len ei.size = l.cells.length from hl.symm]
    exact cellsAt_own ho
  rw [h1, andThen_some]
  show iff (Nat.beq ei.size ei.size) (andThen3 (s.g.kill b (Nat.add 0 (Nat.mul len ei.size))) fun z' org σ' => iff (Nat.beq z' ei.size) (openSlice σ' (Nat.add len n) (appQ l.cells c.cells) ei.size org) none) none = _
  have h2 : s.g.kill b (Nat.add 0 (Nat.mul len ei.size)) = some (ei.size, org, (⟨s.heap.set b (.cel l (some ei.size) org false true), s.next, s.low, minN b s.klow⟩ : SSt).g) := by
    unfold ASt.kill
    rw [ho]
    show iff (Nat.beq (lenQ l.cells) (Nat.add 0 (Nat.mul len ei.size))) (some (ei.size, org, (⟨s.g.heap.set b (.cells l.cells (some ei.size) org false true), s.next, s.low, minN b s.klow⟩ : ASt))) none = _
    rw [lenQ_eq, (beq_iff _ _).2 (by rw [hl]; show _ = 0 + len * ei.size; omega), iff_true]
    unfold SSt.g
    rw [mapT_set (show SObj.g (.cel l (some ei.size) org false true) = some (.cells l.cells (some ei.size) org false true) from rfl)]
  rw [(beq_iff _ _).2 rfl, iff_true, h2, andThen3_some, (beq_iff _ _).2 rfl, iff_true, appQ_eq, ← appS_cells, addN_eq]
  exact open_new
theorem own_obj {s : SSt} {b org : Nat} {e : Option Nat} {o : SObj} {l : Sym} (h : s.heap.get b = some o) (h1 : ownO o = some (l, e, org)) : s.g.obj b = some (.cells l.cells e org false false) := by
  rw [SSt.obj_g, h, ownO_eq h1]; rfl
theorem sApp0_ok {ei : TI} {v : Sym} {n : Nat} {c : Sym} {s : SSt} {K : Sym → SSt → Option R} {r : R} (hv : v.val = .slice none 0 0) (hy : c.cells.length = n * ei.size) (h : sApp0 ei v n c s K = some r) : Says (appTo ei n c.cells s.g none 0 0) s K r := by
  rcases iff_way h with ⟨hn, h⟩ | ⟨hn, h⟩
  · exact ⟨v, s, by rw [appTo_zero hn hy, hv], h⟩
  · obtain ⟨hr, h⟩ := iff_some h
    refine ⟨_, _, ?_, h⟩
    rw [appTo_grow hn (show roomOk ei (addN 0 n) = true from hr)]
    have : firstA s.g (Nat.mul 0 ei.size) none = some [] := by
      show (iff (isZ (Nat.mul 0 ei.size)) (some []) none : Option (List Value)) = _
      rw [show Nat.mul 0 ei.size = 0 from Nat.zero_mul _]; rfl
    rw [this, andThen_some]
    show openSlice s.g (Nat.add 0 n) c.cells ei.size s.g.next = _
    rw [show Nat.add 0 n = n from Nat.zero_add n]
    exact open_new
theorem sApp1_ok {ei : TI} {v : Sym} {k off len n : Nat} {c : Sym} {s : SSt} {K : Sym → SSt → Option R} {r : R} (hv : v.val = .slice (some ⟨k, off, none⟩) len len) (hy : c.cells.length = n * ei.size) (h : sApp1 ei v k off len n c s K = some r) : Says (appTo ei n c.cells s.g (some ⟨k, off, none⟩) len len) s K r := by
  rcases iff_way h with ⟨hn, h⟩ | ⟨hn, h⟩
  · exact ⟨v, s, by rw [appTo_zero hn hy, hv], h⟩
  · obtain ⟨hr, h⟩ := iff_some h
    obtain ⟨old, h1, h2, h3⟩ := sCut_ok h
    refine ⟨_, _, ?_, h1⟩
    rw [appTo_grow hn hr]
    show (andThen (s.g.cellsAt k off (Nat.mul len ei.size)) fun old => openSlice s.g (Nat.add len n) (appQ old c.cells) ei.size s.g.next) = _
    rw [h3, andThen_some, appQ_eq, ← appS_cells, addN_eq]
    exact open_new
theorem sApp_ok {ei : TI} {v : Sym} {n : Nat} {c : Sym} {s : SSt} {K : Sym → SSt → Option R} {r : R} (hy : c.cells.length = n * ei.size) (h : sApp ei v n c s K = some r) :
    (∃ vs rows, v.val = .tuple vs ∧ datL vs.toList = some rows ∧ Says (appendD (dat rows) n s.g) s K r) ∨ ∃ base len cap, v.val = .slice base len cap ∧ Says (appTo ei n c.cells s.g base len cap) s K r := by
  rcases orE_eq h with ⟨⟨t, xs⟩, hx, h⟩ | ⟨_, h⟩
  · obtain ⟨hn, h⟩ := iff_some h
    refine .inl ⟨_, aggs (xs.map (cellsT t)), by rw [asDS_eq hx]; rfl, rfl, v, s, ?_, h⟩
    unfold appendD
    rw [hn, asDS_eq hx]; rfl
  rcases orE_eq h with ⟨⟨b, z, len⟩, hx, h⟩ | ⟨_, h⟩
  · refine .inr ⟨some ⟨b, 0, some z⟩, len, len, by rw [asOsS_eq hx]; rfl, ?_⟩
    obtain ⟨o, h1, k1⟩ := andThen_eq h
    obtain ⟨l, e, org, h2, k2⟩ := andThen3_eq k1
    obtain ⟨ze, h3, k3⟩ := andThen_eq k2
    obtain ⟨hc, k4⟩ := iff_some k3
    clear h k1 k2 k3
    simp only [Bool.and_eq_true, beq_iff] at hc
    obtain ⟨hz, h4, h5⟩ := hc
    have hz : ze = z := hz
    have h4 : z = ei.size := h4
    have h5 : l.size = len * z := h5
    subst h3; subst hz
    rcases iff_way k4 with ⟨hn, k5⟩ | ⟨hn, k5⟩
    · exact ⟨_, s, by rw [appTo_zero hn hy]; rfl, k5⟩
    · exact sGrow_ok hn h4 (by rw [Sym.size_eq]; exact h5) (own_obj h1 h2) k5
  rcases orE_eq h with ⟨⟨b, z, len, nl, nn⟩, hx, h⟩ | ⟨_, h⟩
  · have hb := asMo_eq hx
    clear hx
    rcases iff_way h with ⟨h1, k1⟩ | ⟨h1, k1⟩
    · have h1 : nl = true := h1
      clear h
      subst h1
      rcases iff_way k1 with ⟨h2, k2⟩ | ⟨h2, k2⟩
      · have h2 : nn = true := h2
        clear k1
        subst h2
        exact .inr ⟨none, 0, 0, by rw [hb]; rfl, sApp0_ok rfl hy k2⟩
      · have h2 : nn = false := h2
        clear k1
        subst h2
        exact .inr ⟨some ⟨b, 0, none⟩, 0, 0, by rw [hb]; rfl, sApp1_ok rfl hy k2⟩
    · have h1 : nl = false := h1
      clear h
      subst h1
      refine .inr ⟨some ⟨b, 0, some z⟩, len, len, by rw [hb]; rfl, ?_⟩
      obtain ⟨l, org, h2, h3, h4⟩ := sMay_ok k1
      obtain ⟨hz, k2⟩ := iff_some h2
      have hz : z = ei.size := (beq_iff _ _).1 hz
      rcases iff_way k2 with ⟨hn, k3⟩ | ⟨hn, k3⟩
      · exact ⟨_, s, by rw [appTo_zero hn hy]; rfl, k3⟩
      · exact sGrow_ok hn hz h3 h4 k3
  · obtain ⟨a, len, cap, hx, h⟩ := andThen3_eq h
    refine .inr ⟨a, len, cap, asSl_eq hx, ?_⟩
    have hv := asSl_eq hx
    obtain ⟨hc, k1⟩ := iff_some h
    clear h hx
    rw [beq_iff] at hc
    subst hc
    match a, k1, hv with
    | none, k1, hv =>
      obtain ⟨h1, k2⟩ := iff_some k1
      clear k1
      rw [Tr.isZ_iff] at h1
      subst h1
      exact sApp0_ok hv hy k2
    | some ⟨k, off, none⟩, k1, hv => exact sApp1_ok hv hy k1
    | some ⟨k, off, some z⟩, k1, _ => cases k1
theorem sAppend_ok {tys : List TypeId} {args : List Sym} {s : SSt} {K : Sym → SSt → Option R} {r : R} (h : sAppend T tys args s K = some r) : Says (bAppend T tys (args.map Sym.val) s.g) s K r := by
  obtain ⟨sT, xT, h1, h⟩ := andThen2_eq h
  obtain ⟨v, x, h2, h⟩ := andThen2_eq h
  obtain ⟨d, h3, h⟩ := andThen_eq h
  obtain ⟨e, h4, h⟩ := andThen_eq h
  obtain ⟨ei, h5, h⟩ := andThen_eq h
  obtain ⟨dx, h6, h⟩ := andThen_eq h
  obtain ⟨h7, h⟩ := iff_some h
  obtain ⟨n, c, h8, h9, h10⟩ := sAdds_ok h7 h
  unfold bAppend
  rw [h1, andThen2_some, arg2_map h2, andThen2_some]
  unfold appendV
  rw [h3, andThen_some, h4, andThen_some, h5, andThen_some]
  rcases sApp_ok h10 h9 with ⟨vs, rows, g1, g2, g3⟩ | ⟨base, len, cap, g1, g2⟩
  · rw [g1]
    show Says (andThen (datL vs.toList) fun rows => andThen (desc T xT) fun dx => andThen2 (addsV s.g ei x.val dx) fun n _ => appendD (dat rows) n s.g) s K r
    rw [g2, andThen_some, h6, andThen_some, h8, andThen2_some]
    exact g3
  · rw [g1]
    show Says (andThen3 (some (base, len, cap)) fun base len cap => andThen (desc T xT) fun dx => andThen2 (addsV s.g ei x.val dx) fun n ys => appTo ei n ys s.g base len cap) s K r
    rw [andThen3_some, h6, andThen_some, h8, andThen2_some]
    exact g2
end
end Go.Abs
namespace Go.Abs
section
variable {kt vt : Ty}
abbrev EntT (kt vt : Ty) : Type := El kt × El vt × Int
noncomputable def hasX (kt vt : Ty) (k : El kt) (xs : List (EntT kt vt)) : Bool := @List.rec (EntT kt vt) (fun _ => Bool) false (fun x _ ih => iff (eqE kt k x.1) true ih) xs
noncomputable def getX (kt vt : Ty) (k : El kt) (d : El vt) (xs : List (EntT kt vt)) : El vt := @List.rec (EntT kt vt) (fun _ => El vt) d (fun x _ ih => iff (eqE kt k x.1) x.2.1 ih) xs
noncomputable def setX (kt vt : Ty) (k : El kt) (v : El vt) (xs : List (EntT kt vt)) : List (EntT kt vt) := @List.rec (EntT kt vt) (fun _ => List (EntT kt vt)) [] (fun x r ih => iff (eqE kt k x.1) ((x.1, v, x.2.2) :: r) (x :: ih)) xs
noncomputable def delX (kt vt : Ty) (k : El kt) (xs : List (EntT kt vt)) : List (EntT kt vt) := @List.rec (EntT kt vt) (fun _ => List (EntT kt vt)) [] (fun x r ih => iff (eqE kt k x.1) r (x :: ih)) xs
noncomputable def putX (kt vt : Ty) (k : El kt) (v : El vt) (x : El (mpT kt vt)) : El (mpT kt vt) :=
  iff (hasX kt vt k x.1) (setX kt vt k v x.1, x.2) (List.append x.1 [(k, v, x.2)], Int.ofNat (Nat.succ (Int.toNat x.2)))
noncomputable def outX (kt vt : Ty) (k : El kt) (x : El (mpT kt vt)) : El (mpT kt vt) := (delX kt vt k x.1, x.2)
theorem putX_no {k : El kt} {v : El vt} {x : El (mpT kt vt)} (h : hasX kt vt k x.1 = false) : putX kt vt k v x = (List.append x.1 [(k, v, x.2)], Int.ofNat (Nat.succ (Int.toNat x.2))) := by
  unfold putX
  rw [h]; rfl
theorem putX_yes {k : El kt} {v : El vt} {x : El (mpT kt vt)} (h : hasX kt vt k x.1 = true) : putX kt vt k v x = (setX kt vt k v x.1, x.2) := by
  unfold putX
  rw [h]; rfl
theorem findK_ok {T : Tab} {t : TypeId} (hE : ∀ x y : El kt, eqV T 3 t (valT kt x) (valT kt y) = some (eqE kt x y)) (k : El kt) (d v : El vt) : ∀ (xs : List (EntT kt vt)) (i : Nat),
    (hasX kt vt k xs = false ∧ findK T t (valT kt k) (xs.map (entE kt vt)) i = some none ∧ getX kt vt k d xs = d ∧ delX kt vt k xs = xs) ∨
    (hasX kt vt k xs = true ∧ ∃ j x, eqE kt k x.1 = true ∧ findK T t (valT kt k) (xs.map (entE kt vt)) i = some (some (i + j, entE kt vt x)) ∧ getX kt vt k d xs = x.2.1 ∧
      setEntry (valT vt v) (xs.map (entE kt vt)) j = (setX kt vt k v xs).map (entE kt vt) ∧ (xs.map (entE kt vt)).eraseIdx j = (delX kt vt k xs).map (entE kt vt))
  | [], i => .inl ⟨rfl, rfl, rfl, rfl⟩
  | x :: xs, i => by
    have hf : findK T t (valT kt k) ((x :: xs).map (entE kt vt)) i = andThen (eqV T 3 t (valT kt k) (valT kt x.1)) fun b => iff b (some (some (i, entE kt vt x))) (findK T t (valT kt k) (xs.map (entE kt vt)) (Nat.succ i)) := rfl
    have hh : hasX kt vt k (x :: xs) = iff (eqE kt k x.1) true (hasX kt vt k xs) := rfl
    have hg : getX kt vt k d (x :: xs) = iff (eqE kt k x.1) x.2.1 (getX kt vt k d xs) := rfl
    have hs : setX kt vt k v (x :: xs) = iff (eqE kt k x.1) ((x.1, v, x.2.2) :: xs) (x :: setX kt vt k v xs) := rfl
    have hd : delX kt vt k (x :: xs) = iff (eqE kt k x.1) xs (x :: delX kt vt k xs) := rfl
    rw [hf, hh, hg, hs, hd, hE, andThen_some]
    cases hb : eqE kt k x.1 with
    | true => exact .inr ⟨rfl, 0, x, hb, rfl, rfl, rfl, rfl⟩
    | false =>
      simp only [iff_false]
      rcases findK_ok hE k d v xs (Nat.succ i) with ⟨h1, h2, h3, h4⟩ | ⟨h1, j, y, h2, h3, h4, h5, h6⟩
      · exact .inl ⟨h1, h2, h3, by rw [h4]⟩
      · refine .inr ⟨h1, j + 1, y, h2, ?_, h4, ?_, ?_⟩
        · rw [h3]; congr 3; omega
        · show entE kt vt x :: setEntry (valT vt v) (xs.map (entE kt vt)) j = _
          rw [h5]; rfl
        · show entE kt vt x :: (xs.map (entE kt vt)).eraseIdx j = _
          rw [h6]; rfl
def isIntTy : Ty → Bool
  | .int _ => true
  | _ => false
def intsT : Ty → Bool
  | .pair a b => and (isIntTy a) (intsT b)
  | .unit => true
  | _ => false
def keyT : Ty → Bool
  | .int _ => true
  | .str => true
  | .bool => true
  | .pair a b => intsT (.pair a b)
  | _ => false
theorem intsT_inv {a b : Ty} (h : intsT (.pair a b) = true) : (∃ k, a = .int k) ∧ intsT b = true := by
  have h : and (isIntTy a) (intsT b) = true := h
  rw [Bool.and_eq_true] at h
  refine ⟨?_, h.2⟩
  have h1 := h.1
  cases a <;> first | exact ⟨_, rfl⟩ | cases h1
theorem intsT_flat : ∀ {t : Ty}, intsT t = true → flatTy t = true
  | .unit, _ => rfl
  | .pair a b, h => by
    obtain ⟨⟨k, rfl⟩, h2⟩ := intsT_inv h
    show and true (flatTy b) = true
    rw [intsT_flat h2]; rfl
theorem keyT_flat {t : Ty} (h : keyT t = true) : flatTy t = true := by
  cases t <;> first | rfl | (cases h; done) | exact intsT_flat h
theorem eqQ_refl (a : Int) : eqQ a a = true := by rw [eqQ_eq]; exact beq_self_eq_true _
theorem sameInts_self : ∀ {t : Ty}, intsT t = true → ∀ x : El t, sameInts (cellsT t x) (cellsT t x) = true
  | .unit, _, x => rfl
  | .pair a b, h, x => by
    obtain ⟨⟨k, rfl⟩, h2⟩ := intsT_inv h
    show and (and (sameKind k k) (eqQ x.1 x.1)) (sameInts (cellsT b x.2) (cellsT b x.2)) = true
    rw [(sameKind_iff k k).2 rfl, sameInts_self h2 x.2, show eqQ (x.1 : Int) x.1 = true from eqQ_refl x.1]
    rfl
theorem sameKey_self {t : Ty} (h : keyT t = true) (x : El t) : sameKey (valT t x) (valT t x) = true := by
  cases t <;> first | (cases h; done) | skip
  case bool => cases x <;> rfl
  case int k =>
    show and (sameKind k k) (eqQ x x) = true
    rw [(sameKind_iff k k).2 rfl]
    exact eqQ_refl x
  case str =>
    exact beq_self_eq_true (α := List UInt8) x
  case pair a b =>
    have h : intsT (.pair a b) = true := h
    show sameKey (valT (.pair a b) x) (valT (.pair a b) x) = true
    unfold valT
    rw [if_pos (show aggT (.pair a b) = true from rfl)]
    exact sameInts_self h x
section
variable {T : Tab} {σ : ASt} {t key elem : TypeId} {x ix : Value} {b cl : Nat} {es : List MapEntry}
theorem ents_obj (h : σ.obj b = some (.map es cl)) : andThen (σ.obj b) entriesOf = some (es, cl) := by rw [h]; rfl
theorem mapAt_obj (h : σ.obj b = some (.map es cl)) : mapAt σ (some b) = some es := by
  show andThen2 (andThen (σ.obj b) entriesOf) (fun es _ => some es) = _
  rw [ents_obj h]; rfl
theorem lookup_hit {ok : Bool} (h1 : mapType T t = some (key, elem)) (hx : x = .map (some b)) (ho : σ.obj b = some (.map es cl)) {j : Nat} {e : MapEntry} (hf : findE T key ix es = some (some (j, e))) : lookupV T σ t x ix ok = some (okOr ok e.val true) := by
  subst hx
  unfold lookupV
  rw [h1, andThen2_some]
  show (andThen (mapAt σ (some b)) fun es => andThen (findE T key ix es) fun hit => _) = _
  rw [mapAt_obj ho, andThen_some, hf]; rfl
theorem lookup_not {ok : Bool} {z : Value} (h1 : mapType T t = some (key, elem)) (hx : x = .map (some b)) (ho : σ.obj b = some (.map es cl)) (hf : findE T key ix es = some none) (hz : zero T elem = some z) : lookupV T σ t x ix ok = some (okOr ok z false) := by
  subst hx
  unfold lookupV
  rw [h1, andThen2_some]
  show (andThen (mapAt σ (some b)) fun es => andThen (findE T key ix es) fun hit => _) = _
  rw [mapAt_obj ho, andThen_some, hf, andThen_some]
  show (andThen (zero T elem) fun z => some (okOr ok z false)) = _
  rw [hz]; rfl
theorem update_hit {v : Value} (h1 : mapType T t = some (key, elem)) (hx : x = .map (some b)) (ho : σ.obj b = some (.map es cl)) {j : Nat} {e : MapEntry} (hf : findE T key ix es = some (some (j, e))) (hk : sameKey e.key ix = true) : updateV T σ t x ix v = some (σ.setMap b (setEntry v es j) cl) := by
  subst hx
  unfold updateV
  rw [h1, andThen2_some, show asM (Value.map (some b)) = some (some b) from rfl, andThen_some, andThen_some, ents_obj ho, andThen2_some, hf, andThen_some]
  show iff (sameKey e.key ix) (some (σ.setMap b (setEntry v es j) cl)) none = _
  rw [hk]; rfl
theorem update_not {v : Value} (h1 : mapType T t = some (key, elem)) (hx : x = .map (some b)) (ho : σ.obj b = some (.map es cl)) (hf : findE T key ix es = some none) : updateV T σ t x ix v = some (σ.setMap b (es ++ [{ key := ix, val := v, born := cl }]) (Nat.succ cl)) := by
  subst hx
  unfold updateV
  rw [h1, andThen2_some, show asM (Value.map (some b)) = some (some b) from rfl, andThen_some, andThen_some, ents_obj ho, andThen2_some, hf]; rfl
theorem delete_hit (h1 : mapType T t = some (key, elem)) (hx : x = .map (some b)) (ho : σ.obj b = some (.map es cl)) {j : Nat} {e : MapEntry} (hf : findE T key ix es = some (some (j, e))) : deleteV T σ t x ix = some (σ.setMap b (es.eraseIdx j) cl) := by
  subst hx
  unfold deleteV
  rw [h1, andThen2_some, show asM (Value.map (some b)) = some (some b) from rfl, andThen_some, andThen_some, ents_obj ho, andThen2_some, hf]; rfl
theorem delete_not (h1 : mapType T t = some (key, elem)) (hx : x = .map (some b)) (ho : σ.obj b = some (.map es cl)) (hf : findE T key ix es = some none) : deleteV T σ t x ix = some (σ.setMap b es cl) := by
  subst hx
  unfold deleteV
  rw [h1, andThen2_some, show asM (Value.map (some b)) = some (some b) from rfl, andThen_some, andThen_some, ents_obj ho, andThen2_some, hf]; rfl
theorem len_map (hx : x = .map (some b)) (ho : σ.obj b = some (.map es cl)) : lenMap σ x = some es.length := by
  subst hx
  show (andThen (mapAt σ (some b)) fun es => some (lenQ es)) = _
  rw [mapAt_obj ho, andThen_some, lenQ_eq]
end
noncomputable def mapTy {R : Type} (T : Tab) (t : TypeId) (K : TypeId → TypeId → Ty → Ty → Option R) : Option R :=
  andThen2 (mapType T t) fun key elem => andThen (tyOf T (nat_lit 3) key) fun kt => andThen (tyOf T (nat_lit 10) elem) fun vt => iff (keyT kt) (K key elem kt vt) none
end
section
variable {R : Type} (T : Tab)
def asMv : Sym → Option Nat
  | .v (.map (some b)) => some b
  | _ => none
theorem asMv_eq {s : Sym} {b : Nat} (h : asMv s = some b) : s = .v (.map (some b)) := by
  unfold asMv at h
  split at h
  · cases h; rfl
  · cases h
noncomputable def mapAtS (kt vt : Ty) (b : Nat) (s : SSt) (K : El (mpT kt vt) → Option R) : Option R := andThen (s.heap.get b) fun o => match o with
  | .mp kt' vt' x => andThen (castT (mpT kt' vt') (mpT kt vt) x) K
  | _ => none
noncomputable def setM (s : SSt) (b : Nat) (kt vt : Ty) (x : El (mpT kt vt)) : SSt := ⟨s.heap.set b (.mp kt vt x), s.next, minN b s.low, s.klow⟩
noncomputable def sMakeMap (t : TypeId) (r : Option Sym) (s : SSt) (K : Sym → SSt → Option R) : Option R :=
  andThen (hintOk (r.map Sym.val)) fun _ => mapTy T t fun _ _ kt vt => K (.v (.map (some s.next))) ⟨s.heap.set s.next (.mp kt vt ([], Int.ofNat (nat_lit 0))), Nat.succ s.next, s.low, s.klow⟩
noncomputable def okOrS (ok : Bool) (v : Sym) (b : Bool) : Sym := iff ok (.tup (.cons v (.cons (.v (.bool b)) .nil))) v
noncomputable def sLookup (t : TypeId) (x i : Sym) (ok : Bool) (s : SSt) (K : Sym → SSt → Option R) : Option R :=
  mapTy T t fun _ elem kt vt => andThen (asMv x) fun b => mapAtS kt vt b s fun m => colV false (fun _ => none) kt i fun k => andThen (zero T elem) fun z => colV false (fun _ => none) vt (symOf z) fun d =>
    K (okOrS ok (mkD vt (getX kt vt k d m.1)) (hasX kt vt k m.1)) s
noncomputable def sUpdate (t : TypeId) (x i y : Sym) (s : SSt) (K : Sym → SSt → Option R) : Option R :=
  mapTy T t fun _ _ kt vt => andThen (asMv x) fun b => mapAtS kt vt b s fun m => colV false (fun _ => none) kt i fun k => colV false (fun _ => none) vt y fun v => K (.v undef) (setM s b kt vt (putX kt vt k v m))
noncomputable def sDelete (t : TypeId) (x i : Sym) (s : SSt) (K : Sym → SSt → Option R) : Option R :=
  mapTy T t fun _ _ kt vt => andThen (asMv x) fun b => mapAtS kt vt b s fun m => colV false (fun _ => none) kt i fun k => K (.v undef) (setM s b kt vt (outX kt vt k m))
noncomputable def sMapLen (x : Sym) (s : SSt) (K : Sym → SSt → Option R) : Option R :=
  andThen (asMv x) fun b => andThen (s.heap.get b) fun o => match o with
  | .mp _ _ m => K (.v (.int .i64 (Int.ofNat (List.length m.1)))) s
  | _ => none
variable {T}
theorem tyFs_agg {f : TypeId → Option Ty} : ∀ (fs : List Field) (off : Nat) (t : Ty), tyFs f fs off = some t → aggT t = true
  | [], _, t, h => by cases (show some Ty.unit = some t from h); rfl
  | q :: fs, off, t, h => by
    rcases iff_way (show iff (or (q.name == "_") (not (Nat.beq q.offset off))) none (andThen (f q.type) fun t => andThen (tyFs f fs (Nat.add off (sizeT t))) fun r => some (.pair t r)) = some t from h) with ⟨_, h1⟩ | ⟨_, h1⟩
    · cases h1
    obtain ⟨t1, _, h3⟩ := andThen_eq h1
    obtain ⟨r, _, h5⟩ := andThen_eq h3
    cases h5; rfl
theorem offs_lt {f : TypeId → Option Ty} : ∀ (fs : List Field) (off : Nat) (t : Ty), tyFs f fs off = some t → intsT t = true → ∀ g ∈ fs, g.offset < off + sizeT t
  | [], _, _, _, _, g, hg => by cases hg
  | q :: fs, off, t, h, hi, g, hg => by
    rcases iff_way (show iff (or (q.name == "_") (not (Nat.beq q.offset off))) none (andThen (f q.type) fun t => andThen (tyFs f fs (Nat.add off (sizeT t))) fun r => some (.pair t r)) = some t from h) with ⟨_, h1⟩ | ⟨h0, h1⟩
    · cases h1
    obtain ⟨t1, h2, h3⟩ := andThen_eq h1
    obtain ⟨r, h4, h5⟩ := andThen_eq h3
    cases h5
    obtain ⟨⟨k, rfl⟩, h6⟩ := intsT_inv hi
    simp only [Bool.or_eq_false_iff] at h0
    have hoff : q.offset = off := by
      have := h0.2
      rw [Bool.not_eq_false', beq_iff] at this
      exact this
    have hs : sizeT (.pair (.int k) r) = 1 + sizeT r := rfl
    rcases List.mem_cons.1 hg with rfl | hg
    · rw [hs, hoff]; omega
    · have := offs_lt fs (Nat.add off (sizeT (.int k))) r h4 h6 g hg
      rw [hs]
      have h9 : Nat.add off (sizeT (.int k)) = off + 1 := rfl
      omega
theorem tyOf_int : ∀ {d : Nat} {t : TypeId} {k : IntKind}, tyOf T d t = some (.int k) → intTy T t = true
  | 0, t, k, h => by cases (show none = some (Ty.int k) from h)
  | d + 1, t, k, h => by
    obtain ⟨i, g1, g2⟩ := andThen_eq (show andThen (ty T t) (fun i => andThen (tyD i.held (tyOf T d) i.desc) fun u => iff (and (Nat.beq i.size (sizeT u)) (i.agg == aggT u)) (some u) none) = some (.int k) from h)
    obtain ⟨u, g3, g4⟩ := andThen_eq g2
    obtain ⟨_, g5⟩ := iff_some g4
    cases g5
    have hd : i.desc = .int k := by
      cases hd : i.desc <;> rw [hd] at g3 <;> first | (cases g3; done) | skip
      case int k' => cases (show some (Ty.int k') = some (.int k) from g3); rfl
      case array n e =>
        obtain ⟨t1, _, g6⟩ := andThen_eq (show andThen (tyOf T d e) (fun t => some (Ty.arr n t)) = some (.int k) from g3)
        cases g6
      case struct fs =>
        rcases iff_way (show iff i.held none (tyFs (tyOf T d) fs.toList 0) = some (.int k) from g3) with ⟨_, h7⟩ | ⟨_, h8⟩
        · cases h7
        · have := tyFs_agg _ _ _ h8
          cases this
    unfold intTy desc
    rw [g1, andThen_some]
    show (match andThen (some i.desc) intKind with | some _ => true | none => false) = true
    rw [hd]
    rfl
theorem ints_of {d : Nat} : ∀ (fs : List Field) (off : Nat) (t : Ty), tyFs (tyOf T d) fs off = some t → intsT t = true → ∀ g ∈ fs, intTy T g.type = true
  | [], _, _, _, _, g, hg => by cases hg
  | q :: fs, off, t, h, hi, g, hg => by
    rcases iff_way (show iff (or (q.name == "_") (not (Nat.beq q.offset off))) none (andThen (tyOf T d q.type) fun t => andThen (tyFs (tyOf T d) fs (Nat.add off (sizeT t))) fun r => some (.pair t r)) = some t from h) with ⟨_, h1⟩ | ⟨_, h1⟩
    · cases h1
    obtain ⟨t1, h2, h3⟩ := andThen_eq h1
    obtain ⟨r, h4, h5⟩ := andThen_eq h3
    cases h5
    obtain ⟨⟨k, rfl⟩, h6⟩ := intsT_inv hi
    rcases List.mem_cons.1 hg with rfl | hg
    · exact tyOf_int h2
    · exact ints_of fs _ r h4 h6 g hg
theorem mapTy_eq {t : TypeId} {K : TypeId → TypeId → Ty → Ty → Option R} {r : R} (h : mapTy T t K = some r) : ∃ key elem kt vt, mapType T t = some (key, elem) ∧ keyT kt = true ∧
    (∀ x y : El kt, eqV T 3 key (valT kt x) (valT kt y) = some (eqE kt x y)) ∧ (∀ x : El kt, keyFit T key (valT kt x) = true) ∧ K key elem kt vt = some r := by
  obtain ⟨key, elem, h1, h⟩ := andThen2_eq h
  obtain ⟨kt, h2, h⟩ := andThen_eq h
  obtain ⟨vt, h3, h⟩ := andThen_eq h
  obtain ⟨h4, h⟩ := iff_some h
  refine ⟨key, elem, kt, vt, h1, h4, (eqV_ok 3 key kt h2).2, fun x => ?_, h⟩
  obtain ⟨i, g1, g2⟩ := andThen_eq (show andThen (ty T key) (fun i => andThen (tyD i.held (tyOf T 2) i.desc) fun u => iff (and (Nat.beq i.size (sizeT u)) (i.agg == aggT u)) (some u) none) = some kt from h2)
  obtain ⟨u, g3, g4⟩ := andThen_eq g2
  obtain ⟨_, g5⟩ := iff_some g4
  cases g5
  unfold keyFit desc
  rw [g1, andThen_some]
  show keyFitD T (valT kt x) i.desc = true
  cases hd : i.desc <;> rw [hd] at g3 <;> first | (cases g3; done) | rfl | skip
  case struct fs =>
    rcases iff_way (show iff i.held none (tyFs (tyOf T 2) fs.toList 0) = some kt from g3) with ⟨_, h7⟩ | ⟨_, h8⟩
    · cases h7
    have hag : aggT kt = true := tyFs_agg _ _ _ h8
    have hin : intsT kt = true := by
      cases kt <;> first | exact h4 | rfl | (cases hag; done) | (cases h4; done)
    show (match asA (valT kt x) with | some cs => or (and (fs.toList.all fun f => intTy T f.type) (fs.toList.all fun f => Nat.blt f.offset (lenQ cs))) (fs.toList.all fun f => partFit T cs f) | none => false) = true
    unfold valT
    rw [if_pos hag]
    show or (and (fs.toList.all fun f => intTy T f.type) (fs.toList.all fun f => Nat.blt f.offset (lenQ (cellsT kt x)))) (fs.toList.all fun f => partFit T (cellsT kt x) f) = true
    rw [Bool.or_eq_true]
    left
    rw [Bool.and_eq_true, lenQ_eq, cellsT_len, List.all_eq_true, List.all_eq_true]
    refine ⟨ints_of fs.toList 0 kt h8 hin, fun f hm => ?_⟩
    rw [blt_iff]
    have := offs_lt fs.toList 0 kt h8 hin f hm
    omega
  obtain ⟨t1, _, g6⟩ := andThen_eq (show andThen (tyOf T 2 _) (fun t => some (Ty.arr _ t)) = some kt from g3)
  cases g6
  cases h4
theorem castT_mp {kt vt kt' vt' : Ty} {x : El (mpT kt' vt')} {y : El (mpT kt vt)} (h : castT (mpT kt' vt') (mpT kt vt) x = some y) : entsE kt vt y = entsE kt' vt' x ∧ (y.2 : Int) = x.2 := by
  unfold castT at h
  split at h
  · rename_i hb
    have := beqT_eq hb
    injection this with this _
    injection this with this
    injection this with h1 h2
    injection h2 with h2 _
    subst h1; subst h2
    cases h
    exact ⟨rfl, rfl⟩
  · cases h
theorem mapAtS_eq {kt vt : Ty} {b : Nat} {s : SSt} {K : El (mpT kt vt) → Option R} {r : R} (h : mapAtS kt vt b s K = some r) : ∃ m, K m = some r ∧ s.g.obj b = some (.map (entsE kt vt m) (Int.toNat m.2)) := by
  obtain ⟨o, h1, h⟩ := andThen_eq h
  cases o <;> first | (cases h; done) | skip
  rename_i kt' vt' x
  obtain ⟨m, h2, h⟩ := andThen_eq h
  refine ⟨m, h, ?_⟩
  rw [SSt.obj_g, h1]
  show some (AObj.map (entsE kt' vt' x) (Int.toNat x.2)) = _
  obtain ⟨e1, e2⟩ := castT_mp h2
  rw [e1, e2]
theorem colV_val {t : Ty} {u : Sym} {K : El t → Option R} {r : R} (h : colV false (fun _ => none) t u K = some r) : ∃ y, K y = some r ∧ u.val = valT t y := by
  obtain ⟨y, h1, h2, h3, h4⟩ := colV_ok col_same h
  refine ⟨y, h1, ?_⟩
  unfold valT
  cases ha : aggT t with
  | true => rw [if_pos rfl, Sym.agg_val (h4.trans ha), h2]
  | false =>
    rw [if_neg (by decide)]
    have := Sym.one_val h3 (h4.trans ha)
    rw [h2, cellsT_one ha] at this
    exact (List.cons.inj this).1.symm
theorem setM_g {s : SSt} {b : Nat} {kt vt : Ty} {x : El (mpT kt vt)} : (setM s b kt vt x).g = s.g.setMap b (entsE kt vt x) (Int.toNat x.2) := by
  unfold setM SSt.g ASt.setMap
  rw [mapT_set (show SObj.g (.mp kt vt x) = some (.map (entsE kt vt x) (Int.toNat x.2)) from rfl)]
  rfl
theorem sMakeMap_ok {t : TypeId} {ro : Option Operand} {ρ : Operand → Sym} {s : SSt} {K : Sym → SSt → Option R} {r : R} (h : sMakeMap T t (ro.map ρ) s K = some r) : Says (makeMapV T t (ro.map fun o => (ρ o).val) s.g) s K r := by
  obtain ⟨u, h1, h⟩ := andThen_eq h
  obtain ⟨key, elem, kt, vt, h2, _, _, _, h⟩ := mapTy_eq h
  refine ⟨_, _, ?_, h⟩
  obtain ⟨d, g1, g2⟩ := andThen_eq h2
  obtain ⟨a, b, g3, g4⟩ := andThen2_eq g2
  unfold makeMapV
  rw [Option.map_map] at h1
  rw [g1, andThen_some, g3, andThen2_some, show (fun o => (ρ o).val) = Sym.val ∘ ρ from rfl, h1, andThen_some]
  unfold ASt.new SSt.g
  rw [mapT_set (show SObj.g (.mp kt vt ([], Int.ofNat 0)) = some (.map [] 0) from rfl)]
  rfl
theorem find_ok {key : TypeId} {kt vt : Ty} (hE : ∀ x y : El kt, eqV T 3 key (valT kt x) (valT kt y) = some (eqE kt x y)) (hF : ∀ x : El kt, keyFit T key (valT kt x) = true) (k : El kt) (d v : El vt) (xs : List (EntT kt vt)) :
    (hasX kt vt k xs = false ∧ findE T key (valT kt k) (xs.map (entE kt vt)) = some none ∧ getX kt vt k d xs = d ∧ delX kt vt k xs = xs) ∨
    (hasX kt vt k xs = true ∧ ∃ j x, eqE kt k x.1 = true ∧ findE T key (valT kt k) (xs.map (entE kt vt)) = some (some (j, entE kt vt x)) ∧ getX kt vt k d xs = x.2.1 ∧
      setEntry (valT vt v) (xs.map (entE kt vt)) j = (setX kt vt k v xs).map (entE kt vt) ∧ (xs.map (entE kt vt)).eraseIdx j = (delX kt vt k xs).map (entE kt vt)) := by
  unfold findE
  rw [hF, iff_true]
  rcases findK_ok hE k d v xs 0 with h | ⟨h1, j, x, h2, h3, h4⟩
  · exact .inl h
  · rw [Nat.zero_add] at h3
    exact .inr ⟨h1, j, x, h2, h3, h4⟩
theorem sLookup_ok {t : TypeId} {x i : Sym} {ok : Bool} {s : SSt} {K : Sym → SSt → Option R} {r : R} (h : sLookup T t x i ok s K = some r) : Says (val s.g (lookupV T s.g t x.val i.val ok)) s K r := by
  obtain ⟨key, elem, kt, vt, h1, h2, hE, hF, h⟩ := mapTy_eq h
  obtain ⟨b, h3, h⟩ := andThen_eq h
  obtain ⟨m, h, h4⟩ := mapAtS_eq h
  obtain ⟨k, h, h5⟩ := colV_val h
  obtain ⟨z, h6, h⟩ := andThen_eq h
  obtain ⟨d, h, h7⟩ := colV_val h
  rw [symOf_val] at h7
  refine ⟨_, s, ?_, h⟩
  have hv : ∀ (y : El vt) (c : Bool), okOr ok (valT vt y) c = (okOrS ok (mkD vt y) c).val := fun y c => by
    cases ok with
    | false => exact (mkD_val vt y).symm
    | true =>
      show Value.tuple #[valT vt y, .bool c] = Value.tuple ⟨[(mkD vt y).val, .bool c]⟩
      rw [mkD_val]
  have hx : x.val = .map (some b) := by rw [asMv_eq h3]; rfl
  have : lookupV T s.g t x.val i.val ok = some (okOrS ok (mkD vt (getX kt vt k d m.1)) (hasX kt vt k m.1)).val := by
    rcases find_ok hE hF k d d m.1 with ⟨g1, g2, g3, _⟩ | ⟨g1, j, y, _, g2, g3, _⟩
    · rw [g1, g3, ← hv, ← h7]
      rw [← h5] at g2
      exact lookup_not h1 hx h4 g2 h6
    · rw [g1, g3, ← hv]
      rw [← h5] at g2
      exact lookup_hit h1 hx h4 g2
  rw [this]; rfl
theorem sUpdate_ok {t : TypeId} {x i y : Sym} {s : SSt} {K : Sym → SSt → Option R} {r : R} (h : sUpdate T t x i y s K = some r) : Says (unit (updateV T s.g t x.val i.val y.val)) s K r := by
  obtain ⟨key, elem, kt, vt, h1, h2, hE, hF, h⟩ := mapTy_eq h
  obtain ⟨b, h3, h⟩ := andThen_eq h
  obtain ⟨m, h, h4⟩ := mapAtS_eq h
  obtain ⟨k, h, h5⟩ := colV_val h
  obtain ⟨v, h, h6⟩ := colV_val h
  refine ⟨_, _, ?_, h⟩
  have hx : x.val = .map (some b) := by rw [asMv_eq h3]; rfl
  have : updateV T s.g t x.val i.val y.val = some (setM s b kt vt (putX kt vt k v m)).g := by
    rw [setM_g]
    rcases find_ok hE hF k v v m.1 with ⟨g1, g2, _⟩ | ⟨g1, j, q, g0, g2, _, g4, _⟩
    · rw [putX_no g1]
      rw [← h5] at g2
      refine (update_not h1 hx h4 g2).trans ?_
      rw [h5, h6]
      show some (s.g.setMap b (List.map (entE kt vt) m.1 ++ [_]) _) = some (s.g.setMap b (List.map (entE kt vt) (List.append m.1 [(k, v, m.2)])) _)
      rw [show List.map (entE kt vt) (List.append m.1 [(k, v, m.2)]) = List.map (entE kt vt) m.1 ++ [entE kt vt (k, v, m.2)] from List.map_append]
      rfl
    · rw [putX_yes g1]
      have hk : k = q.1 := (eqE_iff (keyT_flat h2) k q.1).1 g0
      rw [← h5] at g2
      refine (update_hit h1 hx h4 g2 ?_).trans ?_
      · rw [h5, hk]; exact sameKey_self h2 q.1
      · rw [h6]
        show some (s.g.setMap b (setEntry (valT vt v) (List.map (entE kt vt) m.1) j) _) = some (s.g.setMap b (List.map (entE kt vt) (setX kt vt k v m.1)) _)
        rw [g4]
  rw [this]; rfl
theorem delete_ok {t : TypeId} {x i : Sym} {s : SSt} {K : Sym → SSt → Option R} {r : R} (h : sDelete T t x i s K = some r) : Says (andThen (deleteV T s.g t x.val i.val) fun σ' => some (undef, σ')) s K r := by
  obtain ⟨key, elem, kt, vt, h1, h2, hE, hF, h⟩ := mapTy_eq h
  obtain ⟨b, h3, h⟩ := andThen_eq h
  obtain ⟨m, h, h4⟩ := mapAtS_eq h
  obtain ⟨k, h, h5⟩ := colV_val h
  refine ⟨_, _, ?_, h⟩
  have hx : x.val = .map (some b) := by rw [asMv_eq h3]; rfl
  have : deleteV T s.g t x.val i.val = some (setM s b kt vt (outX kt vt k m)).g := by
    rw [setM_g]
    have hres : ∀ es, deleteV T s.g t x.val i.val = some (s.g.setMap b es (Int.toNat m.2)) → es = List.map (entE kt vt) (delX kt vt k m.1) → deleteV T s.g t x.val i.val = some (s.g.setMap b (entsE kt vt (outX kt vt k m)) (Int.toNat (outX kt vt k m).2)) := fun es e1 e2 => by
      subst e2; exact e1
    have hd : ∀ d : El vt, _ := fun d => find_ok hE hF k d d m.1
    cases hm : m.1 with
    | nil =>
      refine hres _ (delete_not h1 hx h4 ?_) ?_
      · show findE T key i.val (List.map (entE kt vt) m.1) = some none
        rw [hm, h5]
        unfold findE
        rw [hF]; rfl
      · show List.map (entE kt vt) m.1 = _
        rw [hm]; rfl
    | cons e es =>
      rcases hd e.2.1 with ⟨g1, g2, _, g4⟩ | ⟨g1, j, y, g0, g2, _, _, g5⟩
      · exact hres _ (delete_not h1 hx h4 (by rw [← h5] at g2; exact g2)) (by rw [g4]; rfl)
      · exact hres _ (delete_hit h1 hx h4 (by rw [← h5] at g2; exact g2)) g5
  rw [this]; rfl
theorem sMapLen_ok {x : Sym} {s : SSt} {K : Sym → SSt → Option R} {r : R} (h : sMapLen x s K = some r) : ∃ n, lenMap s.g x.val = some n ∧ K (.v (.int .i64 (Int.ofNat n))) s = some r := by
  obtain ⟨b, h1, h⟩ := andThen_eq h
  obtain ⟨o, h2, h⟩ := andThen_eq h
  cases o <;> first | (cases h; done) | skip
  rename_i kt vt m
  refine ⟨_, ?_, h⟩
  refine (len_map (b := b) (by rw [asMv_eq h1]; rfl) (show s.g.obj b = some (.map (entsE kt vt m) (Int.toNat m.2)) from by rw [SSt.obj_g, h2]; rfl)).trans ?_
  rw [show (entsE kt vt m).length = List.length m.1 from List.length_map ..]
end
end Go.Abs
namespace Go.Abs
def ElL : List Ty → Type
  | [] => Unit
  | t :: ts => El t × ElL ts
def valsL : (ts : List Ty) → ElL ts → List Value
  | [], _ => []
  | t :: ts, x => valT t x.1 :: valsL ts x.2
def chainD : (ts : List Ty) → ElL ts → Sym
  | [], _ => .nil
  | t :: ts, x => .cons (mkD t x.1) (chainD ts x.2)
theorem chainD_vals : ∀ (ts : List Ty) (x : ElL ts), (chainD ts x).vals = valsL ts x
  | [], _ => rfl
  | t :: ts, x => by
    show (mkD t x.1).val :: (chainD ts x.2).vals = valT t x.1 :: valsL ts x.2
    rw [mkD_val, chainD_vals ts x.2]
def resD : (ts : List Ty) → ElL ts → Sym
  | [t] => fun x => mkD t x.1
  | ts => fun x => .tup (chainD ts x)
theorem resD_val : ∀ (ts : List Ty) (x : ElL ts), (resD ts x).val = oneOrTuple (valsL ts x)
  | [], _ => rfl
  | [t], x => mkD_val t x.1
  | t :: u :: ts, x => by
    show Value.tuple ⟨(chainD (t :: u :: ts) x).vals⟩ = _
    rw [chainD_vals]; rfl
def encV (t : Ty) : EncV (El t) where
  val := valT t
  closed := fun ι a hd => by
    have h := VAs.closed hd (cellsT_closed t a)
    unfold valT
    cases ha : aggT t with
    | true => rw [if_pos rfl]; exact h.agg
    | false =>
      rw [if_neg (by decide)]
      rw [cellsT_one ha] at h
      exact h.2 0 _ _ rfl rfl
  uniq := fun ι a b v h1 h2 => by
    unfold valT at h1 h2
    cases ha : aggT t with
    | true =>
      rw [ha, if_pos rfl] at h1 h2
      exact (EncV.agg (encT t)).uniq ι a b v h1 h2
    | false =>
      rw [ha, if_neg (by decide)] at h1 h2
      refine (encT t).uniq ι a b [v] ?_ ?_
      · show VAs ι (cellsT t a) [v]
        rw [cellsT_one ha]; exact .singl h1
      · show VAs ι (cellsT t b) [v]
        rw [cellsT_one ha]; exact .singl h2
def encL : (ts : List Ty) → EncL (ElL ts)
  | [] => EncL.nil
  | t :: ts => EncL.cons (encV t) (encL ts)
theorem encL_vals : ∀ (ts : List Ty) (x : ElL ts), (encL ts).vals x = valsL ts x
  | [], _ => rfl
  | t :: ts, x => by
    show valT t x.1 :: (encL ts).vals x.2 = _
    rw [encL_vals ts x.2]; rfl
def rowsC (t : Ty) (xs : List (El t)) : List Value := (xs.map (cellsT t)).flatten
theorem rowsC_closed {t : Ty} (xs : List (El t)) : ∀ v ∈ rowsC t xs, closed1 v = true := fun v hv => by
  obtain ⟨r, hr, hv⟩ := List.mem_flatten.1 hv
  obtain ⟨a, _, rfl⟩ := List.mem_map.1 hr
  exact cellsT_closed t a v hv
theorem rowsC_inj {t : Ty} {a b : List (El t)} (hl : a.length = b.length) (h : rowsC t a = rowsC t b) : a = b :=
  (encT t).rows_uniq (ι := noRen) (cs := rowsC t a) hl (VAs.closed rfl (rowsC_closed a)) (by
    show VAs noRen (rowsC t b) (rowsC t a)
    rw [h]; exact VAs.closed rfl (rowsC_closed b))
def Caps (σ : ASt) : (C : List Ty) → ElL C → List Value → Prop
  | [], _, cs => cs = []
  | t :: C, y, cs => ∃ b r org ro, cs = .pointer (some ⟨b, 0, none⟩) :: r ∧ σ.obj b = some (.cells (cellsT t y.1) none org ro false) ∧ Caps σ C y.2 r
theorem Caps.inj {σ : ASt} : ∀ {C : List Ty} {y y' : ElL C} {cs : List Value}, Caps σ C y cs → Caps σ C y' cs → y = y'
  | [], _, _, _, _, _ => rfl
  | t :: C, (a, y), (a', y'), cs, ⟨b, r, org, ro, h1, h2, h3⟩, ⟨b', r', org', ro', h1', h2', h3'⟩ => by
    rw [h1] at h1'
    cases h1'
    rw [h2] at h2'
    have h4 : cellsT t a = cellsT t a' := by injection h2' with h5; injection h5
    have h5 : a = a' := (encT t).uniq noRen a a' (cellsT t a) (VAs.closed rfl (cellsT_closed t a)) (by
      show VAs noRen (cellsT t a') (cellsT t a)
      rw [h4]; exact VAs.closed rfl (cellsT_closed t a'))
    have h6 : y = y' := Caps.inj h3 h3'
    subst h5 h6
    rfl
structure Srt where
  t : Ty
  g : FuncId
  C : List Ty
  F : List (El t) → ElL C → Option (List (El t))
def SortRel (r : Srt) (args : List Value) (σ : ASt) (v : Value) (σ' : ASt) : Prop :=
  v = .tuple ⟨[]⟩ ∧ ∃ x cs ys, args = [x, .func (.func r.g) ⟨[]⟩ ⟨cs⟩] ∧ Caps σ r.C ys cs ∧
    ((x = .slice none 0 0 ∧ σ' = ⟨σ.heap, σ.next, 0, σ.klow⟩) ∨
     ∃ b xs xs' org, x = .slice (some ⟨b, 0, some (sizeT r.t)⟩) xs.length xs.length ∧ σ.obj b = some (.cells (rowsC r.t xs) (some (sizeT r.t)) org false false) ∧ r.F xs ys = some xs' ∧ xs'.length = xs.length ∧
       σ' = ⟨σ.heap.set b (.cells (rowsC r.t xs') (some (sizeT r.t)) org false false), σ.next, 0, σ.klow⟩)
theorem SortRel.one {r : Srt} {args : List Value} {σ σ1 σ2 : ASt} {v1 v2 : Value} (h : SortRel r args σ v1 σ1) (h' : SortRel r args σ v2 σ2) : v1 = v2 ∧ σ1 = σ2 := by
  obtain ⟨rfl, x, cs, ys, h1, h2, h3⟩ := h
  obtain ⟨rfl, x', cs', ys', h1', h2', h3'⟩ := h'
  rw [h1] at h1'
  cases h1'
  obtain rfl := h2.inj h2'
  refine ⟨rfl, ?_⟩
  rcases h3 with ⟨h3, h4⟩ | ⟨b, xs, xs', org, h3, h4, h5, h6, h7⟩
  · rcases h3' with ⟨h3', h4'⟩ | ⟨b, xs, xs', org, h3', h4', h5', h6', h7'⟩
    · rw [h4, h4']
    · rw [h3] at h3'; cases h3'
  · rcases h3' with ⟨h3', h4'⟩ | ⟨b', zs, zs', org', h3', h4', h5', h6', h7'⟩
    · rw [h3] at h3'; cases h3'
    · rw [h3] at h3'
      injection h3' with e1 e2 e3
      injection e1 with e1
      injection e1 with e1
      subst e1
      rw [h4] at h4'
      injection h4' with e4
      injection e4 with e5 e6 e7
      subst e7
      obtain rfl := rowsC_inj e2 e5
      rw [h5] at h5'
      cases h5'
      rw [h7, h7']
noncomputable def sortF (r : Srt) : SpecF := fun args σ => @dite _ (∃ p : Value × ASt, SortRel r args σ p.1 p.2) (Classical.propDecidable _) (fun h => some (Classical.choose h)) (fun _ => none)
theorem sortF_eq {r : Srt} {args : List Value} {σ σ' : ASt} {v : Value} (h : SortRel r args σ v σ') : sortF r args σ = some (v, σ') := by
  have hh : ∃ p : Value × ASt, SortRel r args σ p.1 p.2 := ⟨(v, σ'), h⟩
  unfold sortF
  rw [dif_pos hh]
  obtain ⟨h1, h2⟩ := (Classical.choose_spec hh).one h
  rw [← h1, ← h2]
structure Con where
  f : FuncId
  A : List Ty
  B : List Ty
  F : ElL A → Option (ElL B)
  lent : Bool
  srt : Option Srt
noncomputable def Con.res (c : Con) (a : ElL c.A) : Value := @Option.rec (ElL c.B) (fun _ => Value) undef (fun r => oneOrTuple (valsL c.B r)) (c.F a)
noncomputable def Con.spec0 (c : Con) : SpecF := iff c.lent (specE (encL c.A) [] (fun a => (c.F a).isSome = true) c.res) (specA (encL c.A) [] (fun a => (c.F a).isSome = true) c.res)
noncomputable def Con.spec (c : Con) : SpecF := @Option.rec Srt (fun _ => SpecF) c.spec0 sortF c.srt
section
variable {R : Type}
noncomputable def colL (nl : Bool) (hp : Nat → Option (Bool × Bool × Sym)) : (ts : List Ty) → List Sym → (ElL ts → Option R) → Option R
  | [] => fun l K => match l with | [] => K () | _ :: _ => none
  | t :: ts => fun l K => match l with | [] => none | x :: l => colV nl hp t x fun y => colL nl hp ts l fun ys => K (y, ys)
theorem colL_ok {ι : Ren} {nl : Bool} {hp : Nat → Option (Bool × Bool × Sym)} (hR : ColR (VAs ι) nl hp) : ∀ (ts : List Ty) (l : List Sym) (K : ElL ts → Option R) (r : R), colL nl hp ts l K = some r → ∃ y, K y = some r ∧ VAs ι (valsL ts y) (l.map Sym.val)
  | [], [], K, r, h => ⟨(), h, .nil⟩
  | [], _ :: _, K, r, h => by cases h
  | t :: ts, [], K, r, h => by cases h
  | t :: ts, x :: l, K, r, h => by
    obtain ⟨y, h1, h2, h3, h4⟩ := colV_ok hR (show colV nl hp t x (fun y => colL nl hp ts l fun ys => K (y, ys)) = some r from h)
    obtain ⟨ys, h5, h6⟩ := colL_ok hR ts l _ r h1
    exact ⟨(y, ys), h5, .cons (val_of_cells h2 h3 h4) h6⟩
def hpO : SObj → Option (Bool × Bool × Sym)
  | .cel l _ _ _ false => some (false, false, l)
  | .may nl nn l _ _ => some (nl, nn, l)
  | _ => none
noncomputable def hpAll (s : SSt) (b : Nat) : Option (Bool × Bool × Sym) := andThen (s.heap.get b) hpO
theorem hpAll_ok {s : SSt} {b : Nat} {n nn : Bool} {ch : Sym} (h : hpAll s b = some (n, nn, ch)) : (n = false → s.g.row b = some ch.cells) ∧ (n = true → nn = false → s.g.row b = some []) := by
  obtain ⟨o, h1, h2⟩ := andThen_eq h
  unfold ASt.row
  rw [SSt.obj_g, h1]
  unfold hpO at h2
  split at h2
  · cases h2; exact ⟨fun _ => rfl, fun h => by cases h⟩
  · cases h2
    refine ⟨fun hn => ?_, fun hn hnn => ?_⟩
    · subst hn; rfl
    · subst hn; subst hnn; rfl
  · cases h2
theorem lend_ok (s : SSt) : ColR (VAs (lend [] s.g)) true (hpAll s) := col_ren rfl (fun _ => rfl) fun _ _ _ _ h => ⟨rfl, (hpAll_ok h).1, (hpAll_ok h).2⟩
theorem same_ok : ColR (VAs (renL [] [])) false (fun _ => none) := col_ren rfl (fun h => by cases h) fun b n nn ch h => by cases h
def boxB : Value → Option Nat
  | .pointer (some ⟨b, 0, none⟩) => some b
  | _ => none
theorem boxB_eq {v : Value} {b : Nat} (h : boxB v = some b) : v = .pointer (some ⟨b, 0, none⟩) := by
  unfold boxB at h
  split at h
  · cases h; rfl
  · cases h
def asClo : Sym → Option (FuncId × List Value)
  | .v (.func (.func g) ⟨[]⟩ ⟨cs⟩) => some (g, cs)
  | _ => none
theorem asClo_eq {x : Sym} {g : FuncId} {cs : List Value} (h : asClo x = some (g, cs)) : x = .v (.func (.func g) ⟨[]⟩ ⟨cs⟩) := by
  unfold asClo at h
  split at h
  · cases h; rfl
  · cases h
def asMay : SObj → Option (Bool × Bool × Sym × Nat × Nat)
  | .may nl nn l z org => some (nl, nn, l, z, org)
  | _ => none
theorem asMay_eq {o : SObj} {nl nn : Bool} {l : Sym} {z org : Nat} (h : asMay o = some (nl, nn, l, z, org)) : o = .may nl nn l z org := by
  cases o <;> first | (cases h; done) | (cases h; rfl)
def asCelN : SObj → Option (Sym × Nat × Bool)
  | .cel l none org ro false => some (l, org, ro)
  | _ => none
theorem asCelN_eq {o : SObj} {l : Sym} {org : Nat} {ro : Bool} (h : asCelN o = some (l, org, ro)) : o = .cel l none org ro false := by
  unfold asCelN at h
  split at h
  · cases h; rfl
  · cases h
noncomputable def sCaps (s : SSt) : (C : List Ty) → List Value → (ElL C → Option R) → Option R
  | [] => fun cs K => match cs with | [] => K () | _ :: _ => none
  | t :: C => fun cs K => match cs with
    | [] => none
    | c :: cs => andThen (boxB c) fun b => andThen (andThen (s.heap.get b) asCelN) fun o => colC false (fun _ => none) t (flatS o.1 .nil) fun y r => nilS r (sCaps s C cs fun ys => K (y, ys))
theorem sCaps_ok {s : SSt} : ∀ {C : List Ty} {cs : List Value} {K : ElL C → Option R} {r : R}, sCaps s C cs K = some r → ∃ ys, K ys = some r ∧ Caps s.g C ys cs
  | [], [], K, r, h => ⟨(), h, rfl⟩
  | [], _ :: _, K, r, h => by cases h
  | t :: C, [], K, r, h => by cases h
  | t :: C, c :: cs, K, r, h => by
    obtain ⟨b, h1, k1⟩ := andThen_eq (show (andThen (boxB c) fun b => andThen (andThen (s.heap.get b) asCelN) fun o => colC false (fun _ => none) t (flatS o.1 .nil) fun y r => nilS r (sCaps s C cs fun ys => K (y, ys))) = some r from h)
    clear h
    obtain ⟨⟨l, org, ro⟩, h2, h⟩ := andThen_eq k1
    clear k1
    obtain ⟨o, h3, h4⟩ := andThen_eq h2
    have e4 := asCelN_eq h4
    have e1 := boxB_eq h1
    clear h1 h2 h4
    subst e1 e4
    obtain ⟨y, s', c, h5, h6, h7⟩ := colC_ok col_same t _ _ _ (show colC false (fun _ => none) t (flatS l .nil) (fun y r => nilS r (sCaps s C cs fun ys => K (y, ys))) = some r from h)
    obtain ⟨rfl, h8⟩ := nilS_eq h5
    obtain ⟨ys, h9, h10⟩ := sCaps_ok h8
    refine ⟨(y, ys), h9, b, cs, org, ro, rfl, ?_, h10⟩
    rw [SSt.obj_g, h3]
    have h7 : c = cellsT t y := h7
    rw [flatS_cells] at h6
    have h6 : l.cells ++ [] = c ++ [] := h6
    rw [List.append_nil, List.append_nil] at h6
    show some (AObj.cells l.cells none org ro false) = _
    rw [h6, h7]
theorem mapT_set_same {α β : Type} {f : α → Option β} : ∀ (t : Tr α) (n : Nat) (v w : α), t.get n = some w → f v = f w → mapT f (t.set n v) = mapT f t
  | .leaf, n, v, w, h, _ => by cases (show none = some w from h)
  | .node l x r, n, v, w, h, hf => by
    rw [Tr.get_node'] at h
    rw [Tr.set_node']
    split
    · rename_i h0
      rw [if_pos h0] at h
      show Tr.node (mapT f l) (f v) (mapT f r) = Tr.node (mapT f l) (x.bind f) (mapT f r)
      rw [h, hf]; rfl
    · rename_i h0
      rw [if_neg h0] at h
      split
      · rename_i h1
        rw [if_pos h1] at h
        show Tr.node (mapT f (l.set (n / 2) v)) (x.bind f) (mapT f r) = Tr.node (mapT f l) (x.bind f) (mapT f r)
        rw [mapT_set_same l _ v w h hf]
      · rename_i h1
        rw [if_neg h1] at h
        show Tr.node (mapT f l) (x.bind f) (mapT f (r.set (n / 2 - 1) v)) = Tr.node (mapT f l) (x.bind f) (mapT f r)
        rw [mapT_set_same r _ v w h hf]
noncomputable def sSort2 (r : Srt) (ys : ElL r.C) (q : Nat × Nat × Nat × Bool × Bool) (o : Bool × Bool × Sym × Nat × Nat) (s : SSt) (K : Sym → SSt → Option R) : Option R :=
  iff (and (and (Nat.beq q.2.1 (sizeT r.t)) (Nat.beq o.2.2.2.1 (sizeT r.t))) (and q.2.2.2.2 (and o.2.1 (q.2.2.2.1 == o.1))))
    (colRows r.t (colC false (fun _ => none) r.t) 2000 (flatS o.2.2.1 .nil) fun xs => iff (or q.2.2.2.1 (Nat.beq q.2.2.1 xs.length))
      (andThen (iff q.2.2.2.1 (some xs) (r.F xs ys)) fun zs => iff (or q.2.2.2.1 (Nat.beq zs.length xs.length))
        (K (.tup .nil) ⟨s.heap.set q.1 (.may q.2.2.2.1 true (.rw r.t zs) (sizeT r.t) o.2.2.2.2), s.next, 0, s.klow⟩) none) none) none
noncomputable def sSort (r : Srt) (args : List Sym) (s : SSt) (K : Sym → SSt → Option R) : Option R :=
  match args with
  | [x, h] => andThen2 (asClo h) fun g cs => iff (Nat.beq g r.g) (sCaps s r.C cs fun ys => andThen (asMo x) fun q => andThen (andThen (s.heap.get q.1) asMay) fun o => sSort2 r ys q o s K) none
  | _ => none
theorem sSort_ok {r : Srt} {args : List Sym} {s : SSt} {K : Sym → SSt → Option R} {a : R} (h : sSort r args s K = some a) : Says (sortF r (args.map Sym.val) s.g) s K a := by
  unfold sSort at h
  split at h
  · rename_i x hf
    obtain ⟨g, cs, h1, k1⟩ := andThen2_eq h
    clear h
    obtain ⟨h2, k2⟩ := iff_some k1
    clear k1
    obtain ⟨ys, k3, hcap⟩ := sCaps_ok k2
    clear k2
    obtain ⟨⟨b, z, len, nl, nn⟩, h3, k4⟩ := andThen_eq k3
    clear k3
    obtain ⟨⟨nl', nn', l, z', org⟩, h4, k5⟩ := andThen_eq k4
    clear k4
    obtain ⟨o, h5, h6⟩ := andThen_eq h4
    clear h4
    have e1 := asClo_eq h1
    have e2 := (beq_iff _ _).1 h2
    have e3 := asMo_eq h3
    have e4 := asMay_eq h6
    clear h1 h2 h3 h6
    subst e1 e3 e4
    have e2 : g = r.g := e2
    subst e2
    obtain ⟨hc, h⟩ := iff_some (show iff (and (and (Nat.beq z (sizeT r.t)) (Nat.beq z' (sizeT r.t))) (and nn (and nn' (nl == nl')))) (colRows r.t (colC false (fun _ => none) r.t) 2000 (flatS l .nil) fun xs => iff (or nl (Nat.beq len xs.length))
      (andThen (iff nl (some xs) (r.F xs ys)) fun zs => iff (or nl (Nat.beq zs.length xs.length)) (K (.tup .nil) ⟨s.heap.set b (.may nl true (.rw r.t zs) (sizeT r.t) org), s.next, 0, s.klow⟩) none) none) none = some a from k5)
    simp only [Bool.and_eq_true, beq_iff, beq_iff_eq] at hc
    obtain ⟨⟨rfl, rfl⟩, rfl, rfl, rfl⟩ := hc
    obtain ⟨xs, h, hx⟩ := colRows_ok col_same (colC_ok col_same r.t) _ _ _ _ h
    have hx : (flatS l .nil).cells = (xs.map (cellsT r.t)).flatten := hx
    rw [flatS_cells] at hx
    have hx : l.cells ++ [] = rowsC r.t xs := hx
    rw [List.append_nil] at hx
    obtain ⟨hl, h⟩ := iff_some h
    obtain ⟨zs, hz, h⟩ := andThen_eq h
    obtain ⟨hzl, hk⟩ := iff_some h
    refine ⟨.tup .nil, _, ?_, hk⟩
    have hobj : s.g.obj b = (SObj.may nl true l (sizeT r.t) org).g := by rw [SSt.obj_g, h5]; rfl
    cases nl with
    | true =>
      refine sortF_eq ⟨rfl, _, cs, ys, rfl, hcap, .inl ⟨rfl, ?_⟩⟩
      show ASt.mk (mapT SObj.g (s.heap.set b (.may true true (.rw r.t zs) (sizeT r.t) org))) s.next 0 s.klow = ASt.mk (mapT SObj.g s.heap) s.next 0 s.klow
      rw [mapT_set_same s.heap b (.may true true (.rw r.t zs) (sizeT r.t) org) _ h5 rfl]
    | false =>
      have hl : Nat.beq len xs.length = true := hl
      rw [beq_iff] at hl
      subst hl
      have hz : r.F xs ys = some zs := hz
      have hzl : Nat.beq zs.length xs.length = true := hzl
      rw [beq_iff] at hzl
      refine sortF_eq ⟨rfl, _, cs, ys, rfl, hcap, .inr ⟨b, xs, zs, org, rfl, ?_, hz, hzl, ?_⟩⟩
      · rw [hobj]
        show some (AObj.cells l.cells (some (sizeT r.t)) org false false) = _
        rw [hx]
      · show ASt.mk (mapT SObj.g (s.heap.set b (.may false true (.rw r.t zs) (sizeT r.t) org))) s.next 0 s.klow = ASt.mk ((mapT SObj.g s.heap).set b _) s.next 0 s.klow
        rw [mapT_set (f := SObj.g) (w := .cells (rowsC r.t zs) (some (sizeT r.t)) org false false) rfl]
  · cases h
noncomputable def sCon0 (c : Con) (args : List Sym) (s : SSt) (K : Sym → SSt → Option R) : Option R :=
  colL c.lent (fun b => iff c.lent (hpAll s b) none) c.A args fun a => andThen (c.F a) fun r => K (resD c.B r) s
noncomputable def sCon (c : Con) (args : List Sym) (s : SSt) (K : Sym → SSt → Option R) : Option R :=
  @Option.rec Srt (fun _ => Option R) (sCon0 c args s K) (fun r => sSort r args s K) c.srt
noncomputable def sCall (tab : List Con) (f : FuncId) (args : List Sym) (s : SSt) (K : Sym → SSt → Option R) : Option R :=
  @List.rec Con (fun _ => Option R) none (fun c _ ih => iff (Nat.beq f c.f) (sCon c args s K) ih) tab
noncomputable def callT (tab : List Con) : CallF := callL (tab.map fun c => (c.f, c.spec))
theorem sCon0_ok {c : Con} {args : List Sym} {s : SSt} {K : Sym → SSt → Option R} {r : R} (h : sCon0 c args s K = some r) : Says (c.spec0 (args.map Sym.val) s.g) s K r := by
  unfold sCon0 at h
  unfold Con.spec0
  cases hl : c.lent with
  | true =>
    rw [hl] at h
    obtain ⟨a, h1, h2⟩ := colL_ok (lend_ok s) _ _ _ _ (show colL true (hpAll s) c.A args _ = some r from h)
    obtain ⟨y, h3, h4⟩ := andThen_eq h1
    refine ⟨_, s, ?_, h4⟩
    rw [iff_true, specE_eq (a := a) (ok := fun a => (c.F a).isSome = true) (tabs := []) rfl (show (c.F a).isSome = true by rw [h3]; rfl) (by rw [encL_vals]; exact h2), resD_val]
    unfold Con.res
    rw [h3]
  | false =>
    rw [hl] at h
    obtain ⟨a, h1, h2⟩ := colL_ok same_ok _ _ _ _ (show colL false (fun _ => none) c.A args _ = some r from h)
    obtain ⟨y, h3, h4⟩ := andThen_eq h1
    refine ⟨_, s, ?_, h4⟩
    rw [iff_false, specA_eq (a := a) (ok := fun a => (c.F a).isSome = true) (tabs := []) rfl (show (c.F a).isSome = true by rw [h3]; rfl) (by rw [encL_vals]; exact h2), resD_val]
    unfold Con.res
    rw [h3]
theorem sCon_ok {c : Con} {args : List Sym} {s : SSt} {K : Sym → SSt → Option R} {r : R} (h : sCon c args s K = some r) : Says (c.spec (args.map Sym.val) s.g) s K r := by
  unfold sCon at h
  unfold Con.spec
  cases hs : c.srt with
  | none => rw [hs] at h; exact sCon0_ok h
  | some q => rw [hs] at h; exact sSort_ok h
theorem sCall_ok : ∀ {tab : List Con} {f : FuncId} {args : List Sym} {s : SSt} {K : Sym → SSt → Option R} {r : R}, sCall tab f args s K = some r → Says (callT tab f (args.map Sym.val) s.g) s K r
  | [], f, args, s, K, r, h => by cases (show none = some r from h)
  | c :: tab, f, args, s, K, r, h => by
    show Says (iff (Nat.beq f c.f) (c.spec (args.map Sym.val) s.g) (callT tab f (args.map Sym.val) s.g)) s K r
    rcases iff_way (show iff (Nat.beq f c.f) (sCon c args s K) (sCall tab f args s K) = some r from h) with ⟨h1, h⟩ | ⟨h1, h⟩
    · rw [h1]; exact sCon_ok h
    · rw [h1]; exact sCall_ok h
variable (T : Tab) (tab : List Con)
noncomputable def sMin (b : Bool) (args : List Sym) (s : SSt) (K : Sym → SSt → Option R) : Option R :=
  andThen2 (arg1 args) fun x r => andThen (minV b (r.map Sym.val) x.val) fun v => K (.v v) s
theorem sMin_ok {b : Bool} {args : List Sym} {s : SSt} {K : Sym → SSt → Option R} {r : R} (h : sMin b args s K = some r) : Says (bMin b (args.map Sym.val) s.g) s K r := by
  obtain ⟨x, xs, h1, h⟩ := andThen2_eq h
  obtain ⟨v, h2, h⟩ := andThen_eq h
  refine ⟨.v v, s, ?_, h⟩
  unfold bMin
  rw [arg1_map h1, andThen2_some, h2]; rfl
noncomputable def sLenA (tys : List TypeId) (args : List Sym) (s : SSt) (K : Sym → SSt → Option R) : Option R :=
  andThen2 (arg1 tys) fun t _ => andThen2 (arg1 args) fun x _ => andThen (desc T t) fun d => match d with
  | .map _ _ => sMapLen x s K
  | _ => sLen T tys args s K
noncomputable def sDel (tys : List TypeId) (args : List Sym) (s : SSt) (K : Sym → SSt → Option R) : Option R :=
  andThen2 (arg1 tys) fun t _ => andThen2 (arg2 args) fun x i => sDelete T t x i s K
noncomputable def sBuiltin (b : Builtin) (tys : List TypeId) (args : List Sym) (s : SSt) (K : Sym → SSt → Option R) : Option R :=
  match b with
  | .append => sAppend T tys args s K
  | .len => sLenA T tys args s K
  | .delete => sDel T tys args s K
  | .min => sMin true args s K
  | .max => sMin false args s K
  | _ => none
theorem sLenA_ok {tys : List TypeId} {args : List Sym} {s : SSt} {K : Sym → SSt → Option R} {r : R} (h : sLenA T tys args s K = some r) : Says (bLen T tys (args.map Sym.val) s.g) s K r := by
  obtain ⟨t, tr, h1, h⟩ := andThen2_eq h
  obtain ⟨x, xr, h2, h⟩ := andThen2_eq h
  obtain ⟨d, h3, h⟩ := andThen_eq h
  cases d <;> first | exact sLen_ok h | skip
  obtain ⟨n, h4, h5⟩ := sMapLen_ok h
  refine ⟨_, s, ?_, h5⟩
  unfold bLen
  rw [h1, andThen2_some, arg1_map h2, andThen2_some]
  unfold lenB
  rw [h3, andThen_some]
  show val s.g (goNat (lenMap s.g x.val)) = _
  rw [h4]; rfl
theorem sDel_ok {tys : List TypeId} {args : List Sym} {s : SSt} {K : Sym → SSt → Option R} {r : R} (h : sDel T tys args s K = some r) : Says (bDelete T tys (args.map Sym.val) s.g) s K r := by
  obtain ⟨t, tr, h1, h⟩ := andThen2_eq h
  obtain ⟨x, i, h2, h⟩ := andThen2_eq h
  unfold bDelete
  rw [h1, andThen2_some, arg2_map h2, andThen2_some]
  exact delete_ok h
theorem sBuiltin_ok {b : Builtin} {tys : List TypeId} {args : List Sym} {s : SSt} {K : Sym → SSt → Option R} {r : R} (h : sBuiltin T b tys args s K = some r) : Says (builtinV b T tys (args.map Sym.val) s.g) s K r := by
  unfold sBuiltin at h
  cases b <;> first | (cases h; done) | exact sAppend_ok h | exact sLenA_ok T h | exact sDel_ok T h | exact sMin_ok h
def asFn0 : Sym → Option FuncId
  | .v (.func (.func g) ⟨[]⟩ ⟨[]⟩) => some g
  | _ => none
theorem asFn0_eq {x : Sym} {g : FuncId} (h : asFn0 x = some g) : x = .v (.func (.func g) ⟨[]⟩ ⟨[]⟩) := by
  unfold asFn0 at h
  split at h
  · cases h; rfl
  · cases h
noncomputable def sCallee (ρ : Operand → Sym) (s : SSt) (tys : List TypeId) (args : List Sym) (K : Sym → SSt → Option R) : Callee → Option R
  | .builtin b => sBuiltin T b tys args s K
  | .value f => andThen (asFn0 (ρ f)) fun g => sCall tab g args s K
  | _ => none
theorem sCallee_ok {ρ : Operand → Sym} {s : SSt} {tys : List TypeId} {args : List Sym} {K : Sym → SSt → Option R} {c : Callee} {r : R} (h : sCallee T tab ρ s tys args K c = some r) : Says (callC c T (callT tab) (fun o => (ρ o).val) s.g tys (args.map Sym.val)) s K r := by
  cases c with
  | builtin b => exact sBuiltin_ok T h
  | invoke r n => cases h
  | value f =>
    obtain ⟨g, h1, h⟩ := andThen_eq h
    show Says (callClo T (callT tab) s.g (args.map Sym.val) (ρ f).val) s K r
    rw [asFn0_eq h1]
    show Says (callT tab g (appQ (appQ [] (args.map Sym.val)) []) s.g) s K r
    rw [appQ_eq, appQ_eq, List.nil_append, List.append_nil]
    exact sCall_ok h
def ptrS : Sym → Bool
  | .p _ _ => true
  | .rp .. => true
  | _ => false
noncomputable def sNil (op : Op) (ρ : Operand → Sym) (x : Sym) (s : SSt) (K : Sym → SSt → Option R) : Option R := iff (ptrS x) (K x s) (rawOp T op ρ s K)
theorem sNil_ok {op : Op} {ρ : Operand → Sym} {xo : Operand} {s : SSt} {K : Sym → SSt → Option R} {r : R} (ho : op = .nilCheck xo) (h : sNil T op ρ (ρ xo) s K = some r) : Says (opV op T (fun o => (ρ o).val) s.g) s K r := by
  rcases iff_way h with ⟨h1, k⟩ | ⟨_, k⟩
  · clear h
    subst ho
    refine ⟨_, s, ?_, k⟩
    show val s.g (nilChk (ρ xo).val) = _
    cases hx : ρ xo <;> rw [hx] at h1 <;> first | (cases h1; done) | rfl
  · exact rawOp_ok k
noncomputable def two {α β : Type} (o : Option α) (p : Option β) : Option (α × β) := andThen o fun x => andThen p fun y => some (x, y)
theorem two_eq {α β : Type} {o : Option α} {p : Option β} {x : α} {y : β} (h : two o p = some (x, y)) : o = some x ∧ p = some y := by
  obtain ⟨x', h1, h⟩ := andThen_eq h
  obtain ⟨y', h2, h⟩ := andThen_eq h
  cases h
  exact ⟨h1, h2⟩
noncomputable def sPick (c a b : Sym) (s : SSt) (K : Sym → SSt → Option R) : Option R :=
  andThen (andThen (asV c) asB) fun t =>
    orE (two (andThen (asV a) asB) (andThen (asV b) asB)) (fun p => K (.v (.bool (iff t p.1 p.2))) s) <|
    orE (two (asN a) (asN b)) (fun p => iff (sameKind p.1.1 p.2.1) (K (.v (.int p.1.1 (iff t p.1.2 p.2.2))) s) none) <|
    iff t (K a s) (K b s)
theorem sPick_ok {ρ : Operand → Sym} {c a b : Operand} {s : SSt} {K : Sym → SSt → Option R} {r : R} (h : sPick (ρ c) (ρ a) (ρ b) s K = some r) : Says (doPick c a b (fun o => (ρ o).val) s.g) s K r := by
  obtain ⟨t, h1, h⟩ := andThen_eq h
  obtain ⟨v, h2, h3⟩ := andThen_eq h1
  have hc : asB (ρ c).val = some t := by rw [asV_eq h2]; exact h3
  have hp : doPick c a b (fun o => (ρ o).val) s.g = some (iff t (ρ a).val (ρ b).val, s.g) := by
    unfold doPick
    rw [hc]; rfl
  rw [hp]
  rcases orE_eq h with ⟨⟨x, y⟩, h4, h⟩ | ⟨_, h⟩
  · obtain ⟨h4, h5⟩ := two_eq h4
    obtain ⟨v1, h6, h7⟩ := andThen_eq h4
    obtain ⟨v2, h8, h9⟩ := andThen_eq h5
    obtain rfl := asB_eq h7
    obtain rfl := asB_eq h9
    refine ⟨_, s, ?_, h⟩
    rw [asV_eq h6, asV_eq h8]
    cases t <;> rfl
  rcases orE_eq h with ⟨⟨⟨k, x⟩, k', y⟩, g4, h⟩ | ⟨_, h⟩
  · obtain ⟨h4, h5⟩ := two_eq g4
    clear g4
    obtain ⟨h6, g2⟩ := iff_some h
    have h6 : k = k' := (sameKind_iff k k').1 h6
    clear h
    subst h6
    refine ⟨_, s, ?_, g2⟩
    rw [asN_eq h4, asN_eq h5]
    cases t <;> rfl
  · rcases iff_way h with ⟨rfl, h⟩ | ⟨rfl, h⟩
    · exact ⟨_, s, rfl, h⟩
    · exact ⟨_, s, rfl, h⟩
def asSlB : Sym → Option (Nat × Nat × Nat)
  | .v (.slice (some ⟨b, off, _⟩) len _) => some (b, off, len)
  | .sl b z lo len _ _ => some (b, Nat.mul lo z, len)
  | .os b _ len => some (b, 0, len)
  | _ => none
theorem asSlB_eq {x : Sym} {b off len : Nat} (h : asSlB x = some (b, off, len)) : ∃ sp c, x.val = .slice (some ⟨b, off, sp⟩) len c := by
  unfold asSlB at h
  split at h
  · cases h; exact ⟨_, _, rfl⟩
  · cases h; exact ⟨_, _, rfl⟩
  · cases h; exact ⟨_, _, rfl⟩
  · cases h
def asCel : SObj → Option Sym
  | .cel l _ _ _ false => some l
  | _ => none
theorem asCel_eq {o : SObj} {l : Sym} (h : asCel o = some l) : ∃ e org ro, o = .cel l e org ro false := by
  unfold asCel at h
  split at h
  · cases h; exact ⟨_, _, _, rfl⟩
  · cases h
noncomputable def sBytes (x : Sym) (s : SSt) : Option (List UInt8) :=
  andThen3 (asSlB x) fun b off len => andThen (andThen (s.heap.get b) asCel) fun l => andThen (colRows (.int .u8) (colC false (fun _ => none) (.int .u8)) 2000 (flatS l .nil) some) fun xs =>
    iff (Nat.ble (Nat.add off len) xs.length) (some (toB ((xs.drop off).take len))) none
theorem flat_u8 : ∀ xs : List (El (.int .u8)), (xs.map (cellsT (.int .u8))).flatten = xs.map fun x : El (.int .u8) => Value.int .u8 (show Int from x)
  | [] => rfl
  | x :: xs => by
    show Value.int .u8 x :: (xs.map (cellsT (.int .u8))).flatten = _
    rw [flat_u8 xs]; rfl
theorem sBytes_ok {x : Sym} {s : SSt} {l : List UInt8} (h : sBytes x s = some l) : ∃ a n c, x.val = .slice (some a) n c ∧ andThen (s.g.cellsAt a.block a.off n) bytesOf = some l := by
  obtain ⟨b, off, len, h1, h⟩ := andThen3_eq h
  obtain ⟨ch, h2, h⟩ := andThen_eq h
  obtain ⟨o, h3, h4⟩ := andThen_eq h2
  obtain ⟨xs, h5, h⟩ := andThen_eq h
  obtain ⟨h6, h⟩ := iff_some h
  cases h
  obtain ⟨e, org, ro, rfl⟩ := asCel_eq h4
  obtain ⟨ys, h7, hx⟩ := colRows_ok col_same (colC_ok col_same (.int .u8)) _ _ _ _ h5
  obtain rfl : ys = xs := Option.some.inj h7
  have hx : (flatS ch .nil).cells = (ys.map (cellsT (.int .u8))).flatten := hx
  rw [flatS_cells] at hx
  have hx : ch.cells ++ [] = (ys.map (cellsT (.int .u8))).flatten := hx
  rw [List.append_nil] at hx
  obtain ⟨sp, c, hv⟩ := asSlB_eq h1
  refine ⟨_, _, _, hv, ?_⟩
  have hrow : s.g.row b = some ch.cells := by
    unfold ASt.row
    rw [SSt.obj_g, h3]; rfl
  have hle : off + len ≤ ys.length := Nat.le_of_ble_eq_true h6
  show andThen (andThen (s.g.row b) fun c => sub c off len) bytesOf = _
  rw [hrow, andThen_some, hx, takeO_drop (by rw [flat_u8, List.length_map]; exact hle), andThen_some]
  have : (((ys.map (cellsT (.int .u8))).flatten).drop off).take len = (((ys.drop off).take len).map (cellsT (.int .u8))).flatten := by
    rw [flat_u8, flat_u8, List.map_take, List.map_drop]
  rw [this]
  exact bytesOf_rows _ fun _ => rfl
def isStrD : TypeDesc → Bool
  | .string => true
  | _ => false
noncomputable def sConvB (src dst : TypeId) (x : Sym) (s : SSt) (K : Sym → SSt → Option R) : Option R :=
  orE (andThen (desc T src) fun ds => andThen (desc T dst) fun dd => andThen (sliceElem ds) fun e => iff (and (isStrD dd) (isU8 T e)) (sBytes x s) none) (fun l => K (.v (.string ⟨⟨l⟩⟩)) s) (sConv T src dst x s K)
theorem sConvB_ok {src dst : TypeId} {x : Sym} {s : SSt} {K : Sym → SSt → Option R} {r : R} (h : sConvB T src dst x s K = some r) : Says (convV T src dst x.val s.g) s K r := by
  rcases orE_eq h with ⟨l, h1, h⟩ | ⟨_, h⟩
  · obtain ⟨ds, h2, h1⟩ := andThen_eq h1
    obtain ⟨dd, h3, h1⟩ := andThen_eq h1
    obtain ⟨e, h4, h1⟩ := andThen_eq h1
    obtain ⟨h5, h1⟩ := iff_some h1
    rw [Bool.and_eq_true] at h5
    obtain ⟨a, n, c, h6, h7⟩ := sBytes_ok h1
    refine ⟨_, s, ?_, h⟩
    unfold convV
    rw [h2, andThen_some, h3, andThen_some, h6]
    obtain rfl : dd = .string := by
      cases dd <;> first | rfl | (have h5 := h5.1; cases h5)
    show (andThen (sliceElem ds) fun e => iff (isU8 T e) (andThen (s.g.cellsAt a.block a.off n) fun cs => andThen (bytesOf cs) fun l => some (Value.string ⟨⟨l⟩⟩, s.g)) none) = _
    rw [h4, andThen_some, h5.2, iff_true]
    obtain ⟨cs, h8, h9⟩ := andThen_eq h7
    rw [h8, andThen_some, h9, andThen_some]; rfl
  · exact sConv_ok h
noncomputable def sAlloc (t : TypeId) (s : SSt) (K : Sym → SSt → Option R) : Option R := andThen (ty T t) fun i => andThen (zcells i) fun z => sVar (chainV z) s K
noncomputable def sBox (x : Sym) (s : SSt) (K : Sym → SSt → Option R) : Option R := iff x.ok (sVar (.cons x .nil) s K) none
noncomputable def sop (op : Op) (ρ : Operand → Sym) (s : SSt) (K : Sym → SSt → Option R) : Option R :=
  match op with
  | .move x => K (ρ x) s
  | .assign x => K (ρ x) s
  | .pick c a b => sPick (ρ c) (ρ a) (ρ b) s K
  | .alloc t => sAlloc T t s K
  | .box _ x => sBox (ρ x) s K
  | .build t ps => sBuild T t (sParts ρ ps.toList) s K
  | .buildSlice t n ps => sBuildSl T t n (sParts ρ ps.toList) s K
  | .load t a => sLoad T t (ρ a) s K
  | .store t a x => sStore T t (ρ a) (ρ x) s K
  | .nilCheck x => sNil T op ρ (ρ x) s K
  | .binOp bo t x y _ => sBin T op ρ t bo (ρ x) (ρ y) s K
  | .unOp .. => rawOp T op ρ s K
  | .convert src dst x => sConvB T src dst (ρ x) s K
  | .slice t x lo hi mx => sSlice T op ρ t (ρ x) (lo.map ρ) (hi.map ρ) (mx.map ρ) s K
  | .fieldAddr t x f => sFieldAddr T op ρ t (ρ x) f s K
  | .field t x f => sField T t (ρ x) f s K
  | .indexAddr t x i => sIndexAddr T t (ρ x) (ρ i) s K
  | .index t x i => sIndex T t (ρ x) (ρ i) s K
  | .extract x i => sExtract T op ρ (ρ x) i s K
  | .makeMap t r => sMakeMap T t (r.map ρ) s K
  | .lookup t x i ok => sLookup T t (ρ x) (ρ i) ok s K
  | .mapUpdate t m k x => sUpdate T t (ρ m) (ρ k) (ρ x) s K
  | .makeFunc .. => rawOp T op ρ s K
  | .call c => sCallee T tab ρ s c.argTypes.toList (mapQ ρ c.args.toList) K c.callee
  | _ => none
theorem sop_ok {op : Op} {ρ : Operand → Sym} {s : SSt} {K : Sym → SSt → Option R} {r : R} (h : sop T tab op ρ s K = some r) : Says (operV T (callT tab) op (fun o => (ρ o).val) s.g) s K r := by
  cases op <;> first | (cases h; done) | skip
  case move x => exact ⟨ρ x, s, rfl, h⟩
  case assign x => exact ⟨ρ x, s, rfl, h⟩
  case pick c a b => exact sPick_ok h
  case alloc t =>
    obtain ⟨i, h1, h⟩ := andThen_eq (show sAlloc T t s K = some r from h)
    obtain ⟨z, h2, h⟩ := andThen_eq h
    show Says (andThen (ty T t) fun i => andThen (zcells i) fun z => newVar s.g z) s K r
    rw [h1, andThen_some, h2, andThen_some, ← chainV_cells z]
    exact sVar_ok h
  case box t x =>
    obtain ⟨h1, h⟩ := iff_some (show sBox (ρ x) s K = some r from h)
    show Says (andThen (flat (ρ x).val) (newVar s.g)) s K r
    rw [Sym.flat_ok h1, andThen_some]
    have := sVar_ok h
    rwa [show (Sym.cons (ρ x) .nil).cells = (ρ x).cells from List.append_nil _] at this
  case build t ps =>
    have := sBuild_ok T (show sBuild T t (sParts ρ ps.toList) s K = some r from h)
    rwa [sParts_val] at this
  case buildSlice t n ps =>
    have := sBuildSl_ok T (show sBuildSl T t n (sParts ρ ps.toList) s K = some r from h)
    rwa [sParts_val] at this
  case load t a =>
    obtain ⟨u, h1, h2⟩ := sLoad_ok T (show sLoad T t (ρ a) s K = some r from h)
    exact ⟨u, s, h1, h2⟩
  case store t a x =>
    obtain ⟨u, s', h1, h2⟩ := sStore_ok T (show sStore T t (ρ a) (ρ x) s K = some r from h)
    exact ⟨u, s', h1, h2⟩
  case nilCheck x => exact sNil_ok T rfl h
  case binOp bo t x y yt => exact sBin_ok rfl h
  case unOp => exact rawOp_ok h
  case convert src dst x => exact sConvB_ok T h
  case slice t x lo hi mx => exact sSlice_ok rfl h
  case fieldAddr t x f => exact sFieldAddr_ok T rfl h
  case field t x f => exact sField_ok T h
  case indexAddr t x i => exact sIndexAddr_ok T h
  case index t x i => exact sIndex_ok T h
  case extract x i => exact sExtract_ok rfl h
  case makeMap t ro => exact sMakeMap_ok (ro := ro) h
  case lookup t x i ok => exact sLookup_ok h
  case mapUpdate t m k x => exact sUpdate_ok h
  case makeFunc => exact rawOp_ok h
  case call c =>
    have := sCallee_ok T tab (show sCallee T tab ρ s c.argTypes.toList (mapQ ρ c.args.toList) K c.callee = some r from h)
    show Says (callC c.callee T (callT tab) (fun o => (ρ o).val) s.g c.argTypes.toList (mapQ (fun o => (ρ o).val) c.args.toList)) s K r
    rw [mapQ_eq, List.map_map] at this
    rw [mapQ_eq]
    exact this
end
end Go.Abs
namespace Go.Abs
noncomputable def SSt.nrm (s : SSt) : SSt := ⟨s.heap, s.next, s.next, s.next⟩
noncomputable def sput (e : SEnv) (u : Sym) (d : Option Tmp) : SEnv := @Option.rec Tmp (fun _ => SEnv) e (fun d => e.set d u) d
theorem sput_g (e : SEnv) (u : Sym) (d : Option Tmp) : SEnv.g (sput e u d) = put (SEnv.g e) u.val d := by
  cases d with
  | none => rfl
  | some d => exact mapT_set (f := fun s : Sym => some s.val) (v := u) (w := u.val) rfl e d
theorem SEnv.get_g (e : SEnv) (d : Nat) : (SEnv.g e).get d = (e.get d).map Sym.val := by
  unfold SEnv.g
  rw [mapT_get]
  cases e.get d <;> rfl
theorem set_known {e : SEnv} {d : Nat} {b : Bool} (h : e.get d = some (.v (.bool b))) : SEnv.g (e.set d (.v (.bool b))) = SEnv.g e := by
  unfold SEnv.g
  rw [mapT_set (f := fun s : Sym => some s.val) (v := .v (.bool b)) (w := .bool b) rfl]
  apply Tr.set_again
  have := SEnv.get_g e d
  unfold SEnv.g at this
  rw [this, h]; rfl
noncomputable def asBS (x : Sym) : Option Bool := andThen (asV x) asB
theorem asBS_eq {x : Sym} {b : Bool} (h : asBS x = some b) : x = .v (.bool b) := by
  obtain ⟨v, h1, h2⟩ := andThen_eq h
  rw [asV_eq h1, asB_eq h2]
def isUndef : Sym → Bool
  | .v (.tuple ⟨[]⟩) => true
  | _ => false
theorem isUndef_eq {x : Sym} (h : isUndef x = true) : x = .v (.tuple ⟨[]⟩) := by
  unfold isUndef at h
  split at h
  · rfl
  · cases h
section
variable {R : Type} (T : Tab) (tab : List Con)
noncomputable def sGuardV (want : Bool) (d : Nat) (e : SEnv) (K : Bool → SEnv → Option R) (x : Sym) : Option R :=
  orE (asBS x) (fun b => iff b (K (true == want) (e.set d (.v (.bool true)))) (K (false == want) (e.set d (.v (.bool false))))) (iff (isUndef x) (K false e) none)
noncomputable def sGuard (ops : List Oper) (e : SEnv) (g : Option (Nat × Bool)) (K : Bool → SEnv → Option R) : Option R :=
  @Option.rec (Nat × Bool) (fun _ => Option R) (K true e) (fun p => orE (nthQ p.1 ops) (fun oj => orE oj.dst (fun d => andThen (e.get d) (sGuardV p.2 d e K)) (K false e)) (K false e)) g
theorem sGuard_ok {ops : List Oper} {e : SEnv} {g : Option (Nat × Bool)} {K : Bool → SEnv → Option R} {r : R} (h : sGuard ops e g K = some r) : ∃ b e', wanted ops (SEnv.g e) g = some b ∧ SEnv.g e' = SEnv.g e ∧ K b e' = some r := by
  cases g with
  | none => exact ⟨true, e, rfl, rfl, h⟩
  | some p =>
    have hw : wanted ops (SEnv.g e) (some p) = (match nthQ p.1 ops with | some oj => yields (SEnv.g e) p.2 oj | none => some false) := rfl
    rcases orE_eq (show orE (nthQ p.1 ops) (fun oj => orE oj.dst (fun d => andThen (e.get d) (sGuardV p.2 d e K)) (K false e)) (K false e) = some r from h) with ⟨oj, h1, h⟩ | ⟨h1, h⟩
    · rw [h1] at hw
      have hy : yields (SEnv.g e) p.2 oj = (match oj.dst with | none => some false | some d => andThen ((SEnv.g e).get d) (guardOf p.2)) := rfl
      rcases orE_eq h with ⟨d, h2, h⟩ | ⟨h2, h⟩
      · obtain ⟨x, h3, h⟩ := andThen_eq h
        rw [h2] at hy
        have hy : yields (SEnv.g e) p.2 oj = andThen ((SEnv.g e).get d) (guardOf p.2) := hy
        rw [SEnv.get_g, h3] at hy
        have hy : yields (SEnv.g e) p.2 oj = guardOf p.2 x.val := hy
        have hw : wanted ops (SEnv.g e) (some p) = guardOf p.2 x.val := hw.trans hy
        rcases orE_eq h with ⟨b, h4, h⟩ | ⟨_, h⟩
        · obtain rfl := asBS_eq h4
          have hw : wanted ops (SEnv.g e) (some p) = some (b == p.2) := hw
          rcases iff_way h with ⟨rfl, h⟩ | ⟨rfl, h⟩
          · exact ⟨_, _, hw, set_known h3, h⟩
          · exact ⟨_, _, hw, set_known h3, h⟩
        · obtain ⟨h4, h⟩ := iff_some h
          obtain rfl := isUndef_eq h4
          exact ⟨false, e, hw, rfl, h⟩
      · rw [h2] at hy
        exact ⟨false, e, hw.trans hy, rfl, h⟩
    · rw [h1] at hw
      exact ⟨false, e, hw, rfl, h⟩
noncomputable def sDo (bar draw : Bool) (op : Op) (ρ : Operand → Sym) (s : SSt) (K : Sym → SSt → Option R) : Option R :=
  iff draw (sop T tab op ρ ⟨s.heap, s.next, s.next, s.klow⟩ fun u s' => iff (or (Nat.ble s.next s'.low) bar) (K u ⟨s'.heap, s'.next, minN s.low s'.low, s'.klow⟩) none) (sop T tab op ρ s K)
theorem sDo_ok {bar draw : Bool} {op : Op} {ρ : Operand → Sym} {s : SSt} {K : Sym → SSt → Option R} {r : R} (h : sDo T tab bar draw op ρ s K = some r) : Says (doOper T (callT tab) bar draw op (fun o => (ρ o).val) s.g) s K r := by
  rcases iff_way h with ⟨hd, k⟩ | ⟨hd, k⟩
  · clear h
    subst hd
    obtain ⟨u, s', h1, h2⟩ := sop_ok T tab k
    obtain ⟨h3, h4⟩ := iff_some h2
    refine ⟨u, _, ?_, h4⟩
    show andThen2 (operV T (callT tab) op (fun o => (ρ o).val) ⟨s.g.heap, s.g.next, s.g.next, s.g.klow⟩) (fun v σ' => iff (or (Nat.ble s.g.next σ'.low) bar) (some (v, (⟨σ'.heap, σ'.next, minN s.g.low σ'.low, σ'.klow⟩ : ASt))) none) = _
    rw [show (⟨s.g.heap, s.g.next, s.g.next, s.g.klow⟩ : ASt) = (⟨s.heap, s.next, s.next, s.klow⟩ : SSt).g from rfl, h1, andThen2_some]
    rw [show (or (Nat.ble s.g.next s'.g.low) bar) = true from h3, iff_true]
    rfl
  · clear h
    subst hd
    exact sop_ok T tab k
noncomputable def sOps (ops : List Oper) (bar : Nat → Bool) (draw : Bool) (K : SEnv → SSt → Option R) (l : List Oper) : Nat → SEnv → SSt → Option R :=
  @List.rec Oper (fun _ => Nat → SEnv → SSt → Option R) (fun _ e s => K e s)
    (fun o _ ih i e s => sGuard ops e o.guard fun g e => iff g (sDo T tab (bar i) draw o.op (senv e) s fun u s' => ih (Nat.succ i) (sput e u o.dst) s') (ih (Nat.succ i) (sput e (.v undef) o.dst) s)) l
theorem senv_fun (e : SEnv) : (fun o => (senv e o).val) = env (SEnv.g e) := funext fun o => senv_val e o
theorem sOps_ok {ops : List Oper} {bar : Nat → Bool} {draw : Bool} {K : SEnv → SSt → Option R} {r : R} : ∀ (l : List Oper) (i : Nat) (e : SEnv) (s : SSt), sOps T tab ops bar draw K l i e s = some r → ∃ e' s', runOps T (callT tab) ops bar draw l i (SEnv.g e) s.g = some (SEnv.g e', s'.g) ∧ K e' s' = some r
  | [], i, e, s, h => ⟨e, s, rfl, h⟩
  | o :: l, i, e, s, h => by
    obtain ⟨b, e1, h1, h2, h⟩ := sGuard_ok (show sGuard ops e o.guard (fun g e => iff g (sDo T tab (bar i) draw o.op (senv e) s fun u s' => sOps T tab ops bar draw K l (i + 1) (sput e u o.dst) s') (sOps T tab ops bar draw K l (i + 1) (sput e (.v undef) o.dst) s)) = some r from h)
    rw [runOps_cons, h1, andThen_some]
    rcases iff_way h with ⟨rfl, h⟩ | ⟨rfl, h⟩
    · obtain ⟨u, s', h3, h4⟩ := sDo_ok T tab h
      rw [senv_fun, h2] at h3
      rw [iff_true, h3, andThen2_some, ← h2, ← sput_g]
      exact sOps_ok l (i + 1) _ _ h4
    · rw [iff_false, ← h2, show undef = (Sym.v undef).val from rfl, ← sput_g]
      exact sOps_ok l (i + 1) _ _ h
end
end Go.Abs
namespace Go.Abs
inductive Shp where
  | d (t : Ty)
  | p (t : Ty)
  | own (i : Nat)
  | at (i off : Nat)
  | mat (i : Nat)
  | mp (kt vt : Ty)
  | ag (l : Shp)
  | nil
  | cons (a r : Shp)
def XS : Shp → Type
  | .d t => El t
  | .p t => El t
  | .own _ => Unit
  | .at _ _ => Unit
  | .mat _ => Unit
  | .mp kt vt => El (mpT kt vt)
  | .ag l => XS l
  | .nil => Unit
  | .cons a r => XS a × XS r
def XSl : List (Nat × Shp) → Type
  | [] => Unit
  | p :: l => XS p.2 × XSl l
def XGl : List (Nat × Ty × Bool) → Type
  | [] => Unit
  | p :: l => Option (List (El p.2.1)) × XGl l
structure Cut where
  sl : List (Nat × Shp)
  gl : List (Nat × Ty × Bool)
  bl : List (Nat × Shp)
  n : Nat
def Cut.X (c : Cut) : Type := XSl c.sl × XGl c.gl × XSl c.bl
structure GI where
  z : Nat
  len : Nat
  nl : Bool
  nn : Bool
noncomputable def rowsO {α : Type} (o : Option (List α)) : List α := @Option.rec (List α) (fun _ => List α) [] (fun l => l) o
noncomputable def noO {α : Type} (o : Option (List α)) : Bool := @Option.rec (List α) (fun _ => Bool) true (fun _ => false) o
noncomputable def giOf : (l : List (Nat × Ty × Bool)) → XGl l → Nat → Option GI
  | [], _, _ => none
  | p :: l, x, i => iff (Nat.beq i p.1) (some ⟨sizeT p.2.1, (rowsO x.1).length, noO x.1, p.2.2⟩) (giOf l x.2 i)
noncomputable def vS (g : Nat → Option GI) : (sh : Shp) → XS sh → Sym
  | .d t => fun x => mkD t x
  | .p t => fun x => .p t x
  | .own i => fun _ => @Option.rec GI (fun _ => Sym) (.v .nilFunc) (fun q => .mo i q.z q.len q.nl q.nn) (g i)
  | .at i off => fun _ => .v (.pointer (some ⟨i, off, none⟩))
  | .mat i => fun _ => .v (.map (some i))
  | .mp _ _ => fun _ => .nil
  | .ag l => fun x => .agg (vS g l x)
  | .nil => fun _ => .nil
  | .cons a r => fun x => .cons (vS g a x.1) (vS g r x.2)
noncomputable def vSl (g : Nat → Option GI) : (l : List (Nat × Shp)) → XSl l → List (Nat × Sym)
  | [], _ => []
  | p :: l, x => (p.1, vS g p.2 x.1) :: vSl g l x.2
noncomputable def vB (g : Nat → Option GI) (i : Nat) : (sh : Shp) → XS sh → SObj
  | .mp kt vt => fun x => .mp kt vt x
  | sh => fun x => .cel (vS g sh x) none i false false
noncomputable def vBl (g : Nat → Option GI) : (l : List (Nat × Shp)) → XSl l → List (Nat × SObj)
  | [], _ => []
  | p :: l, x => (p.1, vB g p.1 p.2 x.1) :: vBl g l x.2
noncomputable def vGl : (l : List (Nat × Ty × Bool)) → XGl l → List (Nat × SObj)
  | [], _ => []
  | p :: l, x => (p.1, .may (noO x.1) p.2.2 (.cons (.rw p.2.1 (rowsO x.1)) .nil) (sizeT p.2.1) p.1) :: vGl l x.2
noncomputable def viewE (c : Cut) (x : c.X) : SEnv := mkTr (vSl (giOf c.gl x.2.1) c.sl x.1)
noncomputable def viewS (c : Cut) (x : c.X) : SSt := ⟨mkTr (appL (vGl c.gl x.2.1) (vBl (giOf c.gl x.2.1) c.bl x.2.2)), c.n, c.n, c.n⟩
where appL (a b : List (Nat × SObj)) : List (Nat × SObj) := @List.rec (Nat × SObj) (fun _ => List (Nat × SObj)) b (fun x _ ih => x :: ih) a
theorem mkTr_get {α : Type} : ∀ (l : List (Nat × α)) (k : Nat), (mkTr l).get k = (l.find? (fun p => Nat.beq p.1 k)).map (·.2)
  | [], k => rfl
  | p :: l, k => by
    show ((mkTr l).set p.1 p.2).get k = _
    rw [Tr.get_set, mkTr_get l k, List.find?_cons]
    by_cases h : k = p.1
    · rw [if_pos h, (beq_iff _ _).2 h.symm]; rfl
    · rw [if_neg h]
      cases hb : Nat.beq p.1 k with
      | true => exact absurd ((beq_iff _ _).1 hb).symm h
      | false => rfl
theorem mkTr_mem {α : Type} {l : List (Nat × α)} {k : Nat} {a : α} (h : (mkTr l).get k = some a) : (k, a) ∈ l := by
  rw [mkTr_get] at h
  obtain ⟨p, h1, h2⟩ := Option.map_eq_some_iff.1 h
  have h3 := List.find?_some h1
  have : p.1 = k := (beq_iff _ _).1 h3
  rw [← this, ← h2]
  exact List.mem_of_find?_eq_some h1
section
variable {R : Type}
def asNum : Sym → Option (Option Nat)
  | .v (.slice none _ _) => some none
  | .v (.slice (some ⟨b, _, none⟩) _ _) => some (some b)
  | .os b _ _ => some (some b)
  | .mo b _ _ _ _ => some (some b)
  | _ => none
def asMp : Sym → Option Nat
  | .v (.map (some b)) => some b
  | _ => none
theorem asMp_eq {s : Sym} {b : Nat} (h : asMp s = some b) : s = .v (.map (some b)) := by
  unfold asMp at h
  split at h
  · cases h; rfl
  · cases h
def Shp.isMp : Shp → Bool
  | .mp _ _ => true
  | _ => false
abbrev Num := List (Nat × Option Nat)
noncomputable def numOf (i : Nat) (m : Num) : Option (Option Nat) := @List.rec (Nat × Option Nat) (fun _ => Option (Option Nat)) none (fun p _ ih => iff (Nat.beq i p.1) (some p.2) ih) m
noncomputable def addNum (i : Nat) (o : Option Nat) (m : Num) : Num := @Option.rec (Option Nat) (fun _ => Num) ((i, o) :: m) (fun _ => m) (numOf i m)
noncomputable def numS : Shp → Sym → Num → (Num → Sym → Option R) → Option R
  | .d t => fun s m K => dropS s (sizeT t) (K m)
  | .p _ => fun s m K => headS s fun _ r => K m r
  | .own i => fun s m K => headS s fun a r => andThen (asNum a) fun o => K (addNum i o m) r
  | .at i _ => fun s m K => headS s fun a r => andThen2 (asPt a) fun b _ => K (addNum i (some b) m) r
  | .mat i => fun s m K => headS s fun a r => andThen (asMp a) fun b => K (addNum i (some b) m) r
  | .mp _ _ => fun s m K => K m s
  | .ag l => numS l
  | .nil => fun s m K => K m s
  | .cons a b => fun s m K => numS a s m fun m s => numS b s m K
noncomputable def numSl : List (Nat × Shp) → SEnv → Num → (Num → Option R) → Option R
  | [], _, m, K => K m
  | p :: l, e, m, K => andThen (e.get p.1) fun a => numS p.2 (flatS a .nil) m fun m _ => numSl l e m K
noncomputable def numBl : List (Nat × Shp) → SSt → Num → (Num → Option R) → Option R
  | [], _, m, K => K m
  | p :: l, s, m, K => andThen (numOf p.1 m) fun ob => andThen ob fun b => andThen (s.heap.get b) fun o => iff p.2.isMp (numBl l s m K) (andThen (liveO o) fun ch => numS p.2 (flatS ch .nil) m fun m _ => numBl l s m K)
noncomputable def usedOf (m : Num) : List Nat := @List.rec (Nat × Option Nat) (fun _ => List Nat) [] (fun p _ ih => @Option.rec Nat (fun _ => List Nat) ih (fun b => b :: ih) p.2) m
noncomputable def ownEq (q : GI) (ob : Option Nat) : Sym → Bool
  | .os b z n => and (and (eqO ob b) (Nat.beq z q.z)) (and (not q.nl) (Nat.beq n q.len))
  | .mo b z n nl nn => and (and (eqO ob b) (and (Nat.beq z q.z) (nn == q.nn))) (and (nl == q.nl) (or q.nl (Nat.beq n q.len)))
  | .v (.slice none n c) => and (and (isZ n) (isZ c)) (and q.nn q.nl)
  | .v (.slice (some ⟨_, _, none⟩) n c) => and (and (isZ n) (isZ c)) (and (not q.nn) q.nl)
  | _ => false
where eqO (ob : Option Nat) (b : Nat) : Bool := @Option.rec Nat (fun _ => Bool) false (fun b' => Nat.beq b b') ob
noncomputable def colX (hp : Nat → Option (Bool × Bool × Sym)) (g : Nat → Option GI) (m : Num) (ks : List Nat) : (sh : Shp) → Sym → (XS sh → Sym → Option R) → Option R
  | .d t => colC true hp t
  | .p t => fun s K => headS s fun a r => andThen (asPD t a) fun x => K x r
  | .own i => fun s K => headS s fun a r => andThen (g i) fun q => andThen (numOf i m) fun ob => iff (ownEq q ob a) (K () r) none
  | .at i off => fun s K => headS s fun a r => andThen2 (asPt a) fun b off' => andThen (numOf i m) fun ob => iff (and (memN i ks) (and (ownEq.eqO ob b) (Nat.beq off' off))) (K () r) none
  | .mat i => fun s K => headS s fun a r => andThen (asMp a) fun b => andThen (numOf i m) fun ob => iff (and (memN i ks) (ownEq.eqO ob b)) (K () r) none
  | .mp _ _ => fun _ _ => none
  | .ag l => colX hp g m ks l
  | .nil => fun s K => K () s
  | .cons a b => fun s K => colX hp g m ks a s fun x r => colX hp g m ks b r fun y r' => K (x, y) r'
where asPD (t : Ty) : Sym → Option (El t)
  | .p t' x => castT t' t x
  | _ => none
def Shp.isAgg : Shp → Bool
  | .d t => aggT t
  | .ag _ => true
  | _ => false
def Shp.isOne : Shp → Bool
  | .mp _ _ => false
  | .nil => false
  | .cons _ _ => false
  | _ => true
noncomputable def colXl (hp : Nat → Option (Bool × Bool × Sym)) (g : Nat → Option GI) (m : Num) (ks : List Nat) : (l : List (Nat × Shp)) → SEnv → (XSl l → Option R) → Option R
  | [], _, K => K ()
  | p :: l, e, K => andThen (e.get p.1) fun u => iff (and (and u.ok p.2.isOne) (u.isAgg == p.2.isAgg)) (colX hp g m ks p.2 (flatS u .nil) fun x r => nilS r (colXl hp g m ks l e fun y => K (x, y))) none
noncomputable def colB (hp : Nat → Option (Bool × Bool × Sym)) (g : Nat → Option GI) (m : Num) (ks : List Nat) (o : SObj) : (sh : Shp) → (XS sh → Option R) → Option R
  | .mp kt vt => fun K => match o with
    | .mp kt' vt' x => andThen (castT (mpT kt' vt') (mpT kt vt) x) K
    | _ => none
  | sh => fun K => andThen3 (ownO o) fun ch e _ => iff e.isNone (colX hp g m ks sh (flatS ch .nil) fun x r => nilS r (K x)) none
noncomputable def colBl (hp : Nat → Option (Bool × Bool × Sym)) (g : Nat → Option GI) (m : Num) (ks : List Nat) : (l : List (Nat × Shp)) → SSt → (XSl l → Option R) → Option R
  | [], _, K => K ()
  | p :: l, s, K => andThen (numOf p.1 m) fun ob => andThen ob fun b => andThen (s.heap.get b) fun o => colB hp g m ks o p.2 fun x => colBl hp g m ks l s fun y => K (x, y)
noncomputable def rowsK (hp : Nat → Option (Bool × Bool × Sym)) (t : Ty) (ch : Sym) (K : List (El t) → Option R) : Option R := iff (isZ (sizeT t)) none (colRows t (colC true hp t) 2000 (flatS ch .nil) K)
noncomputable def colG1 (hp : Nat → Option (Bool × Bool × Sym)) (t : Ty) (nn : Bool) (K : Option (List (El t)) → Option R) (o : SObj) : Option R :=
  orE (ownO o) (fun q => @Option.rec Nat (fun _ => Option R) (iff (and (not nn) (isZ q.1.size)) (K none) none) (fun z => iff (Nat.beq z (sizeT t)) (rowsK hp t q.1 fun xs => K (some xs)) none) q.2.1) <|
  orE (mayO o) (fun q => iff (and (Nat.beq q.2.2.2.1 (sizeT t)) (q.2.1 == nn)) (rowsK hp t q.2.2.1 fun xs => K (iff q.1 none (some xs))) none) none
noncomputable def colGl (hp : Nat → Option (Bool × Bool × Sym)) (m : Num) : (l : List (Nat × Ty × Bool)) → SSt → (XGl l → Option R) → Option R
  | [], _, K => K ()
  | p :: l, s, K => andThen (numOf p.1 m) fun ob => @Option.rec Nat (fun _ => Option R) (iff p.2.2 (colGl hp m l s fun y => K (none, y)) none) (fun b => andThen (s.heap.get b) (colG1 hp p.2.1 p.2.2 fun x => colGl hp m l s fun y => K (x, y))) ob
noncomputable def hpOwn (used : List Nat) (s : SSt) (b : Nat) : Option (Bool × Bool × Sym) := iff (memN b used) none (andThen (s.heap.get b) hpOwnO)
where hpOwnO : SObj → Option (Bool × Bool × Sym)
  | .cel l _ _ false false => some (false, false, l)
  | .may nl nn l _ _ => some (nl, nn, l)
  | _ => none
def keysOf (c : Cut) : List Nat := c.gl.map (·.1) ++ c.bl.map (·.1)
noncomputable def cutOk (c : Cut) : Bool := and (noDup (keysOf c)) (allLt c.n (keysOf c))
noncomputable def colCut (c : Cut) (e : SEnv) (s : SSt) (K : c.X → Option R) : Option R :=
  iff (cutOk c) (numSl c.sl e [] fun m => numBl c.bl s m fun m => iff (noDup (usedOf m)) (colGl (hpOwn (usedOf m) s) m c.gl s fun y => colXl (hpOwn (usedOf m) s) (giOf c.gl y) m (c.bl.map (·.1)) c.sl e fun x => colBl (hpOwn (usedOf m) s) (giOf c.gl y) m (c.bl.map (·.1)) c.bl s fun z => K (x, y, z)) none) none
end
end Go.Abs
namespace Go.Abs
structure Iok (s : SSt) (used : List Nat) (ι : Ren) : Prop where
  dt : ι.dt = true
  inn : ι.inn = true
  fz : ∀ b, ι.fz b = iff (memN b used) none (ownRow s.g b)
structure Iok2 (s : SSt) (m : Num) (g : Nat → Option GI) (ks : List Nat) (ι : Ren) : Prop where
  base : Iok s (usedOf m) ι
  own : ∀ i q b, g i = some q → q.nl = false → numOf i m = some (some b) → ι.loc i = some (b, 0)
  at_ : ∀ i b, memN i ks = true → numOf i m = some (some b) → ι.loc i = some (b, 0)
theorem col_all {I : Ren → Prop} {nl : Bool} {hp : Nat → Option (Bool × Bool × Sym)} (h : ∀ ι, I ι → ColR (VAs ι) nl hp) : ColR (fun a b => ∀ ι, I ι → VAs ι a b) nl hp where
  nil := fun _ _ => .nil
  app := fun h1 h2 ι hi => (h1 ι hi).append (h2 ι hi)
  self := fun t x ι hi => (h ι hi).self t x
  none := fun hn t c ι hi => (h ι hi).none hn t c
  own := fun b nn ch t xs sp c h1 h2 ι hi => (h ι hi).own b nn ch t xs sp c h1 (h2 ι hi)
  mo := fun hn b n nn ch t xs z len q h1 h2 h3 ι hi => (h ι hi).mo hn b n nn ch t xs z len q h1 h2 fun hq => ⟨(h3 hq).1, (h3 hq).2.1, (h3 hq).2.2 ι hi⟩
theorem hpOwn_ok {used : List Nat} {s : SSt} {b : Nat} {n nn : Bool} {ch : Sym} (h : hpOwn used s b = some (n, nn, ch)) : memN b used = false ∧ (n = false → ownRow s.g b = some ch.cells) ∧ (n = true → nn = false → ownRow s.g b = some []) := by
  rcases iff_way h with ⟨_, h⟩ | ⟨hm, h⟩
  · cases h
  refine ⟨hm, ?_⟩
  obtain ⟨o, h1, h2⟩ := andThen_eq h
  unfold ownRow
  rw [SSt.obj_g, h1]
  unfold hpOwn.hpOwnO at h2
  split at h2
  · cases h2; exact ⟨fun _ => rfl, fun h => by cases h⟩
  · cases h2
    refine ⟨fun hn => ?_, fun hn hnn => ?_⟩
    · subst hn; rfl
    · subst hn; subst hnn; rfl
  · cases h2
theorem Iok.col {s : SSt} {used : List Nat} {ι : Ren} (h : Iok s used ι) : ColR (VAs ι) true (hpOwn used s) := col_ren h.dt (fun _ => h.inn) fun b n nn ch hp => by
  obtain ⟨h1, h2, h3⟩ := hpOwn_ok hp
  refine ⟨h.inn, fun hn => ?_, fun hn hnn => ?_⟩
  · rw [h.fz, h1, iff_false]; exact h2 hn
  · rw [h.fz, h1, iff_false]; exact h3 hn hnn
section
variable {R : Type} {s : SSt} {m : Num}
theorem eqO_eq {ob : Option Nat} {b : Nat} (h : ownEq.eqO ob b = true) : ob = some b := by
  cases ob with
  | none => cases h
  | some b' => rw [show b = b' from (beq_iff _ _).1 h]
theorem own_va {g : Nat → Option GI} {ks : List Nat} {ι : Ren} (hι : Iok2 s m g ks ι) {i : Nat} {q : GI} {ob : Option Nat} {a : Sym} (hq : g i = some q) (hm : numOf i m = some ob) (h : ownEq q ob a = true) : VAs ι [(Sym.mo i q.z q.len q.nl q.nn).val] a.cells := by
  obtain ⟨z, len, nl, nn⟩ := q
  show VAs ι [moV i z len nl nn] a.cells
  unfold ownEq at h
  split at h
  · simp only [Bool.and_eq_true, beq_iff, Bool.not_eq_true'] at h
    obtain ⟨⟨h1, rfl⟩, rfl, rfl⟩ := h
    obtain rfl := eqO_eq h1
    have hl := hι.own i _ _ hq rfl hm
    exact .singl (.sl _ _ hl rfl)
  · rename_i b z' n nl' nn'
    simp only [Bool.and_eq_true, beq_iff, beq_iff_eq, Bool.or_eq_true] at h
    obtain ⟨⟨h1, rfl, rfl⟩, rfl, h2⟩ := h
    obtain rfl := eqO_eq h1
    show VAs ι [moV i z' len nl' nn'] [moV b z' n nl' nn']
    cases nl' with
    | true =>
      cases nn' with
      | true => exact .singl (.sl0 0 0)
      | false => exact .singl (.slz _ _ rfl rfl)
    | false =>
      have hl := hι.own i _ _ hq rfl hm
      rcases h2 with h2 | rfl
      · cases h2
      · exact .singl (.sl _ _ hl rfl)
  · simp only [Bool.and_eq_true, Tr.isZ_iff] at h
    obtain ⟨⟨rfl, rfl⟩, rfl, rfl⟩ := h
    exact .singl (.sl0 0 0)
  · simp only [Bool.and_eq_true, Tr.isZ_iff, Bool.not_eq_true'] at h
    obtain ⟨⟨rfl, rfl⟩, rfl, rfl⟩ := h
    exact .singl (.slz _ _ rfl rfl)
  · cases h
def Rl2 (s : SSt) (m : Num) (g : Nat → Option GI) (ks : List Nat) (a b : List Value) : Prop := ∀ ι, Iok2 s m g ks ι → VAs ι a b
theorem rl2_col {g : Nat → Option GI} {ks : List Nat} : ColR (Rl2 s m g ks) true (hpOwn (usedOf m) s) := col_all fun _ hi => hi.base.col
theorem colX_ok {g : Nat → Option GI} {ks : List Nat} : ∀ (sh : Shp) (u : Sym) (K : XS sh → Sym → Option R) (r : R), colX (hpOwn (usedOf m) s) g m ks sh u K = some r → ∃ x u' c, K x u' = some r ∧ u.cells = c ++ u'.cells ∧ Rl2 s m g ks (vS g sh x).cells c := by
  intro sh
  induction sh with
  | d t =>
    intro u K r h
    obtain ⟨y, s', c, h1, h2, h3⟩ := colC_ok rl2_col t _ _ _ (show colC true (hpOwn (usedOf m) s) t u K = some r from h)
    refine ⟨y, s', c, h1, h2, ?_⟩
    show Rl2 s m g ks (mkD t y).cells c
    rw [mkD_cells]; exact h3
  | p t =>
    intro u K r h
    obtain ⟨a, s', hs, h⟩ := headS_eq (show headS u (fun a r => andThen (colX.asPD t a) fun x => K x r) = some r from h)
    obtain ⟨x, h1, h⟩ := andThen_eq h
    refine ⟨x, s', a.cells, h, by rw [hs]; rfl, fun ι hi => ?_⟩
    cases a <;> first | (cases h1; done) | skip
    rename_i t' y
    have := (castT_eq (show castT t' t y = some x from h1)).1
    show VAs ι [datP (cellsT t x)] [datP (cellsT t' y)]
    rw [this]
    exact .singl (.dataP _ hi.base.dt)
  | own i =>
    intro u K r h
    obtain ⟨a, s', hs, h⟩ := headS_eq (show headS u (fun a r => andThen (g i) fun q => andThen (numOf i m) fun ob => iff (ownEq q ob a) (K () r) none) = some r from h)
    obtain ⟨q, h1, h⟩ := andThen_eq h
    obtain ⟨ob, h2, h⟩ := andThen_eq h
    obtain ⟨h3, h⟩ := iff_some h
    refine ⟨(), s', a.cells, h, by rw [hs]; rfl, fun ι hi => ?_⟩
    have : (vS g (.own i) ()).cells = [(Sym.mo i q.z q.len q.nl q.nn).val] := by
      show (@Option.rec GI (fun _ => Sym) (.v .nilFunc) (fun q => .mo i q.z q.len q.nl q.nn) (g i) : Sym).cells = _
      rw [h1]; rfl
    rw [this]
    exact own_va hi h1 h2 h3
  | «at» i off =>
    intro u K r h
    obtain ⟨a, s', hs, h⟩ := headS_eq (show headS u (fun a r => andThen2 (asPt a) fun b off' => andThen (numOf i m) fun ob => iff (and (memN i ks) (and (ownEq.eqO ob b) (Nat.beq off' off))) (K () r) none) = some r from h)
    obtain ⟨b, off', h1, k1⟩ := andThen2_eq h
    obtain ⟨ob, h2, k2⟩ := andThen_eq k1
    obtain ⟨h3, k3⟩ := iff_some k2
    clear h k1 k2
    simp only [Bool.and_eq_true, beq_iff] at h3
    obtain ⟨h3, h4, rfl⟩ := h3
    obtain rfl := eqO_eq h4
    refine ⟨(), s', a.cells, k3, by rw [hs]; rfl, fun ι hi => ?_⟩
    rw [asPt_eq h1]
    exact .singl (.ptr (hi.at_ i b h3 h2) (Nat.zero_add _).symm)
  | mat i =>
    intro u K r h
    obtain ⟨a, s', hs, h⟩ := headS_eq (show headS u (fun a r => andThen (asMp a) fun b => andThen (numOf i m) fun ob => iff (and (memN i ks) (ownEq.eqO ob b)) (K () r) none) = some r from h)
    obtain ⟨b, h1, k1⟩ := andThen_eq h
    obtain ⟨ob, h2, k2⟩ := andThen_eq k1
    obtain ⟨h3, k3⟩ := iff_some k2
    clear h k1 k2
    simp only [Bool.and_eq_true] at h3
    obtain ⟨h3, h4⟩ := h3
    obtain rfl := eqO_eq h4
    refine ⟨(), s', a.cells, k3, by rw [hs]; rfl, fun ι hi => ?_⟩
    rw [asMp_eq h1]
    exact .singl (.map (hi.at_ i b h3 h2))
  | mp kt vt => intro u K r h; cases h
  | ag l ih =>
    intro u K r h
    exact ih u K r h
  | nil => intro u K r h; exact ⟨(), u, [], h, rfl, fun ι _ => .nil⟩
  | cons a b iha ihb =>
    intro u K r h
    obtain ⟨x, s1, c1, h1, h2, h3⟩ := iha _ _ _ (show colX (hpOwn (usedOf m) s) g m ks a u (fun x r => colX (hpOwn (usedOf m) s) g m ks b r fun y r' => K (x, y) r') = some r from h)
    obtain ⟨y, s2, c2, h4, h5, h6⟩ := ihb _ _ _ h1
    refine ⟨(x, y), s2, c1 ++ c2, h4, by rw [h2, h5, List.append_assoc], fun ι hi => ?_⟩
    exact (h3 ι hi).append (h6 ι hi)
theorem vS_isAgg {g : Nat → Option GI} : ∀ (sh : Shp) (x : XS sh), sh.isOne = true → (vS g sh x).ok = true ∧ (vS g sh x).isAgg = sh.isAgg
  | .d t, x, _ => ⟨mkD_ok t x, mkD_agg t x⟩
  | .p t, x, _ => ⟨rfl, rfl⟩
  | .own i, x, _ => by
    show (@Option.rec GI (fun _ => Sym) (.v .nilFunc) (fun q => .mo i q.z q.len q.nl q.nn) (g i) : Sym).ok = true ∧ (@Option.rec GI (fun _ => Sym) (.v .nilFunc) (fun q => .mo i q.z q.len q.nl q.nn) (g i) : Sym).isAgg = false
    cases g i <;> exact ⟨rfl, rfl⟩
  | .at i off, x, _ => ⟨rfl, rfl⟩
  | .mat i, x, _ => ⟨rfl, rfl⟩
  | .mp _ _, x, h => by cases h
  | .ag l, x, _ => ⟨rfl, rfl⟩
  | .nil, x, h => by cases h
  | .cons _ _, x, h => by cases h
theorem colXl_ok {g : Nat → Option GI} {ks : List Nat} {e : SEnv} : ∀ (l : List (Nat × Shp)) (K : XSl l → Option R) (r : R), colXl (hpOwn (usedOf m) s) g m ks l e K = some r →
    ∃ x, K x = some r ∧ ∀ p ∈ vSl g l x, ∃ u, e.get p.1 = some u ∧ ∀ ι, Iok2 s m g ks ι → VA ι p.2.val u.val
  | [], K, r, h => ⟨(), h, fun p hp => by cases hp⟩
  | q :: l, K, r, h => by
    obtain ⟨u, h1, h⟩ := andThen_eq (show (andThen (e.get q.1) fun u => iff (and (and u.ok q.2.isOne) (u.isAgg == q.2.isAgg)) (colX (hpOwn (usedOf m) s) g m ks q.2 (flatS u .nil) fun x r => nilS r (colXl (hpOwn (usedOf m) s) g m ks l e fun y => K (x, y))) none) = some r from h)
    obtain ⟨h2, h⟩ := iff_some h
    simp only [Bool.and_eq_true, beq_iff_eq] at h2
    obtain ⟨⟨hok, hone⟩, hag⟩ := h2
    obtain ⟨x, u', c, h3, h4, h5⟩ := colX_ok _ _ _ _ h
    obtain ⟨rfl, h3⟩ := nilS_eq h3
    obtain ⟨y, h6, h7⟩ := colXl_ok l _ r h3
    rw [flatS_cells] at h4
    have h4 : u.cells ++ [] = c ++ [] := h4
    rw [List.append_nil, List.append_nil] at h4
    subst h4
    refine ⟨(x, y), h6, fun p hp => ?_⟩
    rcases List.mem_cons.1 (show p ∈ (q.1, vS g q.2 x) :: vSl g l y from hp) with rfl | hp
    · refine ⟨u, h1, fun ι hi => ?_⟩
      obtain ⟨g1, g2⟩ := vS_isAgg (g := g) q.2 x hone
      have hv := h5 ι hi
      show VA ι (vS g q.2 x).val u.val
      cases ha : q.2.isAgg with
      | true =>
        rw [Sym.agg_val (g2.trans ha), Sym.agg_val (hag.trans ha)]
        exact hv.agg
      | false =>
        rw [Sym.one_val g1 (g2.trans ha), Sym.one_val hok (hag.trans ha)] at hv
        exact hv.2 0 _ _ rfl rfl
    · exact h7 p hp
theorem objA_mk {ι : Ren} {k org : Nat} {e : Option Nat} {c c' : List Value} (h : VAs ι c c') : ObjA ι k 0 (.cells c e k false false) (.cells c' e org false false) := by
  refine ⟨rfl, rfl, rfl, rfl, by rw [h.1]; omega, ?_, fun _ => ⟨rfl, rfl, h.1⟩⟩
  rw [List.drop_zero, h.1, List.take_length]
  exact h
theorem valT_va {ι : Ren} (hd : ι.dt = true) (t : Ty) (x : El t) : VA ι (valT t x) (valT t x) := by
  have h := VAs.closed hd (cellsT_closed t x)
  unfold valT
  cases ha : aggT t with
  | true => rw [if_pos rfl]; exact h.agg
  | false =>
    rw [if_neg (by decide)]
    rw [cellsT_one ha] at h
    exact h.2 0 _ _ rfl rfl
theorem vB_some {g : Nat → Option GI} {i : Nat} : ∀ (sh : Shp) (x : XS sh), ∃ o, (vB g i sh x).g = some o := by
  intro sh x; cases sh <;> exact ⟨_, rfl⟩
theorem ents_self {ι : Ren} (kt vt : Ty) (x : El (mpT kt vt)) (hd : ι.dt = true) : EntsA ι (entsE kt vt x) (entsE kt vt x) := ⟨rfl, fun i e e' h1 h2 => by
  rw [h1] at h2
  cases h2
  obtain ⟨y, _, rfl⟩ := List.mem_map.1 (List.mem_of_getElem? h1)
  exact ⟨valT_va hd kt y.1, valT_va hd vt y.2.1, rfl⟩⟩
theorem colB_ok {g : Nat → Option GI} {ks : List Nat} {b : Nat} {o : SObj} (h2 : s.heap.get b = some o) : ∀ (sh : Shp) (i : Nat) (K : XS sh → Option R) (r : R), colB (hpOwn (usedOf m) s) g m ks o sh K = some r →
    ∃ x, K x = some r ∧ ∃ o', s.g.obj b = some o' ∧ ∀ w, (vB g i sh x).g = some w → ∀ ι, Iok2 s m g ks ι → ObjA ι i 0 w o' := by
  intro sh i K r h
  have rest : (andThen3 (ownO o) fun ch e _ => iff e.isNone (colX (hpOwn (usedOf m) s) g m ks sh (flatS ch .nil) fun x r => nilS r (K x)) none) = some r → (∀ x, vB g i sh x = .cel (vS g sh x) none i false false) →
      ∃ x, K x = some r ∧ ∃ o', s.g.obj b = some o' ∧ ∀ w, (vB g i sh x).g = some w → ∀ ι, Iok2 s m g ks ι → ObjA ι i 0 w o' := fun k2 hv => by
    obtain ⟨ch, e, org, h3, k3⟩ := andThen3_eq k2
    obtain ⟨he, k4⟩ := iff_some k3
    clear k2 k3
    obtain rfl : e = none := by cases e with | none => rfl | some z => cases he
    obtain ⟨x, u', c, h4, h5, h6⟩ := colX_ok _ _ _ _ k4
    obtain ⟨hu, k5⟩ := nilS_eq h4
    subst hu
    rw [flatS_cells] at h5
    have h5 : ch.cells ++ [] = c ++ [] := h5
    rw [List.append_nil, List.append_nil] at h5
    subst h5
    refine ⟨x, k5, _, own_obj h2 h3, fun w hw ι hi => ?_⟩
    rw [hv] at hw
    cases hw
    exact objA_mk (h6 ι hi)
  cases sh with
  | mp kt vt =>
    cases o with
    | mp kt' vt' x =>
      obtain ⟨y, h3, h4⟩ := andThen_eq (show andThen (castT (mpT kt' vt') (mpT kt vt) x) K = some r from h)
      obtain ⟨h5, h6⟩ := castT_mp h3
      refine ⟨y, h4, _, by rw [SSt.obj_g, h2]; rfl, fun w hw ι hi => ?_⟩
      cases (show some (AObj.map (entsE kt vt y) (Int.toNat y.2)) = some w from hw)
      rw [h5, h6]
      exact ⟨rfl, rfl, ents_self _ _ _ hi.base.dt⟩
    | _ => cases h
  | _ => exact rest h fun _ => rfl
theorem colBl_ok {g : Nat → Option GI} {ks : List Nat} : ∀ (l : List (Nat × Shp)) (K : XSl l → Option R) (r : R), colBl (hpOwn (usedOf m) s) g m ks l s K = some r →
    ∃ x, K x = some r ∧ ∀ p ∈ vBl g l x, ∃ b o', numOf p.1 m = some (some b) ∧ s.g.obj b = some o' ∧ ∀ o, p.2.g = some o → ∀ ι, Iok2 s m g ks ι → ObjA ι p.1 0 o o'
  | [], K, r, h => ⟨(), h, fun p hp => by cases hp⟩
  | q :: l, K, r, h => by
    obtain ⟨ob, h1, h⟩ := andThen_eq (show (andThen (numOf q.1 m) fun ob => andThen ob fun b => andThen (s.heap.get b) fun o => colB (hpOwn (usedOf m) s) g m ks o q.2 fun x => colBl (hpOwn (usedOf m) s) g m ks l s fun y => K (x, y)) = some r from h)
    obtain ⟨b, hob, k1⟩ := andThen_eq h
    obtain ⟨o, h2, k2⟩ := andThen_eq k1
    clear h k1
    subst hob
    obtain ⟨x, k5, o', g1, g2⟩ := colB_ok h2 q.2 q.1 _ _ k2
    obtain ⟨y, h7, h8⟩ := colBl_ok l _ r k5
    refine ⟨(x, y), h7, fun p hp => ?_⟩
    rcases List.mem_cons.1 (show p ∈ (q.1, vB g q.1 q.2 x) :: vBl g l y from hp) with rfl | hp
    · exact ⟨b, o', h1, g1, g2⟩
    · exact h8 p hp
def Rl1 (s : SSt) (used : List Nat) (a b : List Value) : Prop := ∀ ι, Iok s used ι → VAs ι a b
theorem rl1_col {used : List Nat} : ColR (Rl1 s used) true (hpOwn used s) := col_all fun _ hi => hi.col
theorem rowsK_ok {used : List Nat} {t : Ty} {ch : Sym} {K : List (El t) → Option R} {r : R} (h : rowsK (hpOwn used s) t ch K = some r) : ∃ xs, K xs = some r ∧ Rl1 s used (xs.map (cellsT t)).flatten ch.cells := by
  rcases iff_way h with ⟨_, h⟩ | ⟨_, h⟩
  · cases h
  obtain ⟨xs, h1, h2⟩ := colRows_ok rl1_col (colC_ok rl1_col t) _ _ _ _ h
  rw [flatS_cells] at h2
  have h2 : Rl1 s used (xs.map (cellsT t)).flatten (ch.cells ++ []) := h2
  rw [List.append_nil] at h2
  exact ⟨xs, h1, h2⟩
noncomputable def gObj (i : Nat) (t : Ty) (nn : Bool) (x : Option (List (El t))) : SObj := .may (noO x) nn (.cons (.rw t (rowsO x)) .nil) (sizeT t) i
theorem gObj_some {ι : Ren} {i org : Nat} {t : Ty} {nn : Bool} {xs : List (El t)} {c : List Value} {o : AObj} (h : VAs ι (xs.map (cellsT t)).flatten c) (ho : (gObj i t nn (some xs)).g = some o) : ObjA ι i 0 o (.cells c (some (sizeT t)) org false false) := by
  have ho : some (AObj.cells ((xs.map (cellsT t)).flatten ++ []) (some (sizeT t)) i false false) = some o := ho
  cases ho
  rw [List.append_nil]
  exact objA_mk h
theorem gObj_none {ι : Ren} {i org : Nat} {t : Ty} {o : AObj} (ho : (gObj i t false none).g = some o) : ObjA ι i 0 o (.cells [] none org false false) := by
  cases (show some (AObj.cells [] none i false false) = some o from ho)
  exact objA_mk .nil
theorem colG1_ok {used : List Nat} {i b : Nat} {t : Ty} {nn : Bool} {o : SObj} {K : Option (List (El t)) → Option R} {r : R} (hb : s.heap.get b = some o) (h : colG1 (hpOwn used s) t nn K o = some r) :
    ∃ x, K x = some r ∧ ∀ w, (gObj i t nn x).g = some w → ∃ o', s.g.obj b = some o' ∧ ∀ ι, Iok s used ι → ObjA ι i 0 w o' := by
  rcases orE_eq h with ⟨⟨ch, e, org⟩, h1, h⟩ | ⟨_, h⟩
  · have ho := own_obj hb h1
    cases e with
    | none =>
      obtain ⟨h2, k⟩ := iff_some (show iff (and (not nn) (isZ ch.size)) (K none) none = some r from h)
      clear h
      rw [Bool.and_eq_true, Tr.isZ_iff, Bool.not_eq_true'] at h2
      obtain ⟨rfl, h2⟩ := h2
      refine ⟨none, k, fun w hw => ⟨_, ho, fun ι _ => ?_⟩⟩
      have : ch.cells = [] := List.eq_nil_of_length_eq_zero (by rw [Sym.size_eq]; exact h2)
      rw [this]
      exact gObj_none hw
    | some z =>
      obtain ⟨h2, k⟩ := iff_some (show iff (Nat.beq z (sizeT t)) (rowsK (hpOwn used s) t ch fun xs => K (some xs)) none = some r from h)
      clear h
      rw [beq_iff] at h2
      subst h2
      obtain ⟨xs, h3, h4⟩ := rowsK_ok k
      exact ⟨_, h3, fun w hw => ⟨_, ho, fun ι hi => gObj_some (h4 ι hi) hw⟩⟩
  rcases orE_eq h with ⟨⟨nl, nn', ch, z, org⟩, h1, h⟩ | ⟨_, h⟩
  · obtain ⟨h2, k⟩ := iff_some h
    clear h
    rw [Bool.and_eq_true, beq_iff, beq_iff_eq] at h2
    obtain ⟨h2, h3⟩ := h2
    have h2 : z = sizeT t := h2
    have h3 : nn' = nn := h3
    subst h2; subst h3
    obtain ⟨xs, h3, h4⟩ := rowsK_ok k
    have h4 : Rl1 s used (xs.map (cellsT t)).flatten ch.cells := h4
    refine ⟨_, h3, fun w hw => ?_⟩
    have ho : s.g.obj b = SObj.g (.may nl nn' ch (sizeT t) org) := by rw [SSt.obj_g, hb, mayO_eq h1]; rfl
    cases nl with
    | true =>
      have hw : (gObj i t nn' (none : Option (List (El t)))).g = some w := hw
      cases nn' with
      | true => cases hw
      | false => exact ⟨_, ho, fun ι _ => gObj_none hw⟩
    | false =>
      have hw : (gObj i t nn' (some xs)).g = some w := hw
      exact ⟨_, ho, fun ι hi => gObj_some (h4 ι hi) hw⟩
  · cases h
theorem colGl_ok : ∀ (l : List (Nat × Ty × Bool)) (K : XGl l → Option R) (r : R), colGl (hpOwn (usedOf m) s) m l s K = some r →
    ∃ x, K x = some r ∧ ∀ p ∈ vGl l x, ∀ w, p.2.g = some w → ∃ b o', numOf p.1 m = some (some b) ∧ s.g.obj b = some o' ∧ ∀ ι, Iok s (usedOf m) ι → ObjA ι p.1 0 w o'
  | [], K, r, h => ⟨(), h, fun p hp => by cases hp⟩
  | q :: l, K, r, h => by
    obtain ⟨ob, h1, h⟩ := andThen_eq (show (andThen (numOf q.1 m) fun ob => @Option.rec Nat (fun _ => Option R) (iff q.2.2 (colGl (hpOwn (usedOf m) s) m l s fun y => K (none, y)) none) (fun b => andThen (s.heap.get b) (colG1 (hpOwn (usedOf m) s) q.2.1 q.2.2 fun x => colGl (hpOwn (usedOf m) s) m l s fun y => K (x, y))) ob) = some r from h)
    cases ob with
    | none =>
      obtain ⟨h2, h⟩ := iff_some (show iff q.2.2 (colGl (hpOwn (usedOf m) s) m l s fun y => K (none, y)) none = some r from h)
      obtain ⟨y, h3, h4⟩ := colGl_ok l _ r h
      refine ⟨(none, y), h3, fun p hp w hw => ?_⟩
      rcases List.mem_cons.1 (show p ∈ (q.1, gObj q.1 q.2.1 q.2.2 none) :: vGl l y from hp) with rfl | hp
      · have hw : (gObj q.1 q.2.1 q.2.2 none).g = some w := hw
        rw [h2] at hw
        cases hw
      · exact h4 p hp w hw
    | some b =>
      obtain ⟨o, h2, h⟩ := andThen_eq (show andThen (s.heap.get b) (colG1 (hpOwn (usedOf m) s) q.2.1 q.2.2 fun x => colGl (hpOwn (usedOf m) s) m l s fun y => K (x, y)) = some r from h)
      obtain ⟨x, h3, h4⟩ := colG1_ok (i := q.1) h2 h
      obtain ⟨y, h5, h6⟩ := colGl_ok l _ r h3
      refine ⟨(x, y), h5, fun p hp w hw => ?_⟩
      rcases List.mem_cons.1 (show p ∈ (q.1, gObj q.1 q.2.1 q.2.2 x) :: vGl l y from hp) with rfl | hp
      · obtain ⟨o', g1, g2⟩ := h4 w hw
        exact ⟨b, o', h1, g1, g2⟩
      · exact h6 p hp w hw
theorem appL_eq : ∀ a b : List (Nat × SObj), viewS.appL a b = a ++ b
  | [], b => rfl
  | x :: a, b => by
    show x :: viewS.appL a b = _
    rw [appL_eq a b]; rfl
theorem vGl_keys : ∀ (l : List (Nat × Ty × Bool)) (x : XGl l), (vGl l x).map (·.1) = l.map (·.1)
  | [], _ => rfl
  | p :: l, x => by
    show p.1 :: (vGl l x.2).map (·.1) = _
    rw [vGl_keys l x.2]; rfl
theorem vBl_keys {g : Nat → Option GI} : ∀ (l : List (Nat × Shp)) (x : XSl l), (vBl g l x).map (·.1) = l.map (·.1)
  | [], _ => rfl
  | p :: l, x => by
    show p.1 :: (vBl g l x.2).map (·.1) = _
    rw [vBl_keys l x.2]; rfl
theorem noDup_get {α : Type} {l : List (Nat × α)} (hn : noDup (l.map (·.1)) = true) {k : Nat} {a : α} (h : (k, a) ∈ l) : (mkTr l).get k = some a := by
  induction l with
  | nil => cases h
  | cons p l ih =>
    have hn : (not ((l.map (·.1)).contains p.1) && noDup (l.map (·.1))) = true := hn
    simp only [Bool.and_eq_true, Bool.not_eq_true', List.contains_eq_mem, decide_eq_false_iff_not] at hn
    show ((mkTr l).set p.1 p.2).get k = _
    rw [Tr.get_set]
    rcases List.mem_cons.1 h with h | h
    · rw [← h, if_pos rfl]
    · rw [if_neg fun hk => hn.1 (List.mem_map.2 ⟨_, h, hk⟩)]
      exact ih hn.2 h
theorem gi_mem : ∀ (l : List (Nat × Ty × Bool)) (x : XGl l) {i : Nat} {q : GI}, giOf l x i = some q → ∃ nl nn ch z, (i, SObj.may nl nn ch z i) ∈ vGl l x ∧ q.nl = nl
  | [], _, i, q, h => by cases h
  | p :: l, x, i, q, h => by
    rcases iff_way (show iff (Nat.beq i p.1) (some ⟨sizeT p.2.1, (rowsO x.1).length, noO x.1, p.2.2⟩) (giOf l x.2 i) = some q from h) with ⟨h1, h⟩ | ⟨_, h⟩
    · cases h
      obtain rfl := (beq_iff _ _).1 h1
      exact ⟨_, _, _, _, List.mem_cons_self .., rfl⟩
    · obtain ⟨nl, nn, ch, z, h1, h2⟩ := gi_mem l x.2 h
      exact ⟨nl, nn, ch, z, List.mem_cons_of_mem _ h1, h2⟩
theorem used_mem : ∀ {m : Num} {i b : Nat}, numOf i m = some (some b) → b ∈ usedOf m
  | [], i, b, h => by cases h
  | p :: m, i, b, h => by
    rcases iff_way (show iff (Nat.beq i p.1) (some p.2) (numOf i m) = some (some b) from h) with ⟨_, h⟩ | ⟨_, h⟩
    · have h : p.2 = some b := Option.some.inj h
      show b ∈ @Option.rec Nat (fun _ => List Nat) (usedOf m) (fun b => b :: usedOf m) p.2
      rw [h]
      exact List.mem_cons_self ..
    · have := used_mem (m := m) h
      show b ∈ @Option.rec Nat (fun _ => List Nat) (usedOf m) (fun b => b :: usedOf m) p.2
      cases p.2 with
      | none => exact this
      | some c => exact List.mem_cons_of_mem _ this
theorem used_inj : ∀ {m : Num} {i j b : Nat}, noDup (usedOf m) = true → numOf i m = some (some b) → numOf j m = some (some b) → i = j
  | [], i, j, b, _, h, _ => by cases h
  | p :: m, i, j, b, hn, h, h' => by
    have hu : usedOf (p :: m) = @Option.rec Nat (fun _ => List Nat) (usedOf m) (fun b => b :: usedOf m) p.2 := rfl
    have htail : noDup (usedOf m) = true := by
      rw [hu] at hn
      cases hp : p.2 with
      | none => rw [hp] at hn; exact hn
      | some c =>
        rw [hp] at hn
        have hn : (not ((usedOf m).contains c) && noDup (usedOf m)) = true := hn
        rw [Bool.and_eq_true] at hn
        exact hn.2
    have hout : p.2 = some b → ¬ b ∈ usedOf m := fun hp => by
      rw [hu, hp] at hn
      have hn : (not ((usedOf m).contains b) && noDup (usedOf m)) = true := hn
      simp only [Bool.and_eq_true, Bool.not_eq_true', List.contains_eq_mem, decide_eq_false_iff_not] at hn
      exact hn.1
    rcases iff_way (show iff (Nat.beq i p.1) (some p.2) (numOf i m) = some (some b) from h) with ⟨h1, h⟩ | ⟨h1, h⟩
    · rcases iff_way (show iff (Nat.beq j p.1) (some p.2) (numOf j m) = some (some b) from h') with ⟨h2, _⟩ | ⟨_, h'⟩
      · rw [(beq_iff _ _).1 h1, (beq_iff _ _).1 h2]
      · exact absurd (used_mem h') (hout (Option.some.inj h))
    · rcases iff_way (show iff (Nat.beq j p.1) (some p.2) (numOf j m) = some (some b) from h') with ⟨_, h'⟩ | ⟨_, h'⟩
      · exact absurd (used_mem h) (hout (Option.some.inj h'))
      · exact used_inj htail h h'
theorem colCut_ok {c : Cut} {e : SEnv} {s : SSt} {K : c.X → Option R} {r : R} (h : colCut c e s K = some r) : ∃ x, K x = some r ∧ ∃ ι, Match (fun _ => false) noG ι (SEnv.g e) s.g (SEnv.g (viewE c x)) (viewS c x).g := by
  obtain ⟨hc, h⟩ := iff_some h
  have key : ∀ m, iff (noDup (usedOf m)) (colGl (hpOwn (usedOf m) s) m c.gl s fun y => colXl (hpOwn (usedOf m) s) (giOf c.gl y) m (c.bl.map (·.1)) c.sl e fun x => colBl (hpOwn (usedOf m) s) (giOf c.gl y) m (c.bl.map (·.1)) c.bl s fun z => K (x, y, z)) none = some r →
      ∃ x, K x = some r ∧ ∃ ι, Match (fun _ => false) noG ι (SEnv.g e) s.g (SEnv.g (viewE c x)) (viewS c x).g := by
    clear h
    intro m h
    obtain ⟨hn, h⟩ := iff_some h
    obtain ⟨y, h, hG⟩ := colGl_ok _ _ _ h
    obtain ⟨x, h, hX⟩ := colXl_ok _ _ _ h
    obtain ⟨z, h, hB⟩ := colBl_ok _ _ _ h
    refine ⟨(x, y, z), h, ?_⟩
    let L := vGl c.gl y ++ vBl (giOf c.gl y) c.bl z
    have hL : (viewS c (x, y, z)).heap = mkTr L := by
      show mkTr (viewS.appL _ _) = _
      rw [appL_eq]
    have hkeys : L.map (·.1) = keysOf c := by
      show (vGl c.gl y ++ vBl (giOf c.gl y) c.bl z).map (·.1) = _
      rw [List.map_append, vGl_keys, vBl_keys]; rfl
    unfold cutOk at hc
    rw [Bool.and_eq_true] at hc
    have hobj : ∀ k, (viewS c (x, y, z)).g.obj k = ((mkTr L).get k).bind SObj.g := fun k => by rw [SSt.obj_g, hL]
    have hin : ∀ k o, (viewS c (x, y, z)).g.obj k = some o → ∃ so, (k, so) ∈ L ∧ so.g = some o := fun k o ho => by
      rw [hobj] at ho
      obtain ⟨so, h1, h2⟩ := Option.bind_eq_some_iff.1 ho
      exact ⟨so, mkTr_mem h1, h2⟩
    have hat : ∀ k so o, (k, so) ∈ L → so.g = some o → (viewS c (x, y, z)).g.obj k = some o := fun k so o h1 h2 => by
      rw [hobj, noDup_get (by rw [hkeys]; exact hc.1) h1]
      exact h2
    let ι : Ren := ⟨fun i => @Option.rec (Option Nat) (fun _ => Option (Nat × Nat)) none (fun ob => @Option.rec Nat (fun _ => Option (Nat × Nat)) none (fun b => iff ((viewS c (x, y, z)).g.obj i).isSome (some (b, 0)) none) ob) (numOf i m), fun b => iff (memN b (usedOf m)) none (ownRow s.g b), true, true⟩
    have hloc : ∀ i b, numOf i m = some (some b) → ((viewS c (x, y, z)).g.obj i).isSome = true → ι.loc i = some (b, 0) := fun i b h1 h2 => by
      show @Option.rec (Option Nat) (fun _ => Option (Nat × Nat)) none _ (numOf i m) = _
      rw [h1]
      show iff ((viewS c (x, y, z)).g.obj i).isSome (some (b, 0)) none = _
      rw [h2]; rfl
    have hlocI : ∀ i p, ι.loc i = some p → ∃ b, numOf i m = some (some b) ∧ p = (b, 0) ∧ ((viewS c (x, y, z)).g.obj i).isSome = true := fun i p h1 => by
      have h1 : @Option.rec (Option Nat) (fun _ => Option (Nat × Nat)) none (fun ob => @Option.rec Nat (fun _ => Option (Nat × Nat)) none (fun b => iff ((viewS c (x, y, z)).g.obj i).isSome (some (b, 0)) none) ob) (numOf i m) = some p := h1
      cases h2 : numOf i m with
      | none => rw [h2] at h1; cases h1
      | some ob =>
        rw [h2] at h1
        cases ob with
        | none => cases h1
        | some b =>
          obtain ⟨h3, h4⟩ := iff_some (show iff ((viewS c (x, y, z)).g.obj i).isSome (some (b, 0)) none = some p from h1)
          cases h4
          exact ⟨b, rfl, rfl, h3⟩
    have hι : Iok s (usedOf m) ι := ⟨rfl, rfl, fun _ => rfl⟩
    have hι2 : Iok2 s m (giOf c.gl y) (c.bl.map (·.1)) ι := ⟨hι, fun i q b h1 h2 h3 => by
      obtain ⟨nl, nn, ch, zz, h4, h5⟩ := gi_mem _ _ h1
      refine hloc i b h3 ?_
      rw [h2] at h5
      subst h5
      rw [hat i _ _ (List.mem_append_left _ h4) rfl]; rfl, fun i b h1 h2 => by
      rw [memN_iff] at h1
      rw [← vBl_keys (g := giOf c.gl y) c.bl z] at h1
      obtain ⟨⟨k, so⟩, h3, rfl⟩ := List.mem_map.1 h1
      refine hloc k b h2 ?_
      have hso : ∃ o, so.g = some o := by
        have : ∀ (l : List (Nat × Shp)) (z : XSl l), (k, so) ∈ vBl (giOf c.gl y) l z → ∃ o, so.g = some o := by
          intro l
          induction l with
          | nil => intro z hz; cases hz
          | cons p l ih =>
            intro z hz
            rcases List.mem_cons.1 (show (k, so) ∈ (p.1, vB (giOf c.gl y) p.1 p.2 z.1) :: vBl (giOf c.gl y) l z.2 from hz) with h4 | h4
            · cases h4
              exact vB_some p.2 z.1
            · exact ih z.2 h4
        exact this _ _ h3
      obtain ⟨o, ho⟩ := hso
      rw [hat k so o (List.mem_append_right _ h3) ho]; rfl⟩
    refine ⟨ι, Nat.le_refl _, fun k hk => ?_, fun k₁ k₂ k s₁ s₂ h1 h2 => ?_, fun k o ho => ?_, fun t v hv => ?_, fun k p hk => ?_, fun g hg => (by cases hg), fun k hk => (by cases hk), fun b cells hb => ?_⟩
    · cases ho : (viewS c (x, y, z)).g.obj k with
      | none => rfl
      | some o =>
        obtain ⟨so, h1, _⟩ := hin k o ho
        have h2 : k ∈ keysOf c := by rw [← hkeys]; exact List.mem_map.2 ⟨_, h1, rfl⟩
        have h3 := (blt_iff _ _).1 (List.all_eq_true.1 hc.2 k h2)
        have hk : c.n ≤ k := hk
        omega
    · obtain ⟨b1, g1, g2, _⟩ := hlocI _ _ h1
      obtain ⟨b2, g3, g4, _⟩ := hlocI _ _ h2
      cases g2; cases g4
      exact used_inj hn g1 g3
    · obtain ⟨so, h1, h2⟩ := hin k o ho
      rcases List.mem_append.1 h1 with h3 | h3
      · obtain ⟨b, o', g1, g2, g3⟩ := hG _ h3 o h2
        exact ⟨b, 0, o', hloc k b g1 (by rw [ho]; rfl), g2, g3 ι hι⟩
      · obtain ⟨b, o', g1, g2, g3⟩ := hB _ h3
        exact ⟨b, 0, o', hloc k b g1 (by rw [ho]; rfl), g2, g3 o h2 ι hι2⟩
    · rw [SEnv.get_g] at hv
      obtain ⟨u, h1, rfl⟩ := Option.map_eq_some_iff.1 hv
      obtain ⟨w, g1, g2⟩ := hX _ (mkTr_mem h1)
      refine ⟨w.val, ?_, g2 ι hι2⟩
      rw [SEnv.get_g, g1]; rfl
    · obtain ⟨b, _, _, h3⟩ := hlocI k p hk
      exact h3
    · rcases iff_way (show iff (memN b (usedOf m)) none (ownRow s.g b) = some cells from hb) with ⟨_, hb⟩ | ⟨hm, hb⟩
      · cases hb
      obtain ⟨o, h2, h3⟩ := andThen_eq hb
      obtain ⟨c', e', org', h4, h5⟩ := andThen3_eq h3
      cases h5
      rw [rowsOf_eq h4] at h2
      refine ⟨⟨e', org', h2⟩, fun k sh hk => ?_⟩
      obtain ⟨b', g1, g2, _⟩ := hlocI k _ hk
      cases g2
      rw [(memN_iff _ _).2 (used_mem g1)] at hm
      cases hm
  have h1 : ∀ (sh : Shp) (u : Sym) (m : Num) (K : Num → Sym → Option R) (r : R), numS sh u m K = some r → ∃ m' u', K m' u' = some r := by
      intro sh
      induction sh with
      | d t => intro u m K r h; obtain ⟨u', h1, _⟩ := dropS_ok _ _ _ _ (show dropS u (sizeT t) (K m) = some r from h); exact ⟨m, u', h1⟩
      | p t => intro u m K r h; obtain ⟨a, u', _, h1⟩ := headS_eq (show headS u (fun _ r => K m r) = some r from h); exact ⟨m, u', h1⟩
      | own i =>
        intro u m K r h
        obtain ⟨a, u', _, h1⟩ := headS_eq (show headS u (fun a r => andThen (asNum a) fun o => K (addNum i o m) r) = some r from h)
        obtain ⟨o, _, h2⟩ := andThen_eq h1
        exact ⟨_, u', h2⟩
      | «at» i off =>
        intro u m K r h
        obtain ⟨a, u', _, h1⟩ := headS_eq (show headS u (fun a r => andThen2 (asPt a) fun b _ => K (addNum i (some b) m) r) = some r from h)
        obtain ⟨b, o, _, h2⟩ := andThen2_eq h1
        exact ⟨_, u', h2⟩
      | mat i =>
        intro u m K r h
        obtain ⟨a, u', _, h1⟩ := headS_eq (show headS u (fun a r => andThen (asMp a) fun b => K (addNum i (some b) m) r) = some r from h)
        obtain ⟨b, _, h2⟩ := andThen_eq h1
        exact ⟨_, u', h2⟩
      | mp kt vt => intro u m K r h; exact ⟨m, u, h⟩
      | ag l ih => intro u m K r h; exact ih u m K r h
      | nil => intro u m K r h; exact ⟨m, u, h⟩
      | cons a b iha ihb =>
        intro u m K r h
        obtain ⟨m1, u1, h1⟩ := iha _ _ _ _ (show numS a u m (fun m s => numS b s m K) = some r from h)
        exact ihb _ _ _ _ h1
  have hnum : ∀ (l : List (Nat × Shp)) (m : Num) (K : Num → Option R) (r : R), numSl l e m K = some r → ∃ m', K m' = some r := by
    intro l
    induction l with
    | nil => intro m K r h; exact ⟨m, h⟩
    | cons p l ih =>
      intro m K r h
      obtain ⟨a, _, h2⟩ := andThen_eq (show (andThen (e.get p.1) fun a => numS p.2 (flatS a .nil) m fun m _ => numSl l e m K) = some r from h)
      obtain ⟨m1, u1, h3⟩ := h1 _ _ _ _ _ h2
      exact ih _ _ _ h3
  have hnumB : ∀ (l : List (Nat × Shp)) (m : Num) (K : Num → Option R) (r : R), numBl l s m K = some r → ∃ m', K m' = some r := by
    intro l
    induction l with
    | nil => intro m K r h; exact ⟨m, h⟩
    | cons p l ih =>
      intro m K r h
      obtain ⟨ob, _, h2⟩ := andThen_eq (show (andThen (numOf p.1 m) fun ob => andThen ob fun b => andThen (s.heap.get b) fun o => iff p.2.isMp (numBl l s m K) (andThen (liveO o) fun ch => numS p.2 (flatS ch .nil) m fun m _ => numBl l s m K)) = some r from h)
      obtain ⟨b, _, h2⟩ := andThen_eq h2
      obtain ⟨o, _, h2⟩ := andThen_eq h2
      rcases iff_way h2 with ⟨_, h2⟩ | ⟨_, h2⟩
      · exact ih _ _ _ h2
      obtain ⟨ch, _, h2⟩ := andThen_eq h2
      obtain ⟨m1, u1, h3⟩ := h1 _ _ _ _ _ h2
      exact ih _ _ _ h3
  obtain ⟨m, h⟩ := hnum _ _ _ _ h
  obtain ⟨m, h⟩ := hnumB _ _ _ _ h
  exact key m h
end
end Go.Abs
namespace Go.Abs
noncomputable def nilTest : List Oper → Option (Tmp × Tmp × Tmp × TypeId)
  | [⟨some d1, .move (.tmp x), _, _, _, none⟩, ⟨some d2, .binOp .eql t (.tmp y) (.const (.slice none n c)) _, _, _, _, none⟩] => iff (and (Nat.beq y d1) (and (isZ n) (isZ c))) (some (x, d1, d2, t)) none
  | _ => none
theorem nilTest_eq {l : List Oper} {x d1 d2 : Tmp} {t : TypeId} (h : nilTest l = some (x, d1, d2, t)) :
    ∃ y1 a1 p1 yt y2 a2 p2, l = [⟨some d1, .move (.tmp x), y1, a1, p1, none⟩, ⟨some d2, .binOp .eql t (.tmp d1) (.const (.slice none 0 0)) yt, y2, a2, p2, none⟩] := by
  unfold nilTest at h
  split at h
  · rename_i n c _ _ _ _ 
    obtain ⟨hc, h9⟩ := iff_some h
    clear h
    rw [Bool.and_eq_true, Bool.and_eq_true, beq_iff] at hc
    obtain ⟨rfl, h1, h2⟩ := hc
    have h1 : n = 0 := (beq_iff _ _).1 h1
    have h2 : c = 0 := (beq_iff _ _).1 h2
    subst h1
    subst h2
    cases h9
    exact ⟨_, _, _, _, _, _, _, rfl⟩
  · cases h
section
variable {P : Program} {T : Tab} {G : Globs} {S : Nat → Bool} {N : Nat} {e : Env} {σ : ASt} {Q : AEx → Env → ASt → Prop}
theorem eql_nil {el t : TypeId} {o : Option Addr} {n c : Nat} {ρ : Operand → Value} {x y : Operand} {q : Oper} {yt : TypeId} (hT : TyOk P T) (hd : desc T t = some (.slice el)) (hq : q.op = .binOp .eql t x y yt) (h : ρ x = .slice o n c) (h0 : ρ y = .slice none 0 0) (w : World) :
    (execOp ρ q).run P w = .ok (.value (.bool o.isNone)) w := by
  obtain ⟨dst, op, ty, pos, after, guard⟩ := q
  simp only at hq
  subst hq
  have hu := und_desc hT hd
  have hg : (eqGuard .eql t x y (.slice o n c) (.slice none 0 0)).run P w = .ok () w := by simp [eqGuard]
  have hb : (Go.binOp .eql t (.slice o n c) (.slice none 0 0)).run P w = .ok (.bool o.isNone) w := by
    simp only [Go.binOp, Sem.run_bind, Op.equal, Op.maxDepth]
    cases o with
    | none => rw [show (10000 : Nat) = 9999 + 1 from rfl, re_sl0 w _ hu]; rfl
    | some a => rw [show (10000 : Nat) = 9999 + 1 from rfl, re_sl1 w _ hu]; rfl
  simp only [execOp, Sem.run_bind, h, h0, hg, hb, Result.andThen_ok, Sem.run_pure]
theorem tri_nilTest (hT : TyOk P T) {id : Nat} {ops : Array Oper} (hok : regionOk G N ops false = true) {x d1 d2 : Tmp} {t el : TypeId} (hn : nilTest ops.toList = some (x, d1, d2, t)) (hd : desc T t = some (.slice el)) (he : env e (.tmp x) = dat [])
    (hq : ∀ b : Bool, Q .normal ((e.set d1 (dat [])).set d2 (.bool b)) σ) : TriC P G S N (.region id ops false) e σ Q := by
  intro A w₀ π D w a M hr hea hg hM
  obtain ⟨y1, a1, p1, yt, y2, a2, p2, hl⟩ := nilTest_eq hn
  obtain ⟨hops, _, _⟩ := regionOk_ok hok
  have ho1 : ops = #[⟨some d1, .move (.tmp x), y1, a1, p1, none⟩, ⟨some d2, .binOp .eql t (.tmp d1) (.const (.slice none 0 0)) yt, y2, a2, p2, none⟩] := by
    apply Array.ext'
    rw [hl]
  have hd1 : d1 < N := (hops _ (by rw [hl]; exact List.mem_cons_self ..)).dst d1 rfl
  have hd2 : d2 < N := (hops _ (by rw [hl]; exact List.mem_cons_of_mem _ (List.mem_cons_self ..))).dst d2 rfl
  have hx : VR π D (dat []) (a.eval (.tmp x)) := by
    have := hea.tmp x
    rw [show orUndef (e.get x) = dat [] from he] at this
    exact this
  have hpre := hr.pre (Nat.le_refl σ.next)
  subst ho1
  apply wp_region
  show wpOps P _ M [0, 1] a w
  rw [wpOps_cons]
  unfold wpOp
  rw [show (#[(⟨some d1, .move (.tmp x), y1, a1, p1, none⟩ : Oper), ⟨some d2, .binOp .eql t (.tmp d1) (.const (.slice none 0 0)) yt, y2, a2, p2, none⟩] : Array Oper)[0]? = some ⟨some d1, .move (.tmp x), y1, a1, p1, none⟩ from rfl]
  simp only
  rw [if_pos (by rfl)]
  refine .inl (Goes.wp (σ := σ) (σ' := σ) (π := π) (δ := deadIn σ) (D := D) (H := fun _ => none) (v := dat []) (.inl ⟨_, a.eval (.tmp x), π, D, w, rfl, .inl rfl, hx, .refl hpre⟩) fun v' π1 D1 w1 hv hpo => ?_)
  rw [wpOps_cons]
  unfold wpOp
  rw [show (#[(⟨some d1, .move (.tmp x), y1, a1, p1, none⟩ : Oper), ⟨some d2, .binOp .eql t (.tmp d1) (.const (.slice none 0 0)) yt, y2, a2, p2, none⟩] : Array Oper)[1]? = some ⟨some d2, .binOp .eql t (.tmp d1) (.const (.slice none 0 0)) yt, y2, a2, p2, none⟩ from rfl]
  simp only
  rw [if_pos (by rfl)]
  have hr1 := hr.post hpo
  have hs := hpo.pstep hpre
  have hea1 : EnvR N π1 D1 (e.set d1 (dat [])) (a.put (some d1) v') := (hea.mono hs).put (dst := some d1) hv fun d h => by cases h; exact hd1
  have hv1 : (a.put (some d1) v').eval (.tmp d1) = v' := by
    have hsz : d1 < a.tmps.size := by rw [hea.size]; exact hd1
    show (a.tmps.setIfInBounds d1 v').getD d1 undef = v'
    rw [Array.getD_eq_getD_getElem?]
    simp [hsz]
  -- what the test says
  have key : ∃ b : Bool, ∀ w : World, (execOp (a.put (some d1) v').eval ⟨some d2, .binOp .eql t (.tmp d1) (.const (.slice none 0 0)) yt, y2, a2, p2, none⟩).run P w = .ok (.value (.bool b)) w := by
    have hex : ∃ (o : Option Addr) (n c : Nat), v' = .slice o n c := by
      rcases hv.dat_inv with ⟨_, c, rfl⟩ | ⟨cs, cs', z, c', a', rfl, _⟩
      · exact ⟨_, _, _, rfl⟩
      · exact ⟨_, _, _, rfl⟩
    obtain ⟨o, n, c, rfl⟩ := hex
    exact ⟨o.isNone, fun w => eql_nil hT hd rfl hv1 rfl w⟩
  obtain ⟨b, hb⟩ := key
  refine .inl (Goes.wp (σ := σ) (σ' := σ) (π := π1) (δ := deadIn σ) (D := D1) (H := fun _ => none) (v := .bool b) (.inl ⟨_, .bool b, π1, D1, w1, hb w1, .inl rfl, .bool b, .refl (hr1.pre (Nat.le_refl σ.next))⟩) fun v2 π2 D2 w2 hv2 hpo2 => ?_)
  have hs2 := hpo2.pstep (hr1.pre (Nat.le_refl σ.next))
  exact hM .normal _ σ π2 D2 w2 _ (hq b) (hr1.post hpo2) ((hea1.mono hs2).put (dst := some d2) hv2 fun d h => by cases h; exact hd2) ((hg.mono hs).mono hs2)
end
end Go.Abs
namespace Go.Abs
structure Plan where
  loops : List (Nat × Cut)
  joins : List (Nat × Cut)
  un : List (Nat × Nat)
noncomputable def cutAtK (k : Nat) (l : List (Nat × Cut)) : Option Cut := @List.rec (Nat × Cut) (fun _ => Option Cut) none (fun p _ ih => iff (Nat.beq k p.1) (some p.2) ih) l
noncomputable def iterF {X R : Type} (body : X → Option (X ⊕ R)) (n : Nat) : X → Option R :=
  @Nat.rec (fun _ => X → Option R) (fun _ => none) (fun _ ih x => andThen (body x) fun y => @Sum.rec X R (fun _ => Option R) ih some y) n
noncomputable def sumK {X R : Type} (f : X → Option R) (y : X ⊕ R) : Option R := @Sum.rec X R (fun _ => Option R) f some y
noncomputable def thenS {R : Type} (k : SEnv → SSt → Option R) (K : AEx → SEnv → SSt → Option R) (x : AEx) (e : SEnv) (s : SSt) : Option R := @AEx.rec (fun _ => Option R) (k e s) (fun id => K (.exit id) e s) (K .ret e s) x
noncomputable def inrK {X R : Type} (K : AEx → SEnv → SSt → Option R) (x : AEx) (e : SEnv) (s : SSt) : Option (X ⊕ R) := andThen (K x e s) fun r => some (.inr r)
noncomputable def cutK {R : Type} (c : Cut) (e : SEnv) (s : SSt) : Option (c.X ⊕ R) := colCut c e s fun x => some (.inl x)
noncomputable def setC (c : Operand) (b : Bool) (e : SEnv) : SEnv := match c with
  | .tmp d => e.set d (.v (.bool b))
  | _ => e
noncomputable def sCond {R : Type} (c : Operand) (e : SEnv) (K : Bool → SEnv → Option R) : Option R := andThen (asBS (senv e c)) fun b => iff b (K true (setC c true e)) (K false (setC c false e))
noncomputable def unrollS {R : Type} (body : SEnv → SSt → (AEx → SEnv → SSt → Option R) → Option R) (K : AEx → SEnv → SSt → Option R) (n : Nat) : SEnv → SSt → Option R :=
  @Nat.rec (fun _ => SEnv → SSt → Option R) (fun _ _ => none) (fun _ ih e s => body e s (thenS ih K)) n
abbrev FcT := (R : Type) → SEnv → SSt → (AEx → SEnv → SSt → Option R) → Option R
theorem set_knownS {e : SEnv} {d : Nat} {u : Sym} (h : e.get d = some u) : SEnv.g (e.set d u) = SEnv.g e := by
  unfold SEnv.g
  rw [mapT_set (f := fun s : Sym => some s.val) (v := u) (w := u.val) rfl]
  apply Tr.set_again
  rw [mapT_get, h]; rfl
noncomputable def sameR {R : Type} (a b : Option R) : Option R := @ite (Option R) (a = b) (Classical.propDecidable _) a none
theorem sameR_eq {R : Type} {a b : Option R} {r : R} (h : sameR a b = some r) : a = some r ∧ b = some r := by
  unfold sameR at h
  split at h
  · rename_i hab
    exact ⟨h, hab ▸ h⟩
  · cases h
noncomputable def isSlT (T : Tab) (t : TypeId) : Bool := @Option.rec TypeDesc (fun _ => Bool) false (fun d => (sliceElem d).isSome) (desc T t)
theorem isSlT_eq {T : Tab} {t : TypeId} (h : isSlT T t = true) : ∃ el, desc T t = some (.slice el) := by
  unfold isSlT at h
  cases hd : desc T t with
  | none => rw [hd] at h; cases h
  | some d =>
    rw [hd] at h
    have h : (sliceElem d).isSome = true := h
    cases d <;> first | (cases h; done) | exact ⟨_, rfl⟩
noncomputable def nilE (q : Tmp × Tmp × Tmp × TypeId) (b : Bool) (t : Ty) (e : SEnv) : SEnv := ((e.set q.1 (.d (.slice t) [])).set q.2.1 (.d (.slice t) [])).set q.2.2.1 (.v (.bool b))
section
variable (T : Tab) (tab : List Con) (pl : Plan) (fuel : Nat)
noncomputable def regS {R : Type} (ops : Array Oper) (draw : Bool) (K : AEx → SEnv → SSt → Option R) (e : SEnv) (s : SSt) : Option R := sOps T tab ops.toList (barrier ops.toList) draw (fun e s => K .normal e s.nrm) ops.toList (nat_lit 0) e s
noncomputable def regN {R : Type} (ops : Array Oper) (draw : Bool) (K : AEx → SEnv → SSt → Option R) (e : SEnv) (s : SSt) (q : Tmp × Tmp × Tmp × TypeId) (p : (t : Ty) × List (El t)) : Option R :=
  iff (isSlT T q.2.2.2) (@List.rec (El p.1) (fun _ => Option R) (sameR (K .normal (nilE q true p.1 e) s.nrm) (K .normal (nilE q false p.1 e) s.nrm)) (fun y ys _ => regS T tab ops draw K (e.set q.1 (.d (.slice p.1) (y :: ys))) s) p.2) none
noncomputable def regC {R : Type} (ops : Array Oper) (draw : Bool) (e : SEnv) (s : SSt) (K : AEx → SEnv → SSt → Option R) : Option R :=
  orE (iff draw none (nilTest ops.toList)) (fun q => orE (asDS (senv e (.tmp q.1))) (regN T tab ops draw K e s q) (regS T tab ops draw K e s)) (regS T tab ops draw K e s)
noncomputable def fLoop (c : Code) (fc : FcT) : FcT := fun R e s K =>
  @Option.rec Cut (fun _ => Option R) none (fun ct => colCut ct e s (iterF (fun x => fc (ct.X ⊕ R) (viewE ct x) (viewS ct x) (thenS (cutK ct) (inrK K))) fuel)) (cutAtK (firstId c) pl.loops)
noncomputable def fC (c : Code) : FcT :=
  @Code.rec (fun _ => FcT)
    (fun _ e s K => K .normal e s.nrm)
    (fun _ ops draw _ e s K => regC T tab ops draw e s K)
    (fun _ b fa fb R e s K => @Option.rec Cut (fun _ => Option R) (fa R e s (thenS (fun e s => fb R e s K) K))
      (fun ct => andThen (fa (ct.X ⊕ R) e s (thenS (cutK ct) (inrK K))) (sumK fun x => fb R (viewE ct x) (viewS ct x) K)) (cutAtK (firstId b) pl.joins))
    (fun c _ _ fa fb R e s K => sCond c e fun t e => iff t (fa R e s K) (fb R e s K))
    (fun id _ fc R e s K => fc R e s fun x => K (leaves id x))
    (fun c fc R e s K => iff (isZ (kindAt (firstId c) pl.un)) (fLoop pl fuel c fc R e s K) (unrollS (fc R) K (kindAt (firstId c) pl.un) e s))
    (fun _ _ _ _ _ _ _ _ _ _ => none)
    (fun id _ e s K => K (.exit id) e s.nrm)
    (fun _ fc => fc)
    (fun _ _ e s K => K .normal e s.nrm)
    (fun _ _ _ _ _ => none)
    (fun _ e s K => K .ret e s.nrm)
    (fun _ _ _ _ _ => none) c
end
def Fin {R : Type} (K : AEx → SEnv → SSt → Option R) (r : R) (x : AEx) (e : Env) (σ : ASt) : Prop := ∃ se ss, e = SEnv.g se ∧ norm σ = SSt.g ss ∧ K x se ss = some r
section
variable {P : Program} {N : Nat} {T : Tab} {tab : List Con} {pl : Plan} {fuel : Nat}
theorem setC_g {c : Operand} {e : SEnv} {b : Bool} (h : asBS (senv e c) = some b) : SEnv.g (setC c b e) = SEnv.g e := by
  cases c with
  | tmp d =>
    show SEnv.g (e.set d (.v (.bool b))) = _
    apply set_known
    have h1 := asBS_eq h
    have h1 : orUnk (e.get d) = .v (.bool b) := h1
    cases hg : e.get d with
    | none => rw [hg] at h1; cases h1
    | some v => rw [hg] at h1; rw [show v = .v (.bool b) from h1]
  | _ => rfl
theorem inrK_eq {X R : Type} {K : AEx → SEnv → SSt → Option R} {x : AEx} {e : SEnv} {s : SSt} {y : X ⊕ R} (h : inrK K x e s = some y) : ∃ r, y = .inr r ∧ K x e s = some r := by
  obtain ⟨r, h1, h2⟩ := andThen_eq h
  cases h2
  exact ⟨r, rfl, h1⟩
theorem cutK_eq {R : Type} {c : Cut} {e : SEnv} {s : SSt} {y : c.X ⊕ R} (h : cutK c e s = some y) : ∃ x, y = .inl x ∧ ∃ ι, Match (fun _ => false) noG ι (SEnv.g e) s.g (SEnv.g (viewE c x)) (viewS c x).g := by
  obtain ⟨x, h1, h2⟩ := colCut_ok h
  cases h1
  exact ⟨x, rfl, h2⟩
def Sees (c : Cut) (x : c.X) (e : Env) (σ : ASt) : Prop := ∃ σ0, (σ0 = σ ∨ σ0 = norm σ) ∧ ∃ ι, Match (fun _ => false) noG ι e σ0 (SEnv.g (viewE c x)) (viewS c x).g
theorem Sees.tri {c : Cut} {x : c.X} {e : Env} {σ : ASt} (h : Sees c x e σ) {d : Code} {Q : AEx → Env → ASt → Prop} (hq : TriC P noG (fun _ => false) N d (SEnv.g (viewE c x)) (viewS c x).g Q) : TriC P noG (fun _ => false) N d e σ Q := by
  obtain ⟨σ0, h1, ι, h2⟩ := h
  rcases h1 with rfl | rfl
  · exact tri_match h2 hq
  · exact tri_norm (tri_match h2 hq)
theorem fC_ok (hx : P.follows .mixedOrders = true) (hT : TyOk P T) (hc : CallSim P noG (callT tab)) (hm : MonoF (callT tab)) : ∀ (c : Code), codeOk noG N c = true → ∀ (R : Type) e s K (r : R), fC T tab pl fuel c R e s K = some r → TriC P noG (fun _ => false) N c (SEnv.g e) s.g (Fin K r) := by
  intro c
  induction c with
  | skip => intro _ R e s K r h; exact tri_skip ⟨e, s.nrm, rfl, rfl, h⟩
  | region id ops draw =>
    intro hok R e s K r h
    have plain : ∀ e, regS T tab ops draw K e s = some r → TriC P noG (fun _ => false) N (.region id ops draw) (SEnv.g e) s.g (Fin K r) := fun e h => by
      obtain ⟨e', s', h1, h2⟩ := sOps_ok T tab _ _ _ _ (show sOps T tab ops.toList (barrier ops.toList) draw (fun e s => K .normal e s.nrm) ops.toList 0 e s = some r from h)
      refine tri_run (sim_region (lf := 0) hx hT hc hm hok) (fun e σ x e' σ' hr => mono_code hm _ e σ x e' σ' hr) (x := .normal) (e' := SEnv.g e') (σ' := s'.g) ?_ ⟨e', s'.nrm, rfl, rfl, h2⟩
      show regionO (runOps T (callT tab) ops.toList (barrier ops.toList) draw ops.toList 0 (SEnv.g e) s.g) = _
      rw [h1]; rfl
    rcases orE_eq (show orE (iff draw none (nilTest ops.toList)) (fun q => orE (asDS (senv e (.tmp q.1))) (regN T tab ops draw K e s q) (regS T tab ops draw K e s)) (regS T tab ops draw K e s) = some r from h) with ⟨q, h1, h2⟩ | ⟨_, h2⟩
    · rcases orE_eq h2 with ⟨p, h3, h4⟩ | ⟨_, h4⟩
      · obtain ⟨h5, h6⟩ := iff_some h4
        rcases iff_way h1 with ⟨_, h7⟩ | ⟨hdr, h7⟩
        · cases h7
        subst hdr
        obtain ⟨x, d1, d2, ty⟩ := q
        obtain ⟨t, l⟩ := p
        have hx0 : e.get x = some (.d (.slice t) l) := by
          have h3 : asDS (orUnk (e.get x)) = some ⟨t, l⟩ := h3
          cases hg : e.get x with
          | none => rw [hg] at h3; cases h3
          | some u =>
            rw [hg] at h3
            rw [show u = .d (.slice t) l from asDS_eq h3]
        obtain ⟨el, hel⟩ := isSlT_eq h5
        cases l with
        | nil =>
          obtain ⟨g1, g2⟩ := sameR_eq (show sameR (K .normal (nilE (x, d1, d2, ty) true t e) s.nrm) (K .normal (nilE (x, d1, d2, ty) false t e) s.nrm) = some r from h6)
          refine tri_nilTest hT hok h7 hel ?_ fun b => ?_
          · show orUndef ((SEnv.g e).get x) = dat []
            rw [SEnv.get_g, hx0]; rfl
          · refine ⟨nilE (x, d1, d2, ty) b t e, s.nrm, ?_, rfl, by cases b; exact g2; exact g1⟩
            have e1 : SEnv.g (e.set x (.d (.slice t) [])) = SEnv.g e := set_knownS hx0
            have e2 : SEnv.g ((e.set x (.d (.slice t) [])).set d1 (.d (.slice t) [])) = (SEnv.g e).set d1 (dat []) := by
              rw [← e1]
              exact mapT_set (f := fun s : Sym => some s.val) (v := .d (.slice t) []) (w := dat []) rfl _ _
            show ((SEnv.g e).set d1 (dat [])).set d2 (.bool b) = SEnv.g (((e.set x (.d (.slice t) [])).set d1 (.d (.slice t) [])).set d2 (.v (.bool b)))
            rw [← e2]
            exact (mapT_set (f := fun s : Sym => some s.val) (v := .v (.bool b)) (w := .bool b) rfl _ _).symm
        | cons y ys =>
          have := plain _ (show regS T tab ops false K (e.set x (.d (.slice t) (y :: ys))) s = some r from h6)
          rwa [set_knownS hx0] at this
      · exact plain e h4
    · exact plain e h2
  | seq a b iha ihb =>
    intro hok R e s K r h
    simp only [codeOk, Bool.and_eq_true] at hok
    apply tri_seq
    have h : @Option.rec Cut (fun _ => Option R) (fC T tab pl fuel a R e s (thenS (fun e s => fC T tab pl fuel b R e s K) K))
      (fun ct => andThen (fC T tab pl fuel a (ct.X ⊕ R) e s (thenS (cutK ct) (inrK K))) (sumK fun x => fC T tab pl fuel b R (viewE ct x) (viewS ct x) K)) (cutAtK (firstId b) pl.joins) = some r := h
    cases hj : cutAtK (firstId b) pl.joins with
    | none =>
      rw [hj] at h
      refine (iha hok.1 R e s _ r h).mono fun x e1 σ1 hq => ?_
      obtain ⟨se, ss, rfl, h2, h3⟩ := hq
      cases x with
      | normal => exact tri_norm (h2 ▸ ihb hok.2 R se ss K r h3)
      | exit id => exact ⟨se, ss, rfl, h2, h3⟩
      | ret => exact ⟨se, ss, rfl, h2, h3⟩
    | some ct =>
      rw [hj] at h
      obtain ⟨y, h1, h2⟩ := andThen_eq (show andThen (fC T tab pl fuel a (ct.X ⊕ R) e s (thenS (cutK ct) (inrK K))) (sumK fun x => fC T tab pl fuel b R (viewE ct x) (viewS ct x) K) = some r from h)
      refine (iha hok.1 _ e s _ y h1).mono fun x e1 σ1 hq => ?_
      obtain ⟨se, ss, rfl, h3, h4⟩ := hq
      cases x with
      | normal =>
        obtain ⟨x, rfl, ι, h5⟩ := cutK_eq h4
        exact Sees.tri ⟨ss.g, .inr h3.symm, ι, h5⟩ (ihb hok.2 R _ _ K r h2)
      | exit id =>
        obtain ⟨r', rfl, h5⟩ := inrK_eq h4
        cases h2
        exact ⟨se, ss, rfl, h3, h5⟩
      | ret =>
        obtain ⟨r', rfl, h5⟩ := inrK_eq h4
        cases h2
        exact ⟨se, ss, rfl, h3, h5⟩
  | cond c a b iha ihb =>
    intro hok R e s K r h
    simp only [codeOk, Bool.and_eq_true] at hok
    obtain ⟨t, h1, h⟩ := andThen_eq (show (andThen (asBS (senv e c)) fun b' => iff b' (iff true (fC T tab pl fuel a R (setC c true e) s K) (fC T tab pl fuel b R (setC c true e) s K)) (iff false (fC T tab pl fuel a R (setC c false e) s K) (fC T tab pl fuel b R (setC c false e) s K))) = some r from h)
    have hc' : asB (env (SEnv.g e) c) = some t := by rw [← senv_val, asBS_eq h1]; rfl
    refine tri_cond hc' hok.1 (fun ht => ?_) (fun ht => ?_)
    · subst ht
      have := iha hok.2.1 R (setC c true e) s K r h
      rwa [setC_g h1] at this
    · subst ht
      have := ihb hok.2.2 R (setC c false e) s K r h
      rwa [setC_g h1] at this
  | block id c ih =>
    intro hok R e s K r h
    apply tri_block
    exact ih hok R e s (fun x => K (leaves id x)) r h
  | loop c ih =>
    intro hok R e s K r h
    rcases iff_way (show iff (isZ (kindAt (firstId c) pl.un)) (fLoop pl fuel c (fC T tab pl fuel c) R e s K) (unrollS (fC T tab pl fuel c R) K (kindAt (firstId c) pl.un) e s) = some r from h) with ⟨_, h⟩ | ⟨_, h⟩
    · have h : @Option.rec Cut (fun _ => Option R) none (fun ct => colCut ct e s (iterF (fun x => fC T tab pl fuel c (ct.X ⊕ R) (viewE ct x) (viewS ct x) (thenS (cutK ct) (inrK K))) fuel)) (cutAtK (firstId c) pl.loops) = some r := h
      cases hj : cutAtK (firstId c) pl.loops with
      | none => rw [hj] at h; cases h
      | some ct =>
        rw [hj] at h
        obtain ⟨x0, h1, ι, h2⟩ := colCut_ok (show colCut ct e s (iterF (fun x => fC T tab pl fuel c (ct.X ⊕ R) (viewE ct x) (viewS ct x) (thenS (cutK ct) (inrK K))) fuel) = some r from h)
        clear h
        refine tri_loop (fun n e σ => ∃ x, iterF (fun x => fC T tab pl fuel c (ct.X ⊕ R) (viewE ct x) (viewS ct x) (thenS (cutK ct) (inrK K))) n x = some r ∧ Sees ct x e σ) (fun n e σ hI => ?_) (n := fuel) ⟨x0, h1, s.g, .inl rfl, ι, h2⟩
        obtain ⟨x, h3, h4⟩ := hI
        cases n with
        | zero => cases h3
        | succ n =>
          obtain ⟨y, h5, h6⟩ := andThen_eq (show (andThen (fC T tab pl fuel c (ct.X ⊕ R) (viewE ct x) (viewS ct x) (thenS (cutK ct) (inrK K))) fun y => @Sum.rec ct.X R (fun _ => Option R) (iterF (fun x => fC T tab pl fuel c (ct.X ⊕ R) (viewE ct x) (viewS ct x) (thenS (cutK ct) (inrK K))) n) some y) = some r from h3)
          refine h4.tri ((ih hok _ _ _ _ y h5).mono fun x2 e2 σ2 hq => ?_)
          obtain ⟨se, ss, rfl, g1, g2⟩ := hq
          cases x2 with
          | normal =>
            obtain ⟨x', rfl, ι', g3⟩ := cutK_eq g2
            exact ⟨n, Nat.lt_succ_self n, x', h6, ss.g, .inr g1.symm, ι', g3⟩
          | exit id =>
            obtain ⟨r', rfl, g3⟩ := inrK_eq g2
            cases h6
            exact ⟨se, ss, rfl, g1, g3⟩
          | ret =>
            obtain ⟨r', rfl, g3⟩ := inrK_eq g2
            cases h6
            exact ⟨se, ss, rfl, g1, g3⟩
    · refine tri_loop (fun n e σ => ∃ se ss, e = SEnv.g se ∧ (ss.g = σ ∨ ss.g = norm σ) ∧ unrollS (fC T tab pl fuel c R) K n se ss = some r) (fun n e σ hI => ?_) ⟨e, s, rfl, .inl rfl, h⟩
      obtain ⟨se, ss, rfl, h1, h2⟩ := hI
      cases n with
      | zero => cases h2
      | succ n =>
        have h3 := ih hok R se ss (thenS (unrollS (fC T tab pl fuel c R) K n) K) r h2
        have h4 : TriC P noG (fun _ => false) N c (SEnv.g se) σ (Fin (thenS (unrollS (fC T tab pl fuel c R) K n) K) r) := by
          rcases h1 with h1 | h1
          · rw [← h1]; exact h3
          · exact tri_norm (h1 ▸ h3)
        refine h4.mono fun x2 e2 σ2 hq => ?_
        obtain ⟨se2, ss2, rfl, g1, g2⟩ := hq
        cases x2 with
        | normal => exact ⟨n, Nat.lt_succ_self n, se2, ss2, rfl, .inr g1.symm, g2⟩
        | exit id => exact ⟨se2, ss2, rfl, g1, g2⟩
        | ret => exact ⟨se2, ss2, rfl, g1, g2⟩
  | rangeFunc => intro _ R e s K r h; cases (show none = some r from h)
  | exit id => intro _ R e s K r h; exact tri_exit ⟨e, s.nrm, rfl, rfl, h⟩
  | scope c ih => intro hok R e s K r h; exact tri_scope (ih hok R e s K r h)
  | label => intro _ R e s K r h; exact tri_label ⟨e, s.nrm, rfl, rfl, h⟩
  | goto => intro _ R e s K r h; cases (show none = some r from h)
  | ret => intro _ R e s K r h; exact tri_ret ⟨e, s.nrm, rfl, rfl, h⟩
  | refuse => intro _ R e s K r h; cases (show none = some r from h)
noncomputable def initS (l : List Sym) : Nat → SEnv → SEnv := @List.rec Sym (fun _ => Nat → SEnv → SEnv) (fun _ e => e) (fun u _ ih i e => ih (Nat.succ i) (e.set i u)) l
theorem initS_g : ∀ (l : List Sym) (i : Nat) (e : SEnv), SEnv.g (initS l i e) = initEnv (l.map Sym.val) i (SEnv.g e)
  | [], i, e => rfl
  | u :: l, i, e => by
    show SEnv.g (initS l (i + 1) (e.set i u)) = initEnv (l.map Sym.val) (i + 1) ((SEnv.g e).set i u.val)
    rw [initS_g l]
    congr 1
    exact mapT_set (f := fun s : Sym => some s.val) (v := u) (w := u.val) rfl e i
def symsD : (ts : List Ty) → ElL ts → List Sym
  | [], _ => []
  | t :: ts, x => mkD t x.1 :: symsD ts x.2
theorem symsD_val : ∀ (ts : List Ty) (x : ElL ts), (symsD ts x).map Sym.val = valsL ts x
  | [], _ => rfl
  | t :: ts, x => by
    show (mkD t x.1).val :: (symsD ts x.2).map Sym.val = _
    rw [mkD_val, symsD_val ts x.2]; rfl
variable (T)
noncomputable def sResults {R : Type} : List ResultVar → SEnv → SSt → (List Sym → Option R) → Option R
  | [] => fun _ _ K => K []
  | .tmp t :: rs => fun e s K => sResults rs e s fun l => K (senv e (.tmp t) :: l)
  | .cell a t :: rs => fun e s K => iff (asPt (senv e (.tmp a))).isSome (sLoad T t (senv e (.tmp a)) s fun u _ => sResults rs e s fun l => K (u :: l)) none
theorem sResults_ok {R : Type} {e : SEnv} {s : SSt} : ∀ (rs : List ResultVar) (K : List Sym → Option R) (r : R), sResults T rs e s K = some r → ∃ l, K l = some r ∧ resultsV T s.g (SEnv.g e) rs = some (l.map Sym.val)
  | [], K, r, h => ⟨[], h, rfl⟩
  | .tmp t :: rs, K, r, h => by
    obtain ⟨l, h1, h2⟩ := sResults_ok rs _ r h
    refine ⟨_, h1, ?_⟩
    show andThen (resultsV T s.g (SEnv.g e) rs) (fun vs => some (env (SEnv.g e) (.tmp t) :: vs)) = _
    rw [h2, ← senv_val]; rfl
  | .cell a t :: rs, K, r, h => by
    obtain ⟨h0, h⟩ := iff_some (show iff (asPt (senv e (.tmp a))).isSome (sLoad T t (senv e (.tmp a)) s fun u _ => sResults T rs e s fun l => K (u :: l)) none = some r from h)
    obtain ⟨u, h1, h2⟩ := sLoad_ok T h
    obtain ⟨l, h3, h4⟩ := sResults_ok rs _ r h2
    refine ⟨_, h3, ?_⟩
    obtain ⟨⟨b, off⟩, hp⟩ := Option.isSome_iff_exists.1 h0
    rw [asPt_eq hp] at h1
    show andThen2 (asPtr (env (SEnv.g e) (.tmp a))) (fun k off => andThen (loadV T s.g t k off) fun v => andThen (resultsV T s.g (SEnv.g e) rs) fun vs => some (v :: vs)) = _
    rw [← senv_val, asPt_eq hp]
    show (andThen (loadV T s.g t b off) fun v => andThen (resultsV T s.g (SEnv.g e) rs) fun vs => some (v :: vs)) = _
    have h5 : val s.g (loadV T s.g t b off) = some (u.val, s.g) := h1
    rw [(valO_eq h5).1, andThen_some, h4]; rfl
noncomputable def fEnd (fn : Func) (B : List Ty) (lent : Bool) (x : AEx) (e : SEnv) (s : SSt) : Option (ElL B) :=
  @AEx.rec (fun _ => Option (ElL B)) (sResults T fn.results.toList e s fun l => colL (not lent) (fun b => iff lent none (hpOwn [] s b)) B l some) (fun _ => none) (sResults T fn.results.toList e s fun l => colL (not lent) (fun b => iff lent none (hpOwn [] s b)) B l some) x
noncomputable def s00 : SSt := ⟨.leaf, 0, 0, 0⟩
noncomputable def fF (tab : List Con) (pl : Plan) (fuel : Nat) (fn : Func) (A B : List Ty) (lent : Bool) (a : ElL A) : Option (ElL B) := fC T tab pl fuel (codeOf fn) (ElL B) (initS (symsD A a) 0 .leaf) s00 (fEnd T fn B lent)
variable {T}
theorem isDatL_two {l : List Value} (h : l.length ≠ 1) : isDatL l = false := by
  cases l with
  | nil => rfl
  | cons a l =>
    cases l with
    | nil => exact absurd rfl h
    | cons b l => rfl
theorem VAs.one_or {ι : Ren} {l l' : List Value} (h : VAs ι l l') : VA ι (oneOrTuple l) (oneOrTuple l') := by
  by_cases hl : l.length = 1
  · match l, l', h, hl with
    | [a], [b], h, _ => exact h.2 0 _ _ rfl rfl
    | [a], [], h, _ => exact absurd h.1 (by simp)
    | [a], _ :: _ :: _, h, _ => exact absurd h.1 (by simp)
  · have hl' : l'.length ≠ 1 := fun h1 => hl (h.1.trans h1)
    have : ∀ {m : List Value}, m.length ≠ 1 → oneOrTuple m = .tuple ⟨m⟩ := fun {m} hm => by
      match m, hm with
      | [], _ => rfl
      | [a], hm => exact absurd rfl hm
      | a :: b :: m, _ => rfl
    rw [this hl, this hl']
    exact h.tuple (isDatL_two hl) (isDatL_two hl')
theorem colL_same {R : Type} : ∀ (ts : List Ty) (l : List Sym) (K : ElL ts → Option R) (r : R), colL false (fun _ => none) ts l K = some r → ∃ y, K y = some r ∧ valsL ts y = l.map Sym.val
  | [], [], K, r, h => ⟨(), h, rfl⟩
  | [], _ :: _, K, r, h => by cases h
  | t :: ts, [], K, r, h => by cases h
  | t :: ts, x :: l, K, r, h => by
    obtain ⟨y, h1, h2, h3, h4⟩ := colV_ok col_same (show colV false (fun _ => none) t x (fun y => colL false (fun _ => none) ts l fun ys => K (y, ys)) = some r from h)
    obtain ⟨ys, h5, h6⟩ := colL_same ts l _ r h1
    refine ⟨(y, ys), h5, ?_⟩
    show valT t y :: valsL ts ys = x.val :: l.map Sym.val
    rw [h6]
    congr 1
    have h2 : x.cells = cellsT t y := h2
    unfold valT
    cases ha : aggT t with
    | true => rw [if_pos rfl, Sym.agg_val (h4.trans ha), h2]
    | false =>
      rw [if_neg (by decide)]
      rw [cellsT_one ha, Sym.one_val h3 (h4.trans ha)] at h2
      exact (List.cons.inj h2).1.symm
def plainT : Ty → Bool
  | .slice _ => false
  | .pair a b => and (plainT a) (plainT b)
  | .arr _ t => plainT t
  | _ => true
theorem plainT_va {ι : Ren} : ∀ (t : Ty) (x : El t), plainT t = true → VAs ι (cellsT t x) (cellsT t x)
  | .bool, x, _ => .singl (.bool x)
  | .int k, x, _ => .singl (.int k x)
  | .str, x, _ => .singl (.string _)
  | .unit, _, _ => .nil
  | .slice _, _, h => by cases h
  | .pair a b, x, h => by
    have h : (plainT a && plainT b) = true := h
    rw [Bool.and_eq_true] at h
    show VAs ι (cellsT a x.1 ++ cellsT b x.2) (cellsT a x.1 ++ cellsT b x.2)
    exact (plainT_va a x.1 h.1).append (plainT_va b x.2 h.2)
  | .arr n t, x, h => by
    show VAs ι (x.1.map (cellsT t)).flatten (x.1.map (cellsT t)).flatten
    have : ∀ l : List (El t), VAs ι (l.map (cellsT t)).flatten (l.map (cellsT t)).flatten := by
      intro l
      induction l with
      | nil => exact .nil
      | cons y l ih =>
        rw [List.map_cons, List.flatten_cons]
        exact (plainT_va t y h).append ih
    exact this x.1
theorem plainT_val {ι : Ren} (t : Ty) (x : El t) (h : plainT t = true) : VA ι (valT t x) (valT t x) := by
  have h1 := plainT_va (ι := ι) t x h
  unfold valT
  cases ha : aggT t with
  | true => rw [if_pos rfl]; exact h1.agg
  | false =>
    rw [if_neg (by decide)]
    rw [cellsT_one ha] at h1
    exact h1.2 0 _ _ rfl rfl
theorem plainL_va {ι : Ren} : ∀ (ts : List Ty) (x : ElL ts), ts.all plainT = true → VAs ι (valsL ts x) (valsL ts x)
  | [], _, _ => .nil
  | t :: ts, x, h => by
    rw [List.all_cons, Bool.and_eq_true] at h
    exact .cons (plainT_val t x.1 h.1) (plainL_va ts x.2 h.2)
theorem lift_ok {f : FuncId} {fn : Func} {A B : List Ty} {lent : Bool} {F : ElL A → Option (ElL B)} (pl : Plan) (fuel : Nat) (hx : P.follows .mixedOrders = true) (hT : TyOk P T) (htab : ∀ c ∈ tab, SpecSim P noG c.f c.spec)
    (hfn : P.funcs[f]? = some fn) (hb : fn.body.isSome = true) (hok : fnB noG fn = true) (hl : lent = true → B.all plainT = true) (hF : ∀ a, F a = fF T tab pl fuel fn A B lent a) : SpecSim P noG f (Con.spec ⟨f, A, B, F, lent, none⟩) := by
  have h1 : FnOk1 P noG f fn := .of hfn hok
  obtain ⟨hc, hm⟩ : CallSim P noG (callT tab) ∧ MonoF (callT tab) := callL_ok fun p hp => by
    obtain ⟨c, hc, rfl⟩ := List.mem_map.1 hp
    exact htab c hc
  have hrun : ∀ a b, F a = some b → ∀ N, fn.ntmps ≤ N → TriC P noG (fun _ => false) N (codeOf fn) (initEnv (valsL A a) 0 .leaf) ⟨.leaf, 0, 0, 0⟩ (Fin (fEnd T fn B lent) b) := fun a b hab N hN => by
    rw [hF] at hab
    have := fC_ok hx hT hc hm (codeOf fn) (codeOk_mono hN _ (h1.2.2 _ (codeOf_ok hb))) (ElL B) _ s00 (fEnd T fn B lent) b hab
    rw [initS_g, symsD_val] at this
    exact this
  have hres : ∀ a b, F a = some b → Con.res ⟨f, A, B, F, lent, none⟩ a = oneOrTuple (valsL B b) := fun a b hab => by
    unfold Con.res
    show @Option.rec (ElL B) (fun _ => Value) undef (fun r => oneOrTuple (valsL B r)) (F a) = _
    rw [hab]
  have hends : ∀ {b : ElL B} {x : AEx} {e : Env} {σ : ASt}, Fin (fEnd T fn B lent) b x e σ → (x = .normal ∨ x = .ret) ∧ ∃ ss : SSt, norm σ = ss.g ∧ ∃ l, colL (not lent) (fun b => iff lent none (hpOwn [] ss b)) B l some = some b ∧ resultsV T σ e fn.results.toList = some (l.map Sym.val) := fun {b x e σ} hq => by
    obtain ⟨se, ss, rfl, h2, h3⟩ := hq
    have key : sResults T fn.results.toList se ss (fun l => colL (not lent) (fun b => iff lent none (hpOwn [] ss b)) B l some) = some b → ∃ ss : SSt, norm σ = ss.g ∧ ∃ l, colL (not lent) (fun b => iff lent none (hpOwn [] ss b)) B l some = some b ∧ resultsV T σ (SEnv.g se) fn.results.toList = some (l.map Sym.val) := fun h3 => by
      obtain ⟨l, g1, g2⟩ := sResults_ok T _ _ _ h3
      refine ⟨ss, h2, l, g1, ?_⟩
      rw [← h2, resultsV_ext fun _ => rfl] at g2
      exact g2
    cases x with
    | normal => exact ⟨.inl rfl, key h3⟩
    | exit id => cases h3
    | ret => exact ⟨.inr rfl, key h3⟩
  cases lent with
  | false =>
    show SpecSim P noG f (specA (encL A) [] (fun a => (F a).isSome = true) (Con.res ⟨f, A, B, F, false, none⟩))
    refine ⟨fun args σ v σ' he => by rw [(specA_inv he).1]; exact .refl σ, fun args σ v σ' he => ?_⟩
    obtain ⟨rfl, ht, a, ha, hva, rfl⟩ := specA_inv he
    obtain ⟨b, hab⟩ := Option.isSome_iff_exists.1 ha
    rw [hres a b hab]
    rw [encL_vals] at hva
    have hent : Entry noG (fun k => memN k []) (renF (fun _ => none) [] []) args (valsL A a) σ' (tabS [] 0) := tab_entryF (tabs := []) (n := 0) rfl (fun p hp => by cases hp) (fun g hg => by cases hg) ht hva fun _ cells h => (by cases (show none = some cells from h))
    refine call_spec_fz h1 (codeOf_ok hb) hT hent (fun _ => rfl) ?_ fun N hN => ?_
    · have := (encL B).closed noRen b rfl
      rw [encL_vals] at this
      exact this.one_or
    · refine TriC.mono (show TriC P noG (fun k => memN k []) N (codeOf fn) (initEnv (valsL A a) 0 .leaf) (tabS [] 0) (Fin (fEnd T fn B false) b) from hrun a b hab N hN) fun x e σ1 hq => ?_
      obtain ⟨hxx, ss, h2, l, h3, h4⟩ := hends hq
      have hva : VA (seen σ1) (oneOrTuple (valsL B b)) (oneOrTuple (l.map Sym.val)) := by
        have hcol : ColR (VAs (seen σ1)) true (hpOwn [] ss) := col_ren rfl (fun _ => rfl) fun k n nn ch hp => by
          obtain ⟨_, g1, g2⟩ := hpOwn_ok hp
          have hs : ∀ k, (seen σ1).fz k = ownRow ss.g k := fun k => by
            show ownRow σ1 k = _
            rw [← h2]; rfl
          exact ⟨rfl, fun hn => (hs k).trans (g1 hn), fun hn hnn => (hs k).trans (g2 hn hnn)⟩
        obtain ⟨y, g1, g2⟩ := colL_ok hcol _ _ _ _ (show colL true (hpOwn [] ss) B l some = some b from h3)
        cases g1
        exact g2.one_or
      rcases hxx with rfl | rfl
      · exact ⟨_, h4, hva⟩
      · exact ⟨_, h4, hva⟩
  | true =>
    show SpecSim P noG f (specE (encL A) [] (fun a => (F a).isSome = true) (Con.res ⟨f, A, B, F, true, none⟩))
    refine ⟨fun args σ v σ' he => by rw [(specE_inv he).1]; exact .refl σ, fun args σ v σ' he => ?_⟩
    obtain ⟨rfl, ht, a, ha, hva, rfl⟩ := specE_inv he
    obtain ⟨b, hab⟩ := Option.isSome_iff_exists.1 ha
    rw [hres a b hab]
    rw [encL_vals] at hva
    have hFz : ∀ b cells, σ'.row b = some cells → ∃ e org ro, σ'.obj b = some (.cells cells e org ro false) := fun b cells hb => by
      obtain ⟨e, org, ro, ho⟩ := row_eq hb
      exact ⟨e, org, ro, ho⟩
    have hent : Entry noG (fun k => memN k []) (lend [] σ') args (valsL A a) σ' (tabS [] 0) := tab_entryF (tabs := []) (n := 0) rfl (fun p hp => by cases hp) (fun g hg => by cases hg) ht hva hFz
    refine call_spec h1 (codeOf_ok hb) hT hent fun N hN => ?_
    refine TriC.mono (show TriC P noG (fun k => memN k []) N (codeOf fn) (initEnv (valsL A a) 0 .leaf) (tabS [] 0) (Fin (fEnd T fn B true) b) from hrun a b hab N hN) fun x e σ1 hq => ?_
    obtain ⟨hxx, ss, h2, l, h3, h4⟩ := hends hq
    obtain ⟨y, g1, g2⟩ := colL_same _ _ _ _ (show colL false (fun _ => none) B l some = some b from h3)
    cases g1
    have hv : VA noDat (oneOrTuple (valsL B b)) (oneOrTuple (valsL B b)) := (plainL_va B b (hl rfl)).one_or
    have key : Leave (fun k => memN k []) (lend [] σ') noDat id σ' σ' σ1 (oneOrTuple (l.map Sym.val)) (oneOrTuple (valsL B b)) := by
      rw [← g2]
      exact ⟨Nat.le_refl _, rfl, rfl, fun _ _ => rfl, fun j h1 h2 => (by omega), fun k k' sh h => (by cases h), hv, rfl, fun h => (by cases h)⟩
    rcases hxx with rfl | rfl
    · exact ⟨_, h4, _, id, key⟩
    · exact ⟨_, h4, _, id, key⟩
end
inductive Cons (P : Program) : List Con → Prop
  | nil : Cons P []
  | cons {c : Con} {l : List Con} (h : SpecSim P noG c.f c.spec) (hl : Cons P l) : Cons P (c :: l)
theorem Cons.all {P : Program} {l : List Con} (h : Cons P l) : ∀ c ∈ l, SpecSim P noG c.f c.spec := by
  induction h with
  | nil => intro c hc; cases hc
  | cons h _ ih =>
    intro c hc
    rcases List.mem_cons.1 hc with rfl | hc
    · exact h
    · exact ih c hc
end Go.Abs
namespace Go.Abs
theorem AreD.split : ∀ {a b : List Ds} {l : List Value}, AreD (a ++ b) l → ∃ c d, l = c ++ d ∧ AreD a c ∧ AreD b d
  | [], b, l, h => ⟨[], l, rfl, by simp only [AreD], h⟩
  | s :: a, b, l, h => by
    rw [List.cons_append] at h
    obtain ⟨v, vs, rfl, h1, h2⟩ := h.cons_inv
    obtain ⟨c, d, rfl, h3, h4⟩ := AreD.split h2
    exact ⟨v :: c, d, rfl, by simp only [AreD]; exact ⟨h1, h3⟩, h4⟩
def dsOf : Ty → List Ds
  | .bool => [.bool]
  | .int k => [.int k]
  | .str => [.str]
  | .unit => []
  | .pair a b => dsOf a ++ dsOf b
  | .arr n t => (List.replicate n (dsOf t)).flatten
  | .slice t => [.sl (dsOf t)]
def okE : (t : Ty) → El t → Prop
  | .bool => fun _ => True
  | .int k => fun n => (Lit.int k n).wf = true
  | .str => fun l => l.length ≤ maxLen
  | .unit => fun _ => True
  | .pair a b => fun x => okE a x.1 ∧ okE b x.2
  | .arr _ t => fun x => ∀ y ∈ x.1, okE t y
  | .slice t => fun (l : List (El t)) => l.length ≤ maxLen ∧ ∀ y ∈ l, okE t y
def wtE : (t : Ty) → El t → Nat
  | .bool => fun _ => 0
  | .int _ => fun _ => 0
  | .str => fun l => l.length
  | .unit => fun _ => 0
  | .pair a b => fun x => wtE a x.1 + wtE b x.2
  | .arr _ t => fun x => (x.1.map (wtE t)).sum
  | .slice t => fun (l : List (El t)) => (l.map fun y => 1 + wtE t y).sum
theorem rows_dec {t : Ty} (ih : ∀ cs, AreD (dsOf t) cs → ∃ x : El t, cs = cellsT t x ∧ okE t x ∧ wtE t x = wtL (dsOf t) cs) : ∀ {rows : List (List Value)}, (∀ r ∈ rows, AreD (dsOf t) r) →
    ∃ l : List (El t), rows = l.map (cellsT t) ∧ (∀ y ∈ l, okE t y) ∧ (l.map fun y => 1 + wtE t y).sum = (rows.map fun c => 1 + wtL (dsOf t) c).sum
  | [], _ => ⟨[], rfl, fun y hy => (by cases hy), rfl⟩
  | r :: rows, h => by
    obtain ⟨x, h1, h2, h3⟩ := ih r (h r (List.mem_cons_self ..))
    obtain ⟨l, g1, g2, g3⟩ := rows_dec ih (rows := rows) fun q hq => h q (List.mem_cons_of_mem _ hq)
    refine ⟨x :: l, by rw [g1, List.map_cons, h1], fun y hy => ?_, ?_⟩
    · rcases List.mem_cons.1 hy with rfl | hy
      · exact h2
      · exact g2 y hy
    · rw [List.map_cons, List.sum_cons, List.map_cons, List.sum_cons, g3, h3]
theorem are_dec : ∀ (t : Ty) (cs : List Value), AreD (dsOf t) cs → ∃ x : El t, cs = cellsT t x ∧ okE t x ∧ wtE t x = wtL (dsOf t) cs := by
  intro t
  induction t with
  | bool =>
    intro cs h
    obtain ⟨v, vs, rfl, h1, h2⟩ := (show AreD [.bool] cs from h).cons_inv
    obtain rfl := h2.nil_inv
    obtain ⟨b, rfl⟩ := h1.bool_inv
    exact ⟨b, rfl, trivial, by simp only [dsOf, wtL, wtD]; rfl⟩
  | int k =>
    intro cs h
    obtain ⟨v, vs, rfl, h1, h2⟩ := (show AreD [.int k] cs from h).cons_inv
    obtain rfl := h2.nil_inv
    obtain ⟨n, rfl, hn⟩ := h1.int_inv
    exact ⟨n, rfl, hn, by simp only [dsOf, wtL, wtD]; rfl⟩
  | str =>
    intro cs h
    obtain ⟨v, vs, rfl, h1, h2⟩ := (show AreD [.str] cs from h).cons_inv
    obtain rfl := h2.nil_inv
    obtain ⟨s, rfl, hn⟩ := h1.str_inv
    obtain ⟨⟨l⟩⟩ := s
    exact ⟨l, rfl, hn, by simp only [dsOf, wtL, wtD, asS]; rfl⟩
  | unit =>
    intro cs h
    obtain rfl := (show AreD [] cs from h).nil_inv
    exact ⟨(), rfl, trivial, by simp only [dsOf, wtL]; rfl⟩
  | pair a b iha ihb =>
    intro cs h
    obtain ⟨c, d, rfl, h1, h2⟩ := AreD.split (show AreD (dsOf a ++ dsOf b) cs from h)
    obtain ⟨x, rfl, g1, g2⟩ := iha c h1
    obtain ⟨y, rfl, g3, g4⟩ := ihb d h2
    refine ⟨(x, y), rfl, ⟨g1, g3⟩, ?_⟩
    show wtE a x + wtE b y = wtL (dsOf a ++ dsOf b) (cellsT a x ++ cellsT b y)
    rw [wtL_append h1.length.symm, g2, g4]
  | arr n t ih =>
    have key : ∀ (n : Nat) (cs : List Value), AreD (List.replicate n (dsOf t)).flatten cs → ∃ l : List (El t), l.length = n ∧ cs = (l.map (cellsT t)).flatten ∧ (∀ y ∈ l, okE t y) ∧ (l.map (wtE t)).sum = wtL (List.replicate n (dsOf t)).flatten cs := by
      intro n
      induction n with
      | zero =>
        intro cs h
        obtain rfl := (show AreD [] cs from h).nil_inv
        exact ⟨[], rfl, rfl, fun y hy => (by cases hy), by simp only [List.replicate_zero, List.flatten_nil, wtL]; rfl⟩
      | succ n ihn =>
        intro cs h
        rw [List.replicate_succ, List.flatten_cons] at h
        obtain ⟨c, d, rfl, h1, h2⟩ := AreD.split h
        obtain ⟨x, rfl, g1, g2⟩ := ih c h1
        obtain ⟨l, g3, rfl, g4, g5⟩ := ihn d h2
        refine ⟨x :: l, by rw [List.length_cons, g3], rfl, fun y hy => ?_, ?_⟩
        · rcases List.mem_cons.1 hy with rfl | hy
          · exact g1
          · exact g4 y hy
        · rw [List.replicate_succ, List.flatten_cons, wtL_append h1.length.symm, List.map_cons, List.sum_cons, g2, g5]
    intro cs h
    obtain ⟨l, h1, rfl, h2, h3⟩ := key n cs h
    exact ⟨⟨l, h1⟩, rfl, h2, h3⟩
  | slice t ih =>
    intro cs h
    obtain ⟨v, vs, rfl, h1, h2⟩ := (show AreD [.sl (dsOf t)] cs from h).cons_inv
    obtain rfl := h2.nil_inv
    obtain ⟨rows, rfl, hl, hr⟩ := h1.sl_inv
    obtain ⟨l, rfl, g1, g2⟩ := rows_dec ih hr
    refine ⟨l, rfl, ⟨by rw [List.length_map] at hl; exact hl, g1⟩, ?_⟩
    show (l.map fun y => 1 + wtE t y).sum = wtL [.sl (dsOf t)] [dat (aggs (l.map (cellsT t)))]
    simp only [wtL, Nat.add_zero]
    rw [wtD_sl, g2]
def okL : (ts : List Ty) → ElL ts → Prop
  | [], _ => True
  | t :: ts, x => okE t x.1 ∧ okL ts x.2
def wtEL : (ts : List Ty) → ElL ts → Nat
  | [], _ => 0
  | t :: ts, x => wtE t x.1 + wtEL ts x.2
def dsL (A : List Ty) : List (Bool × List Ds) := A.map fun t => (aggT t, dsOf t)
theorem args_dec : ∀ (A : List Ty) (vs : List Value), AreArgsD (dsL A) vs → ∃ a : ElL A, vs = valsL A a ∧ okL A a ∧ wtEL A a = wtAs (dsL A) vs
  | [], vs, h => by
    obtain rfl := (show AreArgsD [] vs from h).nil_inv
    exact ⟨(), rfl, trivial, rfl⟩
  | t :: A, vs, h => by
    obtain ⟨v, ws, rfl, h1, h2⟩ := (show AreArgsD ((aggT t, dsOf t) :: dsL A) vs from h).cons_inv
    obtain ⟨a, rfl, g1, g2⟩ := args_dec A ws h2
    have key : ∃ x : El t, v = valT t x ∧ okE t x ∧ wtE t x = wtA (aggT t, dsOf t) v := by
      unfold valT wtA
      cases ha : aggT t with
      | true =>
        rw [ha] at h1
        obtain ⟨cs, rfl, h3⟩ := h1.agg
        obtain ⟨x, rfl, h4, h5⟩ := are_dec t cs h3
        exact ⟨x, by rw [if_pos rfl], h4, h5⟩
      | false =>
        rw [ha] at h1
        obtain ⟨s, hs, h3⟩ := (show ∃ s, dsOf t = [s] ∧ IsD s v from h1)
        obtain ⟨x, h6, h4, h5⟩ := are_dec t [v] (by rw [hs]; exact .one h3)
        rw [cellsT_one ha] at h6
        obtain ⟨rfl, _⟩ := List.cons.inj h6
        exact ⟨x, by rw [if_neg (by decide)], h4, h5⟩
    obtain ⟨x, rfl, h3, h4⟩ := key
    exact ⟨(x, a), rfl, ⟨h3, g1⟩, by show wtE t x + wtEL A a = wtA (aggT t, dsOf t) (valT t x) + wtAs (dsL A) (valsL A a); rw [h4, g2]⟩
theorem valT_self {ι : Ren} (hd : ι.dt = true) (t : Ty) (x : El t) : VA ι (valT t x) (valT t x) := by
  have h := VAs.closed (ι := ι) hd (cellsT_closed t x)
  unfold valT
  cases ha : aggT t with
  | true => rw [if_pos rfl]; exact h.agg
  | false =>
    rw [if_neg (by decide)]
    rw [cellsT_one ha] at h
    exact h.2 0 _ _ rfl rfl
theorem valsL_self {ι : Ren} (hd : ι.dt = true) : ∀ (A : List Ty) (a : ElL A), VAs ι (valsL A a) (valsL A a)
  | [], _ => .nil
  | t :: A, a => .cons (valT_self hd t a.1) (valsL_self hd A a.2)
section
variable {P : Program} {T : Tab} {H : Type} {enc : TypeId × Value → H} {w : World}
end
end Go.Abs
namespace Go.Abs
theorem leQ_dec (a b : Int) : leQ a b = decide (a ≤ b) := by
  rw [leQ_eq]
theorem eqQ_dec (a b : Int) : eqQ a b = decide (a = b) := by
  rw [eqQ_eq]
  by_cases h : a = b
  · subst h; simp
  · rw [decide_eq_false h]; simpa using h
theorem inRange_nat {k n : Nat} (h : k < n) : inRange (Int.ofNat k) n = some k := by
  show iff (Nat.blt k n) (some k) none = some k
  rw [(blt_iff k n).2 h]; rfl
theorem nthQ_some {α : Type} {k : Nat} {l : List α} {a : α} (h : l[k]? = some a) : nthQ k l = some a := by rw [nthQ_eq, h]
theorem wrap_succ {k : Nat} (h : k < 9223372036854775807) : wrapQ .i64 (Int.add (Int.ofNat k) (Int.ofNat 1)) = Int.ofNat (k + 1) := by
  rw [show Int.add (Int.ofNat k) (Int.ofNat 1) = Int.ofNat (k + 1) from rfl, wrapQ_eq]
  simp [IntKind.wrap, IntKind.bits, IntKind.signed]
  omega
theorem leQ_nat (a b : Nat) : leQ (Int.ofNat a) (Int.ofNat b) = decide (a ≤ b) := by
  rw [leQ_dec]
  congr 1
  exact propext Int.ofNat_le
theorem eqQ_nat (a b : Nat) : eqQ (Int.ofNat a) (Int.ofNat b) = decide (a = b) := by
  rw [eqQ_dec]
  congr 1
  exact propext Int.ofNat_inj
theorem natBeq_self (a : Nat) : Nat.beq a a = true := (beq_iff a a).2 rfl
theorem again_o {α : Type} (o : Option (List α)) : iff (noO o) none (some (rowsO o)) = o := by cases o <;> rfl
theorem rows_o {α : Type} (o : Option (List α)) : iff (noO o) [] (rowsO o) = rowsO o := by cases o <;> rfl
theorem andThen_st {α β : Type} (a : α) (f : α → Option β) : andThen (some a) f = f a := rfl
theorem sumK_inl {X R : Type} (f : X → Option R) (x : X) : sumK f (.inl x) = f x := rfl
theorem ble_true {a b : Nat} (h : a ≤ b) : Nat.ble a b = true := (ble_iff a b).2 h
theorem iff_t {α : Type} {c : Bool} {a b : α} (h : c = true) : iff c a b = a := by rw [h]; rfl
theorem iff_f {α : Type} {c : Bool} {a b : α} (h : c = false) : iff c a b = b := by rw [h]; rfl
theorem iff_nt {α : Type} {c : Bool} {a b : α} (h : c = true) : iff (!c) a b = b := by rw [h]; rfl
theorem iff_nf {α : Type} {c : Bool} {a b : α} (h : c = false) : iff (!c) a b = a := by rw [h]; rfl
theorem andThen_of {α β : Type} {o : Option α} {a : α} {f : α → Option β} (h : o = some a) : andThen o f = f a := by rw [h]; rfl
theorem le_false {a b : Nat} (h : b < a) : leQ (Int.ofNat a) (Int.ofNat b) = false := by rw [leQ_nat, decide_eq_false (by omega)]
theorem le_true {a b : Nat} (h : a ≤ b) : leQ (Int.ofNat a) (Int.ofNat b) = true := by rw [leQ_nat, decide_eq_true h]
section
variable {X R : Type} {body : X → Option (X ⊕ R)}
theorem iterF_inl {n : Nat} {x x' : X} (h : body x = some (.inl x')) : iterF body (n + 1) x = iterF body n x' := by
  show andThen (body x) (fun y => @Sum.rec X R (fun _ => Option R) (iterF body n) some y) = _
  rw [h]; rfl
theorem iterF_inr {n : Nat} {x : X} {r : R} (h : body x = some (.inr r)) : iterF body (n + 1) x = some r := by
  show andThen (body x) (fun y => @Sum.rec X R (fun _ => Option R) (iterF body n) some y) = _
  rw [h]; rfl
theorem iterF_list {S α : Type} (l : List α) (st : Nat → S → X) (f : S → α → S) (fin : S → R) (I : Nat → S → Prop)
    (step : ∀ k a s, l[k]? = some a → I k s → body (st k s) = some (.inl (st (k + 1) (f s a))) ∧ I (k + 1) (f s a)) (last : ∀ s, I l.length s → body (st l.length s) = some (.inr (fin s))) :
    ∀ (n : Nat) (s : S), I 0 s → l.length < n → iterF body n (st 0 s) = some (fin (l.foldl f s)) ∧ I l.length (l.foldl f s) := by
  have key : ∀ (r : List α) (k n : Nat) (s : S), l.drop k = r → k + r.length = l.length → I k s → r.length < n → iterF body n (st k s) = some (fin (r.foldl f s)) ∧ I l.length (r.foldl f s) := by
    intro r
    induction r with
    | nil =>
      intro k n s _ hk hI hn
      have hk : k = l.length := by simpa using hk
      subst hk
      cases n with
      | zero => simp at hn
      | succ n => exact ⟨iterF_inr (last s hI), hI⟩
    | cons a r ih =>
      intro k n s hd hk hI hn
      have ha : l[k]? = some a := by
        have : (l.drop k)[0]? = some a := by rw [hd]; rfl
        rwa [List.getElem?_drop, Nat.add_zero] at this
      obtain ⟨h1, h2⟩ := step k a s ha hI
      cases n with
      | zero => simp at hn
      | succ n =>
        rw [iterF_inl h1, List.foldl_cons]
        exact ih (k + 1) n (f s a) (by rw [← List.drop_drop, hd]; rfl) (by simp at hk; omega) h2 (by simp at hn; omega)
  intro n s hI hn
  exact key l 0 n s rfl (by simp) hI hn
def seek {α R : Type} (p : α → Bool) (hit : Nat → R) (fin : R) : List α → Nat → R
  | [], _ => fin
  | a :: r, k => if p a = true then hit k else seek p hit fin r (k + 1)
theorem iterF_seek {α : Type} (l : List α) (st : Nat → X) (p : α → Bool) (hit : Nat → R) (fin : R) (step : ∀ k a, l[k]? = some a → body (st k) = some (if p a = true then .inr (hit k) else .inl (st (k + 1))))
    (last : body (st l.length) = some (.inr fin)) : ∀ n : Nat, l.length < n → iterF body n (st 0) = some (seek p hit fin l 0) := by
  have key : ∀ (r : List α) (k n : Nat), l.drop k = r → k + r.length = l.length → r.length < n → iterF body n (st k) = some (seek p hit fin r k) := by
    intro r
    induction r with
    | nil =>
      intro k n _ hk hn
      have hk : k = l.length := by simpa using hk
      subst hk
      cases n with
      | zero => simp at hn
      | succ n => exact iterF_inr last
    | cons a r ih =>
      intro k n hd hk hn
      have ha : l[k]? = some a := by
        have : (l.drop k)[0]? = some a := by rw [hd]; rfl
        rwa [List.getElem?_drop, Nat.add_zero] at this
      have h1 := step k a ha
      cases n with
      | zero => simp at hn
      | succ n =>
        cases hp : p a with
        | true =>
          rw [if_pos hp] at h1
          rw [iterF_inr h1, seek, if_pos hp]
        | false =>
          have hne : ¬ p a = true := by rw [hp]; decide
          rw [if_neg hne] at h1
          rw [iterF_inl h1, seek, if_neg hne]
          exact ih (k + 1) n (by rw [← List.drop_drop, hd]; rfl) (by simp at hk; omega) (by simp at hn; omega)
  intro n hn
  exact key l 0 n rfl (by simp) hn
end
def foldS {S α R : Type} (f : Nat → S → α → S ⊕ R) (fin : S → R) : List α → Nat → S → R
  | [], _, s => fin s
  | a :: l, k, s => match f k s a with
    | .inl s' => foldS f fin l (k + 1) s'
    | .inr r => r
def onS {S X R : Type} (g : S → X) : S ⊕ R → X ⊕ R
  | .inl s => .inl (g s)
  | .inr r => .inr r
section
variable {X R : Type} {body : X → Option (X ⊕ R)}
theorem iterF_fold {S α : Type} (l : List α) (st : Nat → S → X) (f : Nat → S → α → S ⊕ R) (fin : S → R) (I : Nat → S → Prop)
    (step : ∀ k a s, l[k]? = some a → I k s → body (st k s) = some (onS (st (k + 1)) (f k s a)) ∧ ∀ s', f k s a = .inl s' → I (k + 1) s') (last : ∀ s, I l.length s → body (st l.length s) = some (.inr (fin s))) :
    ∀ (n : Nat) (s : S), I 0 s → l.length < n → iterF body n (st 0 s) = some (foldS f fin l 0 s) := by
  have key : ∀ (r : List α) (k n : Nat) (s : S), l.drop k = r → k + r.length = l.length → I k s → r.length < n → iterF body n (st k s) = some (foldS f fin r k s) := by
    intro r
    induction r with
    | nil =>
      intro k n s _ hk hI hn
      have hk : k = l.length := by simpa using hk
      subst hk
      cases n with
      | zero => simp at hn
      | succ n => exact iterF_inr (last s hI)
    | cons a r ih =>
      intro k n s hd hk hI hn
      have ha : l[k]? = some a := by
        have : (l.drop k)[0]? = some a := by rw [hd]; rfl
        rwa [List.getElem?_drop, Nat.add_zero] at this
      obtain ⟨h1, h2⟩ := step k a s ha hI
      cases n with
      | zero => simp at hn
      | succ n =>
        unfold foldS
        cases hf : f k s a with
        | inl s' =>
          rw [hf] at h1
          rw [iterF_inl h1]
          exact ih (k + 1) n s' (by rw [← List.drop_drop, hd]; rfl) (by simp at hk; omega) (h2 s' hf) (by simp at hn; omega)
        | inr q =>
          rw [hf] at h1
          exact iterF_inr h1
  intro n s hI hn
  exact key l 0 n s rfl (by simp) hI hn
end
end Go.Abs
namespace Go.Abs
section
variable {P : Program} {σ σ' : ASt} {π π' : PMap} {δ D D' : Nat → Prop} {H : Nat → Option AObj} {w w1 : World}
theorem obj_row {k : Nat} {c : List Value} {e : Option Nat} {org : Nat} {ro : Bool} (h : σ.obj k = some (.cells c e org ro false)) : σ.row k = some c := by
  unfold ASt.row
  rw [h]; rfl
theorem Pre.cell (hp : Pre σ σ' π δ D H w) {k off : Nat} {c : List Value} {a' : Addr} (h : σ.row k = some c) (ha : AR π D ⟨k, off, none⟩ a') {j : Nat} {v : Value} (hv : c[off + j]? = some v) :
    ∃ v', w.cell? ⟨a'.block, a'.off + j, none⟩ = some v' ∧ VR π D v v' := by
  obtain ⟨B, x, cc, elem, fz, rfl, hB, hle, _, hvs⟩ := hp.cells h ha
  obtain ⟨v', h1, h2⟩ := hvs.get hv
  refine ⟨v', ?_, h2⟩
  have hj : off + j < c.length := (List.getElem?_eq_some_iff.1 hv).1
  rw [List.getElem?_take, if_pos hj, List.getElem?_drop] at h1
  have : w.cell? ⟨B, x + off + j, none⟩ = cc[x + off + j]? := by simp [World.cell?, hB]
  show w.cell? ⟨B, x + off + j, none⟩ = _
  rw [this, ← Array.getElem?_toList, ← h1]
  congr 1
  omega
theorem Pre.free (hp : Pre σ σ' π δ D H w) {k off : Nat} {c : List Value} {e : Option Nat} {org : Nat} {a' : Addr} (h : σ.obj k = some (.cells c e org false false)) (ha : AR π D ⟨k, off, none⟩ a') {j : Nat} (hj : off + j < c.length) :
    w.frozen? ⟨a'.block, a'.off + j, none⟩ = false := by
  obtain ⟨i, hi, cc, elem, fz, h1, h2, h3, h4, h5, h6, _⟩ := hp.here h rfl ha.known
  rw [ha.at hi]
  have h7 := h6 rfl (i.sh + off + j) (by omega)
  show w.frozen? ⟨i.blk, i.sh + off + j, none⟩ = false
  have hn : ¬ (fz.1 ≤ i.sh + off + j ∧ i.sh + off + j < fz.2) := h7
  unfold World.frozen?
  simp only [h1]
  simpa using hn
theorem Pre.blk_lt (hp : Pre σ σ' π δ D H w) {k off : Nat} {c : List Value} {a' : Addr} (h : σ.row k = some c) (ha : AR π D ⟨k, off, none⟩ a') : a'.block < w.heap.size := by
  obtain ⟨B, x, cc, elem, fz, rfl, hB, _⟩ := hp.cells h ha
  exact Go.Abs.blk_lt hB
theorem Pre.apart (hp : Pre σ σ' π δ D H w) {k₁ k₂ f₁ f₂ : Nat} {c₁ c₂ : List Value} {e₁ e₂ : Option Nat} {o₁ o₂ : Nat} {a₁ a₂ : Addr} (h₁ : σ.obj k₁ = some (.cells c₁ e₁ o₁ false false)) (h₂ : σ.obj k₂ = some (.cells c₂ e₂ o₂ false false))
    (ho : o₁ ≠ o₂) (hk : k₁ ≠ k₂) (ha₁ : AR π D ⟨k₁, f₁, none⟩ a₁) (ha₂ : AR π D ⟨k₂, f₂, none⟩ a₂) : a₁.block ≠ a₂.block := by
  obtain ⟨i₁, hi₁, _, _, _, _, _, _, _, _, _, _, ho₁, hr₁, _⟩ := hp.here h₁ rfl ha₁.known
  obtain ⟨i₂, hi₂, _, _, _, _, _, _, _, _, _, _, ho₂, hr₂, _⟩ := hp.here h₂ rfl ha₂.known
  rw [ha₁.at hi₁, ha₂.at hi₂]
  intro hb
  rcases hp.rel.sep k₁ k₂ i₁ i₂ hk hi₁ hi₂ hb with ⟨h, _⟩ | ⟨_, _, h, _⟩
  · rw [hr₁] at h; cases h
  · rw [ho₁, ho₂] at h; exact ho h
theorem VR.ptr_at {v' : Value} {k off : Nat} (h : VR π D (.pointer (some ⟨k, off, none⟩)) v') : ∃ a', v' = .pointer (some a') ∧ a'.spot = none ∧ AR π D ⟨k, off, none⟩ a' := by
  obtain ⟨a', h1, h2⟩ := h.ptr_inv
  exact ⟨a', h1, h2.1, h2⟩
theorem VR.slice_at {a : Addr} {n c : Nat} {v' : Value} (h : VR π D (.slice (some a) n c) v') (hc : 0 < c) : ∃ a' c', v' = .slice (some a') n c' ∧ c ≤ c' ∧ a'.spot = none ∧ AR π D ⟨a.block, a.off, none⟩ a' := by
  obtain ⟨a', c', h1, h2, h3⟩ := slice_room h hc
  exact ⟨a', c', h1, h2, h3.1, h3⟩
end
end Go.Abs
namespace Go.Abs
open Go.RowKit
def onePl : Value → Bool
  | .bool _ => true
  | .int _ _ => true
  | .string _ => true
  | _ => false
theorem cells_pl : ∀ (t : Ty) (x : El t), plainT t = true → ∀ v ∈ cellsT t x, onePl v = true
  | .bool, x, _, v, h => by rw [List.mem_singleton.1 (show v ∈ [Value.bool x] from h)]; rfl
  | .int k, x, _, v, h => by rw [List.mem_singleton.1 (show v ∈ [Value.int k x] from h)]; rfl
  | .str, x, _, v, h => by rw [List.mem_singleton.1 (show v ∈ [Value.string ⟨⟨x⟩⟩] from h)]; rfl
  | .unit, _, _, v, h => by cases (show v ∈ [] from h)
  | .slice _, _, h, _, _ => by cases h
  | .pair a b, x, h, v, hv => by
    have h : (plainT a && plainT b) = true := h
    rw [Bool.and_eq_true] at h
    rcases List.mem_append.1 (show v ∈ cellsT a x.1 ++ cellsT b x.2 from hv) with hv | hv
    · exact cells_pl a x.1 h.1 v hv
    · exact cells_pl b x.2 h.2 v hv
  | .arr n t, x, h, v, hv => by
    obtain ⟨r, hr, hv⟩ := List.mem_flatten.1 (show v ∈ (x.1.map (cellsT t)).flatten from hv)
    obtain ⟨y, _, rfl⟩ := List.mem_map.1 hr
    exact cells_pl t y h v hv
section
variable {π : PMap} {D : Nat → Prop} {ι : Ren}
theorem VR.pl_inv {v v' : Value} (h : VR π D v v') (hp : onePl v = true) : v' = v := by
  cases h <;> first | rfl | cases hp
theorem VA.pl_inv {v v' : Value} (h : VA ι v v') (hp : onePl v = true) : v' = v := by
  cases h <;> first | rfl | cases hp
theorem VR.pl {v : Value} (hp : onePl v = true) : VR π D v v := by
  cases v <;> first | (cases hp; done) | constructor
theorem VRs.pl_inv {l l' : List Value} (h : VRs π D l l') (hp : ∀ v ∈ l, onePl v = true) : l' = l := by
  refine List.ext_getElem h.1.symm fun i h1 h2 => ?_
  exact (h.2 i _ _ (List.getElem?_eq_getElem h2) (List.getElem?_eq_getElem h1)).pl_inv (hp _ (List.getElem_mem h2))
theorem VAs.pl_inv {l l' : List Value} (h : VAs ι l l') (hp : ∀ v ∈ l, onePl v = true) : l' = l := by
  refine List.ext_getElem h.1.symm fun i h1 h2 => ?_
  exact (h.2 i _ _ (List.getElem?_eq_getElem h2) (List.getElem?_eq_getElem h1)).pl_inv (hp _ (List.getElem_mem h2))
theorem VRs.pl {l : List Value} (hp : ∀ v ∈ l, onePl v = true) : VRs π D l l :=
  ⟨rfl, fun i v v' h1 h2 => by
    rw [h1] at h2
    cases h2
    exact .pl (hp v (List.mem_of_getElem? h1))⟩
theorem oneA_pl {v : Value} (h : onePl v = true) : oneA v = true := by
  cases v <;> first | (cases h; done) | rfl
theorem valT_vr (t : Ty) (x : El t) (h : plainT t = true) : VR π D (valT t x) (valT t x) := by
  have h1 := cells_pl t x h
  unfold valT
  cases ha : aggT t with
  | true =>
    rw [if_pos rfl]
    exact .agg rfl (fun v hv => oneA_pl (h1 v hv)) (VRs.pl h1).2
  | false =>
    rw [if_neg (by decide)]
    refine .pl (h1 _ ?_)
    rw [cellsT_one ha]
    exact List.mem_singleton.2 rfl
theorem valT_vr_inv {t : Ty} {x : El t} (h : plainT t = true) {v' : Value} (hv : VR π D (valT t x) v') : v' = valT t x := by
  have h1 := cells_pl t x h
  unfold valT at hv ⊢
  cases ha : aggT t with
  | true =>
    rw [ha, if_pos rfl] at hv
    rw [if_pos rfl]
    cases hv with
    | agg hc _ hcs => rw [VRs.pl_inv ⟨hc, hcs⟩ h1]
  | false =>
    rw [ha, if_neg (by decide)] at hv
    rw [if_neg (by decide)]
    refine hv.pl_inv (h1 _ ?_)
    rw [cellsT_one ha]
    exact List.mem_singleton.2 rfl
theorem valT_va_inv {t : Ty} {x : El t} (h : plainT t = true) {v' : Value} (hv : VA ι (valT t x) v') : v' = valT t x := by
  have h1 := cells_pl t x h
  unfold valT at hv ⊢
  cases ha : aggT t with
  | true =>
    rw [ha, if_pos rfl] at hv
    rw [if_pos rfl]
    cases hv with
    | agg hc hcs => rw [VAs.pl_inv ⟨hc, hcs⟩ h1]
  | false =>
    rw [ha, if_neg (by decide)] at hv
    rw [if_neg (by decide)]
    refine hv.pl_inv (h1 _ ?_)
    rw [cellsT_one ha]
    exact List.mem_singleton.2 rfl
theorem valsL_vr : ∀ (ts : List Ty) (x : ElL ts), ts.all plainT = true → VRs π D (valsL ts x) (valsL ts x)
  | [], _, _ => .nil
  | t :: ts, x, h => by
    rw [List.all_cons, Bool.and_eq_true] at h
    exact .cons (valT_vr t x.1 h.1) (valsL_vr ts x.2 h.2)
theorem valsL_vr_inv : ∀ (ts : List Ty) (x : ElL ts) {l : List Value}, ts.all plainT = true → VRs π D (valsL ts x) l → l = valsL ts x
  | [], _, l, _, h => h.empty
  | t :: ts, x, l, h, hv => by
    rw [List.all_cons, Bool.and_eq_true] at h
    obtain ⟨v', r, rfl, h1, h2⟩ := (show VRs π D (valT t x.1 :: valsL ts x.2) l from hv).split
    rw [valT_vr_inv h.1 h1, valsL_vr_inv ts x.2 h.2 h2]; rfl
theorem VAs.uncons {v : Value} {l m : List Value} (h : VAs ι (v :: l) m) : ∃ v' r, m = v' :: r ∧ VA ι v v' ∧ VAs ι l r := by
  cases m with
  | nil => exact absurd h.1 (by simp)
  | cons a m => exact ⟨a, m, rfl, h.2 0 _ _ rfl rfl, ⟨by simpa using h.1, fun i u u' g1 g2 => h.2 (i + 1) u u' (by simpa using g1) (by simpa using g2)⟩⟩
theorem valsL_va_inv : ∀ (ts : List Ty) (x : ElL ts) {l : List Value}, ts.all plainT = true → VAs ι (valsL ts x) l → l = valsL ts x
  | [], _, l, _, h => List.eq_nil_of_length_eq_zero h.1.symm
  | t :: ts, x, l, h, hv => by
    rw [List.all_cons, Bool.and_eq_true] at h
    obtain ⟨v', r, rfl, h1, h2⟩ := (show VAs ι (valT t x.1 :: valsL ts x.2) l from hv).uncons
    rw [valT_va_inv h.1 h1, valsL_va_inv ts x.2 h.2 h2]; rfl
theorem one_vr (ts : List Ty) (x : ElL ts) (h : ts.all plainT = true) : VR π D (oneOrTuple (valsL ts x)) (oneOrTuple (valsL ts x)) := by
  have h1 := valsL_vr (π := π) (D := D) ts x h
  match ts, x, h1 with
  | [], x, h1 => exact .tuple rfl rfl VRs.nil.2
  | [t], x, h1 => exact h1.2 0 _ _ rfl rfl
  | t :: u :: ts, x, h1 => exact .tuple rfl rfl h1.2
theorem one_vr_inv (ts : List Ty) (x : ElL ts) (h : ts.all plainT = true) {v' : Value} (hv : VR π D (oneOrTuple (valsL ts x)) v') : v' = oneOrTuple (valsL ts x) := by
  match ts, x, h, hv with
  | [], x, h, hv =>
    cases hv with
    | tuple _ hc hcs => rw [(VRs.empty ⟨hc, hcs⟩)]; rfl
  | [t], x, h, hv =>
    rw [List.all_cons, Bool.and_eq_true] at h
    exact valT_vr_inv h.1 hv
  | t :: u :: ts, x, h, hv =>
    have key : ∀ {l : List Value} {v' : Value}, l.length ≠ 1 → VR π D (.tuple ⟨l⟩) v' → ∃ l', v' = .tuple ⟨l'⟩ ∧ VRs π D l l' := fun {l v'} hl hv => by
      cases hv with
      | tuple _ hc hcs => exact ⟨_, rfl, hc, hcs⟩
      | data => exact absurd rfl hl
      | dataP => exact absurd rfl hl
      | any => exact absurd rfl hl
    obtain ⟨l', rfl, h2⟩ := key (l := valsL (t :: u :: ts) x) (show (valsL ts x.2.2).length + 1 + 1 ≠ 1 by omega) hv
    rw [valsL_vr_inv (t :: u :: ts) x h h2]; rfl
end
section
variable {P : Program} {σ σ' : ASt} {π : PMap} {δ D : Nat → Prop} {H : Nat → Option AObj} {w w1 : World}
theorem Post.below (h : Pre σ σ π δ D H w) (hb : Below w.heap.size w w1) : Post σ σ π δ D H w π D w1 := by
  have p := Post.refl h
  refine ⟨p.mono, ⟨fun k i hk => ?_, p.rel.kin, fun B cc hf => ?_, p.rel.fro, p.rel.sep⟩, p.sub, p.kept, p.dmono, p.dnew, p.kld, p.kin, p.blk, p.frs, ⟨hb.os, hb.tape, hb.output, hb.size, fun B hB _ => hb.block B hB⟩⟩
  · obtain ⟨o, ho, hr⟩ := p.rel.obj k i hk
    exact ⟨o, ho, hr.mono (PStep.refl _ _) (hb.block _ (p.rel.lt hk))⟩
  · obtain ⟨el, fz, h1⟩ := p.rel.frz B cc hf
    exact ⟨el, fz, (hb.block _ (blk_lt h1)).trans h1⟩
theorem con_of_calls {G : Globs} {f : FuncId} {A B : List Ty} {F : ElL A → Option (ElL B)} (he : Enters P f) (hA : A.all plainT = true) (hB : B.all plainT = true)
    (h : ∀ a r, F a = some r → ∀ w, Calls P f ⟨valsL A a⟩ w fun e w' => e = .returned (oneOrTuple (valsL B r)) ∧ Below w.heap.size w w') : SpecSim P G f (Con.spec ⟨f, A, B, F, false, none⟩) := by
  have inv : ∀ {args σ v σ'}, Con.spec ⟨f, A, B, F, false, none⟩ args σ = some (v, σ') → σ' = σ ∧ ∃ a r, F a = some r ∧ args = valsL A a ∧ v = oneOrTuple (valsL B r) := fun {args σ v σ'} hs => by
    obtain ⟨h1, _, a, h2, h3, h4⟩ := specA_inv (show specA (encL A) [] (fun a => (F a).isSome = true) (Con.res ⟨f, A, B, F, false, none⟩) args σ = some (v, σ') from hs)
    rw [encL_vals] at h3
    obtain ⟨r, hr⟩ := Option.isSome_iff_exists.1 h2
    refine ⟨h1, a, r, hr, valsL_va_inv A a hA h3, ?_⟩
    rw [h4]
    show @Option.rec (ElL B) (fun _ => Value) undef (fun r => oneOrTuple (valsL B r)) (F a) = _
    rw [hr]
  refine ⟨fun args σ v σ' hs => by rw [(inv hs).1]; exact .refl σ, fun args σ v σ' hs => ⟨he, fun _ π δ D H w args' _ ha hp => ?_⟩⟩
  obtain ⟨rfl, a, r, h1, rfl, rfl⟩ := inv hs
  rw [valsL_vr_inv A a hA ha]
  refine (h a r h1 w).mono fun e w' ⟨h2, h3⟩ => ?_
  exact ⟨_, π, D, h2, one_vr B r hB, .below hp h3⟩
theorem pre_none : Pre ⟨.leaf, 0, 0, 0⟩ ⟨.leaf, 0, 0, 0⟩ ⟨fun _ => none, fun _ => none⟩ No No (fun _ => none) w where
  rel := ⟨fun k i h => (by cases h), fun k i h => (by cases h), fun B cc h => (by cases h), fun k i h => (by cases h), fun k₁ k₂ i₁ i₂ _ h => (by cases h)⟩
  wf := fun k _ => rfl
  nle := Nat.le_refl _
  fresh := fun k _ _ => rfl
  okf := fun k h => h.elim
  okd := fun k i h => h.elim
  far := fun k i h => (by cases h)
  dead := fun k h => h.elim
theorem calls_of_con {f : FuncId} {A B : List Ty} {F : ElL A → Option (ElL B)} {lent : Bool} (h : SpecSim P noG f (Con.spec ⟨f, A, B, F, lent, none⟩)) (hl : lent = false) (hA : A.all plainT = true) (hB : B.all plainT = true) {a : ElL A} {r : ElL B} (hF : F a = some r) (w : World) :
    Calls P f ⟨valsL A a⟩ w fun e w' => e = .returned (oneOrTuple (valsL B r)) ∧ Below w.heap.size w w' := by
  subst hl
  have hs : Con.spec ⟨f, A, B, F, false, none⟩ (valsL A a) ⟨.leaf, 0, 0, 0⟩ = some (oneOrTuple (valsL B r), ⟨.leaf, 0, 0, 0⟩) := by
    show specA (encL A) [] (fun a => (F a).isSome = true) (Con.res ⟨f, A, B, F, false, none⟩) (valsL A a) _ = _
    rw [specA_eq (a := a) rfl (by rw [hF]; rfl) (by rw [encL_vals]; exact valsL_self rfl A a)]
    show some (@Option.rec (ElL B) (fun _ => Value) undef (fun r => oneOrTuple (valsL B r)) (F a), _) = _
    rw [hF]
  obtain ⟨_, hsim⟩ := h.2 _ _ _ _ hs
  refine (hsim (Nat.zero_le _) ⟨fun _ => none, fun _ => none⟩ No No (fun _ => none) w (valsL A a) (fun g hg => by cases hg) (valsL_vr A a hA) pre_none).mono fun e w' ⟨v', π', D', h1, h2, h3⟩ => ?_
  rw [one_vr_inv B r hB h2] at h1
  exact ⟨h1, h3.fr.os, h3.fr.tape, h3.fr.output, h3.fr.size, fun k hk => h3.fr.keep k hk (fun _ _ h => by cases h)⟩
theorem args_plain {T : Tab} {H : Type} {enc : TypeId × Value → H} (hT : TyOk P T) {A : List Ty} {args' : List Value} {base fuel : Nat} {held : Bool} {ts : List TypeId} {ds : List (DataW H)} {ps : List MemPlace}
    (hargs : DataW.TrodAll enc P w base (fun _ => true) held ts args' ds ps) (hok : ∀ (j : Nat) t v, ts[j]? = some t → args'[j]? = some v → Value.okWide P w .any base t v) (h2 : argDs T fuel ts = some (dsL A)) (hA : A.all plainT = true) :
    ∃ a : ElL A, args' = valsL A a ∧ okL A a ∧ wtEL A a ≤ bulkAll ds := by
  obtain ⟨vs, g2, g6, g3⟩ := dat_args (D := No) hT ts ds args' (dsL A) ps h2 hargs hok
  obtain ⟨a, rfl, g4, g5⟩ := args_dec A vs g2
  exact ⟨a, valsL_vr_inv A a hA (g3 ⟨fun _ => none, frAll w⟩ rfl), g4, by omega⟩
end
end Go.Abs
