/- The abstract machine, one part: see its own sections. Conditions: none. -/
import Derived.Test.YtcecnhanifikfaaGreatDoorMachA
import Derived.Laws.Append
import Derived.Lib.Builder
import Derived.Lib.UnsafeStr
import Derived.Laws.BytesString
import Derived.Laws.BytesArg
import Derived.Calls
import Derived.Orders
import Derived.Scope
set_option linter.unusedVariables false
set_option linter.unusedSimpArgs false
/- THE ABSTRACT MACHINE's OPERATIONS, ONE BY ONE, HELD AGAINST THE MODEL's: rows that are made, maps, a string that is ranged over. -/
namespace Go.Abs

section
variable {P : Program} {T : Tab} {σ σ' : ASt} {π : PMap} {δ D : Nat → Prop} {H : Nat → Option AObj} {w : World}

theorem run_newObj' (o : Obj) : (newObj o).run P w = .ok w.heap.size (w.alloc o) := rfl

theorem wrap64 {n : Int} (h : 0 ≤ n) (h2 : n ≤ 1000000000) : IntKind.i64.wrap n = n := by
  have h1 : n % (modOf .i64 : Int) = n := Int.emod_eq_of_lt h (by show n < (18446744073709551616 : Int); omega)
  rw [wrap_eq, h1, if_pos (by show n ≤ (9223372036854775807 : Int); omega)]

theorem sim_makeSlice (hT : TyOk P T) {t : TypeId} {l c l' c' v : Value} (h : makeSliceV T t l c σ = some (v, σ')) (hl : VR π D l l') (hc : VR π D c c') (hp : Pre σ σ' π δ D H w) : Does P σ σ' π δ D H w v (Instr.makeSlice t l' c') := by
  obtain ⟨d, hd, e1⟩ := andThen_eq h
  obtain ⟨e, he, e2⟩ := andThen_eq e1
  obtain ⟨i, hi, e3⟩ := andThen_eq e2
  obtain ⟨z, hz, e4⟩ := andThen_eq e3
  obtain ⟨ck, m, hm, e5⟩ := andThen2_eq e4
  obtain ⟨m1, hm1, e6⟩ := andThen_eq e5
  obtain ⟨lk, n, hn, e7⟩ := andThen2_eq e6
  obtain ⟨n1, hn1, e8⟩ := andThen_eq e7
  obtain ⟨hb, e9⟩ := iff_some e8
  obtain ⟨rfl, rfl⟩ := newSliceQ_eq e9
  obtain rfl := sliceElem_eq he
  obtain rfl := asI_eq hm
  obtain rfl := asI_eq hn
  obtain rfl := hl.int_inv
  obtain rfl := hc.int_inv
  obtain ⟨g1, g2, rfl⟩ := upTo_eq hm1
  obtain ⟨g3, g4, rfl⟩ := upTo_eq hn1
  rw [ble_iff] at hb
  have hb' : m.toNat * (i.info.bytes + 1) ≤ 1000000000 := hb
  rw [Nat.mul_succ] at hb'
  obtain ⟨zv, z1, _, z3, z4, z5⟩ := zcells_eq hT hi hz
  have hzs : zv.cells.toList.length = zv.cells.size := rfl
  have hzl := (z5 π D).1
  have hrow : VRs π D (zeros z m.toNat) ((Array.range (m.toNat * i.size)).map fun j => (if m.toNat * i.size = 0 then (#[] : Array Value) else zv.cells)[j % (if m.toNat * i.size = 0 then (#[] : Array Value) else zv.cells).size]!).toList := by
    by_cases h0 : m.toNat * i.size = 0
    · rw [zeros_eq, h0]
      have : (List.replicate m.toNat z).flatten = [] := by
        apply List.eq_nil_of_length_eq_zero
        rw [List.length_flatten, List.map_replicate, List.sum_replicate_nat, z3, h0]
      rw [this]
      simpa using VRs.nil
    · rw [if_neg h0, zeros_eq]
      have := rep_range zv.cells m.toNat
      rw [show zv.cells.size = i.size from by omega] at this ⊢
      rw [this]
      exact (z5 π D).flatten_replicate m.toNat
  obtain ⟨v', π', D', w', h1, h2, h3⟩ := sim_newSliceQ (P := P) (elem := e) (fun x hx => by
    unfold rowQ at hx
    rw [iff_eq] at hx
    split at hx
    · rw [show typedQ (some (rowC e)) = some (2 * e).succ from typedQ_add _] at hx
      cases hx
      exact ⟨odd_odd e, half_odd e⟩
    · cases hx) hp hrow (zeros_mem z4) (show n.toNat ≤ m.toNat by omega)
  refine ⟨v', π', D', w', ?_, h2, h3⟩
  have hw1 : IntKind.i64.wrap n = n := wrap64 g3 (by omega)
  have hw2 : IntKind.i64.wrap m = m := wrap64 g1 (by omega)
  have hbm : (i.info.bytes : Int) * m ≤ 1000000000 := by
    have : ((m.toNat * i.info.bytes : Nat) : Int) ≤ 1000000000 := by omega
    rw [Int.natCast_mul, Int.toNat_of_nonneg g1, Int.mul_comm] at this
    exact this
  have h48 : ¬ ((i.info.bytes : Int) * m > 2 ^ 48) := by
    have : (2 : Int) ^ 48 = 281474976710656 := by decide
    omega
  have hcond : ¬ ((decide (m < 0) || decide ((i.info.bytes : Int) * m > 2 ^ 48) || decide (n < 0) || decide (n > m)) = true) := by
    simp only [Bool.or_eq_true, decide_eq_true_eq]
    omega
  simp only [Instr.makeSlice, Sem.run_bind, run_desc hT hd, Result.andThen_ok, asInt, asIntOf, Sem.run_pure, run_info hT hi, hw1, hw2]
  rw [if_neg hcond]
  simp only [Sem.run_bind, run_askRoom, Result.andThen_ok, run_size hT hi]
  by_cases h0 : m.toNat * i.size = 0
  · simp only [if_pos h0] at h1 ⊢
    simp only [Sem.run_bind, Sem.run_pure, Result.andThen_ok] at h1 ⊢
    exact h1
  · simp only [if_neg h0] at h1 ⊢
    simp only [Sem.run_bind, Sem.run_pure, Result.andThen_ok, run_zero hT hi z1] at h1 ⊢
    exact h1

theorem mapOf2_eq {d : TypeDesc} {k e : TypeId} (h : mapOf2 d = some (k, e)) : d = .map k e := by
  cases d <;> simp [mapOf2] at h; obtain ⟨rfl, rfl⟩ := h; rfl

theorem hintOk_eq {r : Option Value} {u : Unit} (h : hintOk r = some u) : r = none ∨ ∃ k n, r = some (.int k n) := by
  cases r with
  | none => exact .inl rfl
  | some v =>
    obtain ⟨k, n, h1, _⟩ := andThen2_eq (show andThen2 (asI v) (fun _ _ => some ()) = some u from h)
    exact .inr ⟨k, n, by rw [asI_eq h1]⟩

/-- a new map, or the like -/
theorem post_other {o : AObj} {O : Obj} (hp : Pre σ (σ.new o) π δ D H w) (ho : ObjR π D ⟨w.heap.size, 0, 0, none, σ.next, false, 0⟩ (w.alloc O) o) :
    ∃ π', Post σ (σ.new o) π δ D H w π' D (w.alloc O) ∧ π' σ.next = some ⟨w.heap.size, 0, 0, none, σ.next, false, 0⟩ :=
  ⟨_, post_new (i := ⟨w.heap.size, 0, 0, none, σ.next, false, 0⟩) hp rfl ho ⟨Nat.le_refl _, fun _ => rfl⟩ (.inl rfl) (.none rfl), if_pos rfl⟩

theorem sim_makeMap (hT : TyOk P T) {t : TypeId} {r r' : Option Value} {v : Value} (h : makeMapV T t r σ = some (v, σ')) (hr : VRo π D r r') (hp : Pre σ σ' π δ D H w) : Does P σ σ' π δ D H w v (Instr.makeMap t r') := by
  obtain ⟨d, hd, e1⟩ := andThen_eq h
  obtain ⟨k, e, hk, e2⟩ := andThen2_eq e1
  obtain ⟨u, hu, e3⟩ := andThen_eq e2
  simp only [Option.some.injEq, Prod.mk.injEq] at e3
  obtain ⟨rfl, rfl⟩ := e3
  obtain rfl := mapOf2_eq hk
  obtain ⟨π', h1, h2⟩ := post_other (O := .map #[] 0) hp ⟨#[], by rw [heap_alloc, if_pos rfl], ⟨rfl, fun i e e' h _ => by simp at h⟩, rfl, rfl⟩
  refine ⟨.map (some w.heap.size), π', D, _, ?_, .map (.inl ⟨_, h2, rfl⟩), h1⟩
  rcases hintOk_eq hu with rfl | ⟨kk, n, rfl⟩
  · rw [VRo.none hr]
    simp only [Instr.makeMap, Sem.run_bind, run_newObj', Result.andThen_ok, Sem.run_pure]
  · rw [VRo.int hr]
    simp only [Instr.makeMap, Sem.run_bind, run_newObj', Result.andThen_ok, Sem.run_pure, run_desc hT hd, asInt, asIntOf]

/-! ### a string that is ranged over -/

theorem sim_range (hT : TyOk P T) {t : TypeId} {x : Operand} {ρ : Operand → Value} {x' v : Value} (h : doRange T t x ρ σ = some (v, σ')) (hx : VR π D (ρ x) x') (hp : Pre σ σ' π δ D H w) : Does P σ σ' π δ D H w v (Instr.range t x') := by
  obtain ⟨d, hd, e1⟩ := andThen_eq h
  cases d <;> simp only [reduceCtorEq] at e1
  obtain ⟨s, hs, e2⟩ := andThen_eq e1
  simp only [Option.some.injEq, Prod.mk.injEq] at e2
  obtain ⟨rfl, rfl⟩ := e2
  obtain ⟨b, hb, rfl⟩ := asS_eq hs
  rw [hb] at hx
  obtain rfl := hx.string_inv
  obtain ⟨π', h1, h2⟩ := post_other (O := .stringIter b 0) hp ⟨by rw [heap_alloc, if_pos rfl], rfl, rfl, rfl⟩
  refine ⟨.pointer (some ⟨w.heap.size, 0, none⟩), π', D, _, ?_, .ptr rfl ⟨rfl, .inl ⟨_, h2, rfl, rfl⟩⟩, h1⟩
  simp only [Instr.range, Sem.run_bind, run_desc hT hd, Result.andThen_ok, Sem.run_pure, run_newObj']

theorem iterOf_eq {o : AObj} {s : List UInt8} {p : Nat} (h : iterOf o = some (s, p)) : o = .iter s p := by
  cases o <;> simp [iterOf] at h; obtain ⟨rfl, rfl⟩ := h; rfl
theorem entriesOf_eq {o : AObj} {es : List MapEntry} {c : Nat} (h : entriesOf o = some (es, c)) : o = .map es c := by
  cases o <;> simp [entriesOf] at h; obtain ⟨rfl, rfl⟩ := h; rfl

theorem run_getObj_map {r : Nat} {es : Array MapEntry} {c : Nat} (h : w.heap[r]? = some (.map es c)) : (getObj r).run P w = .ok (.map es c) w := by
  simp only [getObj, Sem.run, h]
theorem run_getObj_iter {r : Nat} {s : ByteArray} {c : Nat} (h : w.heap[r]? = some (.stringIter s c)) : (getObj r).run P w = .ok (.stringIter s c) w := by
  simp only [getObj, Sem.run, h]
theorem run_setObj_map {r : Nat} {es : Array MapEntry} {c : Nat} (h : w.heap[r]? = some (.map es c)) (q : Obj) : (setObj r q).run P w = .ok () (putObj w r q) := by
  simp only [setObj, Sem.run, h]; rfl
theorem run_setObj_iter {r : Nat} {s : ByteArray} {c : Nat} (h : w.heap[r]? = some (.stringIter s c)) (q : Obj) : (setObj r q).run P w = .ok () (putObj w r q) := by
  simp only [setObj, Sem.run, h]; rfl

theorem sim_next {x : Operand} {isStr : Bool} {ρ : Operand → Value} {x' v : Value} (ty : TypeId) (h : doNext x isStr ρ σ = some (v, σ')) (hx : VR π D (ρ x) x') (hp : Pre σ σ' π δ D H w) : Does P σ σ' π δ D H w v (Instr.next x' isStr ty) := by
  obtain ⟨r, off, h1, e1⟩ := andThen2_eq h
  obtain ⟨s, pos, h2, e2⟩ := andThen2_eq e1
  obtain ⟨o, h3, h4⟩ := andThen_eq h2
  obtain rfl := iterOf_eq h4
  obtain ⟨hst, e3⟩ := iff_some e2
  rw [Bool.and_eq_true, Tr.isZ_iff] at hst
  obtain ⟨rfl, rfl⟩ := hst
  rw [asPtr_eq h1] at hx
  obtain ⟨a', rfl, ha⟩ := hx.ptr_inv
  obtain ⟨i, hi, hB, hro, hes, hsh⟩ := hp.here h3 rfl ha.known
  obtain rfl := ha.at hi
  rw [iff_eq] at e3
  by_cases hlt : pos < s.length
  · rw [if_pos (by rw [lenQ_eq]; exact (blt_iff _ _).2 hlt)] at e3
    simp only [Option.some.injEq, Prod.mk.injEq] at e3
    obtain ⟨rfl, rfl⟩ := e3
    have hlow : (σ.lower r) = min r σ.low := minN_eq _ _
    have horg := (hp.rel.kin r i hi).2 hes
    refine ⟨.tuple #[.bool true, .int .i64 (Int.ofNat pos), .int .i32 (Utf8.decode ⟨⟨s⟩⟩ pos).1], forget π r i.blk, forgotten π r i.blk D, putObj w i.blk (.stringIter ⟨⟨s⟩⟩ (pos + (Utf8.decode ⟨⟨s⟩⟩ pos).2)), ?_, ?_, ?_⟩
    rotate_left
    · exact VRs.tuple rfl (.cons (.bool _) (.cons (.int _ _) (.cons (.int _ _) .nil)))
    · refine post_write (q := .iter s (pos + (Utf8.decode ⟨⟨s⟩⟩ pos).2)) hp (rewrite_set σ r _ _) h3 hi hro rfl rfl (by show σ.lower r ≤ σ.low; omega) (by show σ.lower r ≤ i.org; omega)
        (.other rfl (by simp [kindOf]) (.inl (by show σ.lower r ≤ r; omega))) rfl ⟨putObj_same (blk_lt hB), hro, hes, hsh⟩ (.none hes)
    · simp only [Instr.next, hsh, Sem.run_bind, run_getObj_iter hB, Result.andThen_ok]
      rw [if_pos (show pos < (ByteArray.mk ⟨s⟩).size from hlt)]
      simp only [Sem.run_bind, run_setObj_iter hB, Result.andThen_ok, Sem.run_pure]
      rfl
  · rw [if_neg (by rw [lenQ_eq]; exact fun h => hlt ((blt_iff _ _).1 h))] at e3
    simp only [Option.some.injEq, Prod.mk.injEq] at e3
    obtain ⟨rfl, rfl⟩ := e3
    refine ⟨_, π, D, w, ?_, VRs.tuple rfl (.one (.bool _)), .refl hp⟩
    simp only [Instr.next, hsh, Sem.run_bind, run_getObj_iter hB, Result.andThen_ok]
    rw [if_neg (show ¬ pos < (ByteArray.mk ⟨s⟩).size from hlt)]
    rfl

/-! ### maps -/

theorem MapR.at {es es' : List MapEntry} (h : MapR π D es es') {i : Nat} {e : MapEntry} (he : es[i]? = some e) : ∃ e', es'[i]? = some e' ∧ VR π D e.key e'.key ∧ VR π D e.val e'.val ∧ e.born = e'.born := by
  have hi : i < es.length := (List.getElem?_eq_some_iff.1 he).1
  have hi' : i < es'.length := h.1 ▸ hi
  exact ⟨es'[i], List.getElem?_eq_getElem hi', h.2 i e _ he (List.getElem?_eq_getElem hi')⟩
theorem MapR.mono {π' : PMap} {D' : Nat → Prop} (hs : PStep π D π' D') {es es' : List MapEntry} (h : MapR π D es es') : MapR π' D' es es' :=
  ⟨h.1, fun i e e' a b => by obtain ⟨x, y, z⟩ := h.2 i e e' a b; exact ⟨x.mono hs, y.mono hs, z⟩⟩

theorem mapType_eq {t k e : TypeId} (h : mapType T t = some (k, e)) : desc T t = some (.map k e) ∧ ∃ d, desc T k = some d ∧ keyD T d = true := by
  obtain ⟨d, hd, e1⟩ := andThen_eq h
  obtain ⟨k', e', h2, e2⟩ := andThen2_eq e1
  obtain ⟨h3, e3⟩ := iff_some e2
  simp only [Option.some.injEq, Prod.mk.injEq] at e3
  obtain ⟨rfl, rfl⟩ := e3
  obtain rfl := mapOf2_eq h2
  refine ⟨hd, ?_⟩
  unfold keyOk at h3
  split at h3
  · rename_i d' hd'; exact ⟨d', hd', h3⟩
  · cases h3

/-- keys that are compared as they are need no look -/
theorem run_checkKey_flat {d : TypeDesc} {t : TypeId} (hd : P.underlying t = some d) (h : ∀ ms, d ≠ .interface ms) (h2 : ∀ n e, d ≠ .array n e) (h3 : ∀ fs, d ≠ .struct fs) (em : Bool) (n : Nat) (v : Value) (w : World) : (Instr.checkKey em (n + 1) t v).run P w = .ok () w := by
  simp only [Instr.checkKey, Sem.run_bind, run_underlying hd, Result.andThen_ok]
  cases d <;> first | exact absurd rfl (h _) | exact absurd rfl (h2 _ _) | exact absurd rfl (h3 _) | rfl

theorem run_checkKey_arr {t e : TypeId} {k : IntKind} {l : List Value} (ht : P.underlying t = some (.array l.length e)) (he : P.underlying e = some (.int k)) (hs : ∀ w : World, (sizeOf e).run P w = .ok 1 w) (ha : ∀ w : World, (isAgg e).run P w = .ok false w)
    (em : Bool) (n : Nat) (w : World) : (Instr.checkKey em (n + 2) t (.agg ⟨l⟩)).run P w = .ok () w := by
  rw [show n + 2 = (n + 1) + 1 from rfl, Instr.checkKey]
  simp only [Sem.run_bind, run_underlying ht, Result.andThen_ok]
  rw [Std.Legacy.Range.forIn_eq_forIn_range']
  simp only [Std.Legacy.Range.size, Nat.sub_zero, Nat.add_sub_cancel, Nat.div_one]
  have key : ∀ (m s : Nat), s + m = l.length → (forIn (List.range' s m) PUnit.unit fun (i : Nat) (_ : PUnit) => (do
      let x ← sizeOf e
      let y ← Go.part e ⟨l⟩ (i * x)
      Instr.checkKey em (n + 1) e y
      pure (ForInStep.yield PUnit.unit) : Sem (ForInStep PUnit))).run P w = .ok PUnit.unit w := by
    intro m
    induction m with
    | zero => intro s _; rfl
    | succ m ih =>
      intro s hsm
      have hlt : s < l.length := by omega
      have hp : (Go.part e ⟨l⟩ (s * 1)).run P w = .ok l[s] w := by
        simp only [Go.part, Sem.run_bind, ha, Result.andThen_ok, Bool.false_eq_true, if_false, Nat.mul_one]
        have : (⟨l⟩ : Array Value)[s]? = some l[s] := by simp [hlt]
        rw [this]; rfl
      have hc : (Instr.checkKey em (n + 1) e l[s]).run P w = .ok () w := run_checkKey_flat he (fun _ h => by cases h) (fun _ _ h => by cases h) (fun _ h => by cases h) em n _ w
      simp only [List.range'_succ, List.forIn_cons, Sem.run_bind, hs, Result.andThen_ok, hp, hc, Sem.run_pure]
      exact ih (s + 1) (by omega)
  rw [key l.length 0 (by omega)]
  rfl

theorem run_forIn_unit {α : Type} {f : α → PUnit → Sem (ForInStep PUnit)} : ∀ (m : List α) (w : World), (∀ a ∈ m, (f a PUnit.unit).run P w = .ok (ForInStep.yield PUnit.unit) w) → (forIn m PUnit.unit f).run P w = .ok PUnit.unit w
  | [], _, _ => rfl
  | a :: m, w, h => by
    simp only [List.forIn_cons, Sem.run_bind, h a (List.mem_cons_self ..), Result.andThen_ok]
    exact run_forIn_unit m w fun b hb => h b (List.mem_cons_of_mem _ hb)
theorem run_checkKey_str {t : TypeId} {fs : Array Field} {l : List Value} (ht : P.underlying t = some (.struct fs)) (hf : ∀ f ∈ fs.toList, (∃ k, P.underlying f.type = some (.int k)) ∧ (∀ w : World, (isAgg f.type).run P w = .ok false w) ∧ f.offset < l.length)
    (em : Bool) (n : Nat) (w : World) : (Instr.checkKey em (n + 2) t (.agg ⟨l⟩)).run P w = .ok () w := by
  rw [show n + 2 = (n + 1) + 1 from rfl, Instr.checkKey]
  simp only [Sem.run_bind, run_underlying ht, Result.andThen_ok]
  rw [← Array.forIn_toList]
  refine (congrArg (fun r => Result.andThen r _) (run_forIn_unit fs.toList w fun f hm => ?_)).trans rfl
  obtain ⟨⟨k, h1⟩, h2, h3⟩ := hf f hm
  have hp : (Go.part f.type ⟨l⟩ f.offset).run P w = .ok l[f.offset] w := by
    simp only [Go.part, Sem.run_bind, h2, Result.andThen_ok, Bool.false_eq_true, if_false]
    have : (⟨l⟩ : Array Value)[f.offset]? = some l[f.offset] := by simp [h3]
    rw [this]; rfl
  have hc : (Instr.checkKey em (n + 1) f.type l[f.offset]).run P w = .ok () w := run_checkKey_flat h1 (fun _ h => by cases h) (fun _ _ h => by cases h) (fun _ h => by cases h) em n _ w
  split
  · simp only [Sem.run_bind, hp, Result.andThen_ok, hc, Sem.run_pure]
  · rfl
theorem run_checkKey_str2 {t : TypeId} {fs : Array Field} {l : List Value} (ht : P.underlying t = some (.struct fs)) (em : Bool) (n : Nat) (w : World) (hf : ∀ f ∈ fs.toList, ∃ v, (Go.part f.type ⟨l⟩ f.offset).run P w = .ok v w ∧ (Instr.checkKey em n f.type v).run P w = .ok () w) :
    (Instr.checkKey em (n + 1) t (.agg ⟨l⟩)).run P w = .ok () w := by
  rw [Instr.checkKey]
  simp only [Sem.run_bind, run_underlying ht, Result.andThen_ok]
  rw [← Array.forIn_toList]
  refine (congrArg (fun r => Result.andThen r _) (run_forIn_unit fs.toList w fun f hm => ?_)).trans rfl
  obtain ⟨v, hp, hc⟩ := hf f hm
  split
  · simp only [Sem.run_bind, hp, Result.andThen_ok, hc, Sem.run_pure]
  · rfl
theorem intTy_eq {e : TypeId} (h : intTy T e = true) : ∃ k ie, desc T e = some (.int k) ∧ T.Y.get e = some ie ∧ ie.desc = .int k := by
  unfold intTy at h
  split at h
  · rename_i kk hkk
    obtain ⟨de, h3, h4⟩ := andThen_eq hkk
    obtain ⟨ie, h5, h6⟩ := desc_eq h3
    have hde : de = .int kk := by
      cases de <;> simp [intKind] at h4
      subst h4; rfl
    subst hde
    exact ⟨kk, ie, h3, h5, h6⟩
  · cases h
theorem sim_arrKey (hT : TyOk P T) {t e : TypeId} {n : Nat} {v v' : Value} (hu : P.underlying t = some (.array n e)) (he : intTy T e = true) (hf : arrFit T v n e = true) (hi : VR π D v v') (em : Bool) (m : Nat) (w : World) : (Instr.checkKey em (m + 2) t v').run P w = .ok () w := by
  unfold arrFit at hf
  split at hf
  · rename_i cs z h1 h2
    obtain rfl := asA_eq h1
    rw [Bool.and_eq_true, beq_iff, beq_iff, lenQ_eq] at hf
    obtain ⟨rfl, rfl⟩ := hf
    obtain ⟨c', rfl, hc, _⟩ := VRs.of_agg hi
    obtain ⟨kk, ie, h3, h5, h6⟩ := intTy_eq he
    have hagg : ∀ w : World, (isAgg e).run P w = .ok false w := fun w => by
      rw [run_isAgg' hT h5, (hT e ie h5).agg, h6]
    rw [hc.1] at hu
    exact run_checkKey_arr hu (und_desc hT h3) (run_size' hT h2) hagg em m w
  · cases hf
/-- what is known of the keys of a map that is looked into -/
theorem sim_checkKey (hT : TyOk P T) {t : TypeId} {d : TypeDesc} {ix ix' : Value} (hd : desc T t = some d) (hk : keyD T d = true) (hf : keyFit T t ix = true) (hi : VR π D ix ix') (em : Bool) (w : World) : (Instr.checkKey em 10000 t ix').run P w = .ok () w := by
  have hu := und_desc hT hd
  unfold keyFit at hf
  rw [hd] at hf
  simp only at hf
  cases d
  case array n e =>
    exact sim_arrKey hT hu (show intTy T e = true from hk) (show arrFit T ix n e = true from hf) hi em 9998 w
  case struct fs =>
    simp only [keyFitD] at hf
    split at hf
    · rename_i cs h1
      obtain rfl := asA_eq h1
      obtain ⟨c', rfl, hc, h1c⟩ := VRs.of_agg hi
      rw [Bool.or_eq_true, Bool.and_eq_true, List.all_eq_true, List.all_eq_true, List.all_eq_true] at hf
      rcases hf with ⟨hk, hf⟩ | hf
      · refine run_checkKey_str hu (fun f hm => ?_) em 9998 w
        obtain ⟨kk, ie, h3, h5, h6⟩ := intTy_eq (hk f hm)
        have g2 := hf f hm
        rw [blt_iff, lenQ_eq, hc.1] at g2
        exact ⟨⟨kk, und_desc hT h3⟩, fun w => by rw [run_isAgg' hT h5, (hT f.type ie h5).agg, h6], g2⟩
      · refine run_checkKey_str2 hu em 9999 w fun f hm => ?_
        have g := hf f hm
        unfold partFit at g
        split at g
        · rename_i v d h2 h3
          obtain ⟨v', h4, h5⟩ := sim_part hT h2 hc h1c w
          refine ⟨v', h4, ?_⟩
          have hu2 := und_desc hT h3
          cases d <;> simp only [partFitD, Bool.false_eq_true] at g
          case int k => exact run_checkKey_flat hu2 (fun _ h => by cases h) (fun _ _ h => by cases h) (fun _ h => by cases h) em 9998 _ w
          case string => exact run_checkKey_flat hu2 (fun _ h => by cases h) (fun _ _ h => by cases h) (fun _ h => by cases h) em 9998 _ w
          case array n e =>
            rw [Bool.and_eq_true] at g
            exact sim_arrKey hT hu2 g.1 g.2 h5 em 9997 w
        · cases g
    · cases hf
  all_goals first
    | (simp only [keyD] at hk; cases hk; done)
    | exact run_checkKey_flat hu (fun _ h => by cases h) (fun _ _ h => by cases h) (fun _ h => by cases h) em 9999 _ w

theorem findAsking_sim (hT : TyOk P T) {t : TypeId} {k k' : Value} (hk : VR π D k k') (w : World) : ∀ (es es' : List MapEntry) (i : Nat) (r : Option (Nat × MapEntry)), MapR π D es es' → findK T t k es i = some r →
    (r = none ∧ (Instr.findAsking t k' es' i).run P w = .ok none w) ∨ ∃ j e e', r = some (i + j, e) ∧ es[j]? = some e ∧ es'[j]? = some e' ∧ (Instr.findAsking t k' es' i).run P w = .ok (some (i + j, e'.val)) w
  | [], es', i, r, hm, h => by
    have : es' = [] := List.eq_nil_of_length_eq_zero hm.1.symm
    subst this
    simp only [findK, Option.some.injEq] at h
    exact .inl ⟨h.symm, rfl⟩
  | e :: es, es', i, r, hm, h => by
    cases es' with
    | nil => have := hm.1; simp at this
    | cons e' es' =>
      obtain ⟨b, hb, h2⟩ := andThen_eq (show andThen (eqV T 3 t k e.key) (fun b => iff b (some (some (i, e))) (findK T t k es (Nat.succ i))) = some r from h)
      have h0 := (hm.2 0 e e' rfl rfl).1
      have hq := sim_eqV hT 3 (Op.maxDepth - 4) t k e.key b hb k' e'.key hk h0 w
      have hq' : (Op.equal t k' e'.key).run P w = .ok b w := hq
      have htl : MapR π D es es' := ⟨by have := hm.1; simpa using this, fun i a b h1 h2 => hm.2 (i + 1) a b h1 h2⟩
      simp only [Instr.findAsking, Sem.run_bind, hq', Result.andThen_ok]
      cases b with
      | true =>
        simp only [iff_true, Option.some.injEq] at h2
        exact .inr ⟨0, e, e', h2.symm, rfl, rfl, rfl⟩
      | false =>
        rcases findAsking_sim hT hk w es es' (i + 1) r htl h2 with ⟨h3, h4⟩ | ⟨j, a, a', h3, h4, h5, h6⟩
        · exact .inl ⟨h3, h4⟩
        · refine .inr ⟨j + 1, a, a', ?_, h4, h5, ?_⟩
          · rw [h3]; congr 2; omega
          · rw [if_neg (by simp), h6]; congr 3; omega

theorem sameNow_eq {t : TypeId} {d : TypeDesc} (hd : desc T t = some d) {x y x' y' : Value} {b b' : Bool} (h : eqV T 3 t x y = some b) (hx : VR π D x x') (hy : VR π D y y') (h' : Instr.sameNow d x' y' = some b') : b' = b := by
  obtain ⟨i, hi, h1⟩ := andThen_eq h
  obtain ⟨i', hi', rfl⟩ := desc_eq hd
  have hii : T.Y.get t = some i := hi
  rw [hi'] at hii; cases hii
  cases hdd : i.desc <;> rw [hdd] at h1 h' <;> simp only [Instr.sameNow, reduceCtorEq] at h'
  case int kk =>
    obtain ⟨k, a, h2, h3⟩ := andThen2_eq (show andThen2 (asI x) (fun k a => andThen2 (asI y) fun k' b => iff (sameKind k k') (some (eqQ a b)) none) = some b from h1)
    obtain ⟨k2, a2, h4, h5⟩ := andThen2_eq h3
    obtain ⟨h6, h7⟩ := iff_some h5
    obtain rfl := asI_eq h2
    obtain rfl := asI_eq h4
    obtain rfl := (sameKind_iff _ _).1 h6
    obtain rfl := hx.int_inv
    obtain rfl := hy.int_inv
    simp only [if_true, Option.some.injEq] at h' h7
    rw [eqQ_eq] at h7
    exact h'.symm.trans h7
  case bool =>
    obtain ⟨a, h2, h3⟩ := andThen_eq (show andThen (asB x) (fun a => andThen (asB y) fun b => some (a == b)) = some b from h1)
    obtain ⟨a2, h4, h5⟩ := andThen_eq h3
    obtain rfl := asB_eq h2
    obtain rfl := asB_eq h4
    obtain rfl := hx.bool_inv
    obtain rfl := hy.bool_inv
    simp only [Option.some.injEq] at h' h5
    exact h'.symm.trans h5
  case string =>
    obtain ⟨a, h2, h3⟩ := andThen_eq (show andThen (asS x) (fun a => andThen (asS y) fun b => some (sameBytes a b)) = some b from h1)
    obtain ⟨a2, h4, h5⟩ := andThen_eq h3
    obtain ⟨s, rfl, rfl⟩ := asS_eq h2
    obtain ⟨s2, rfl, rfl⟩ := asS_eq h4
    obtain rfl := hx.string_inv
    obtain rfl := hy.string_inv
    simp only [Option.some.injEq, sameBytes] at h' h5
    subst h'; subst h5
    rw [beq_toListBytes, ByteArray.toList_eq, ByteArray.toList_eq]

theorem findNow_sim {t : TypeId} {d : TypeDesc} (hd : desc T t = some d) {k k' : Value} (hk : VR π D k k') : ∀ (es es' : List MapEntry) (i : Nat) (r : Option (Nat × MapEntry)) (q : Option (Nat × Value)), MapR π D es es' → findK T t k es i = some r → Instr.findNow d k' es' i = some q →
    (r = none ∧ q = none) ∨ ∃ j e e', r = some (i + j, e) ∧ es[j]? = some e ∧ es'[j]? = some e' ∧ q = some (i + j, e'.val)
  | [], es', i, r, q, hm, h, h' => by
    have : es' = [] := List.eq_nil_of_length_eq_zero hm.1.symm
    subst this
    simp only [findK, Option.some.injEq] at h
    simp only [Instr.findNow, Option.some.injEq] at h'
    exact .inl ⟨h.symm, h'.symm⟩
  | e :: es, es', i, r, q, hm, h, h' => by
    cases es' with
    | nil => have := hm.1; simp at this
    | cons e' es' =>
      obtain ⟨b, hb, h2⟩ := andThen_eq (show andThen (eqV T 3 t k e.key) (fun b => iff b (some (some (i, e))) (findK T t k es (Nat.succ i))) = some r from h)
      have h0 := (hm.2 0 e e' rfl rfl).1
      have htl : MapR π D es es' := ⟨by have := hm.1; simpa using this, fun i a b h1 h2 => hm.2 (i + 1) a b h1 h2⟩
      simp only [Instr.findNow] at h'
      cases hs : Instr.sameNow d k' e'.key with
      | none => rw [hs] at h'; cases h'
      | some b' =>
        obtain rfl := sameNow_eq hd hb hk h0 hs
        rw [hs] at h'
        cases b' with
        | true =>
          simp only [iff_true, Option.some.injEq] at h2 h'
          exact .inr ⟨0, e, e', h2.symm, rfl, rfl, h'.symm⟩
        | false =>
          rcases findNow_sim hd hk es es' (i + 1) r q htl h2 h' with ⟨h3, h4⟩ | ⟨j, a, a', h3, h4, h5, h6⟩
          · exact .inl ⟨h3, h4⟩
          · refine .inr ⟨j + 1, a, a', ?_, h4, h5, ?_⟩
            · rw [h3]; congr 2; omega
            · rw [h6]; congr 2; omega

theorem sim_findKey (hT : TyOk P T) {t : TypeId} {d : TypeDesc} (hd : desc T t = some d) {k k' : Value} (hk : VR π D k k') {es es' : List MapEntry} {r : Option (Nat × MapEntry)} (hm : MapR π D es es') (h : findE T t k es = some r) (w : World) :
    (r = none ∧ (Instr.findKey t k' es').run P w = .ok none w) ∨ ∃ j e e', r = some (j, e) ∧ es[j]? = some e ∧ es'[j]? = some e' ∧ (Instr.findKey t k' es').run P w = .ok (some (j, e'.val)) w := by
  obtain ⟨_, h1⟩ := iff_some h
  simp only [Instr.findKey, Sem.run_bind, run_desc hT hd, Result.andThen_ok]
  cases hf : Instr.findNow d k' es' 0 with
  | none =>
    rcases findAsking_sim hT hk w es es' 0 r hm h1 with h2 | ⟨j, e, e', h2, h3, h4, h5⟩
    · exact .inl h2
    · rw [Nat.zero_add] at h2 h5; exact .inr ⟨j, e, e', h2, h3, h4, h5⟩
  | some q =>
    rcases findNow_sim hd hk es es' 0 r q hm h1 hf with ⟨h2, rfl⟩ | ⟨j, e, e', h2, h3, h4, rfl⟩
    · exact .inl ⟨h2, rfl⟩
    · rw [Nat.zero_add] at h2; exact .inr ⟨j, e, e', h2, h3, h4, by rw [Nat.zero_add]; rfl⟩

/-- the entries of a map, as the model has them -/
theorem Pre.entries (hp : Pre σ σ' π δ D H w) {r : Nat} {es : List MapEntry} {m' : Value} {c : Nat} (h : andThen (σ.obj r) entriesOf = some (es, c)) (hm : VR π D (.map (some r)) m') :
    ∃ i es', π r = some i ∧ m' = .map (some i.blk) ∧ σ.obj r = some (.map es c) ∧ w.heap[i.blk]? = some (.map es' c) ∧ MapR π D es es'.toList ∧ i.ro = false ∧ i.org = r := by
  obtain ⟨o, h1, h2⟩ := andThen_eq h
  obtain rfl := entriesOf_eq h2
  cases hm with
  | map hr =>
    have hex : (∃ i, π r = some i) ∨ (π r = none ∧ D r) := by
      rcases hr with ⟨i, h3, _⟩ | h3
      · exact .inl ⟨i, h3⟩
      · exact .inr h3
    obtain ⟨i, hi, es', hB, hmr, hro, hes⟩ := hp.here h1 rfl hex
    rcases hr with ⟨j, h3, rfl⟩ | ⟨h3, _⟩
    · rw [hi] at h3; cases h3
      exact ⟨i, es', hi, rfl, h1, hB, hmr, hro, (hp.rel.kin r i hi).2 hes⟩
    · rw [hi] at h3; cases h3

theorem okOr_sim {ok b : Bool} {v v' : Value} (h : VR π D v v') : VR π D (okOr ok v b) (if ok then .tuple #[v', .bool b] else v') := by
  unfold okOr
  rw [iff_eq]
  cases ok
  · exact h
  · exact VRs.tuple rfl (.cons h (.one (.bool _)))

theorem keyFit_of {t : TypeId} {k : Value} {es : List MapEntry} {r : Option (Nat × MapEntry)} (h : findE T t k es = some r) : keyFit T t k = true := (iff_some h).1

theorem sim_lookup (hT : TyOk P T) {t : TypeId} {x ix x' ix' v : Value} {ok : Bool} (h : lookupV T σ t x ix ok = some v) (hx : VR π D x x') (hi : VR π D ix ix') (hp : Pre σ σ' π δ D H w) : ∃ v', (Instr.lookup t x' ix' ok).run P w = .ok v' w ∧ VR π D v v' := by
  obtain ⟨key, elem, h1, e1⟩ := andThen2_eq h
  obtain ⟨r, h2, e2⟩ := andThen_eq e1
  obtain ⟨es, h3, e3⟩ := andThen_eq e2
  obtain ⟨hit, h4, e4⟩ := andThen_eq e3
  obtain ⟨hd, d, hdk, hkd⟩ := mapType_eq h1
  obtain rfl := asM_eq h2
  have fin : ∀ (es' : Array MapEntry), MapR π D es es'.toList → ∃ v', (do
      Instr.checkKey es'.isEmpty 10000 key ix'
      let (v, b) ← match ← Instr.findKey key ix' es'.toList with
        | some (_, v) => pure (v, true)
        | none => pure (← zeroValue elem, false)
      pure (if ok then .tuple #[v, .bool b] else v) : Sem Value).run P w = .ok v' w ∧ VR π D v v' := by
    intro es' hmr
    rcases sim_findKey hT hdk hi hmr h4 w with ⟨rfl, h5⟩ | ⟨j, e, e', rfl, h6, h7, h5⟩
    · obtain ⟨z, hz, e5⟩ := andThen_eq (show andThen (zero T elem) (fun z => some (okOr ok z false)) = some v from e4)
      cases e5
      obtain ⟨i, hi2, hz2⟩ := zero_eq hz
      refine ⟨_, ?_, okOr_sim (zero_const hT hi2 hz2 π D)⟩
      simp only [Sem.run_bind, sim_checkKey hT hdk hkd (keyFit_of h4) hi, Result.andThen_ok, h5, run_zero hT hi2 hz2, Sem.run_pure]
    · have e5 : okOr ok e.val true = v := Option.some.inj e4
      subst e5
      refine ⟨_, ?_, okOr_sim (hmr.2 j e e' h6 h7).2.1⟩
      simp only [Sem.run_bind, sim_checkKey hT hdk hkd (keyFit_of h4) hi, Result.andThen_ok, h5, Sem.run_pure]
  cases r with
  | none =>
    obtain rfl := hx.map_none
    simp only [mapAt, Option.some.injEq] at h3
    subst h3
    obtain ⟨v', h5, h6⟩ := fin #[] ⟨rfl, fun i _ _ h _ => by simp at h⟩
    refine ⟨v', ?_, h6⟩
    rw [← h5]
    simp only [Instr.lookup, Sem.run_bind, run_desc hT hd, Result.andThen_ok, Sem.run_pure]
    rfl
  | some r =>
    obtain ⟨es0, c, h5, h6⟩ := andThen2_eq (show andThen2 (andThen (σ.obj r) entriesOf) (fun es _ => some es) = some es from h3)
    cases h6
    obtain ⟨i, es', _, rfl, _, hB, hmr, _, _⟩ := hp.entries h5 hx
    obtain ⟨v', h7, h8⟩ := fin es' hmr
    refine ⟨v', ?_, h8⟩
    rw [← h7]
    simp only [Instr.lookup, Sem.run_bind, run_desc hT hd, Result.andThen_ok, Sem.run_pure, run_getObj_map hB]
    rfl

/-! ### maps that are written -/

/-- a map is written -/
theorem post_map {r : Nat} {es es2 : List MapEntry} {c c2 : Nat} {i : PI} {es2' : Array MapEntry} (hp : Pre σ (σ.setMap r es2 c2) π δ D H w) (ho : σ.obj r = some (.map es c)) (hi : π r = some i) (hro : i.ro = false) (horg : i.org = r) (hB : i.blk < w.heap.size)
    (hm : MapR π D es2 es2'.toList) (hes : i.esz = none) : Post σ (σ.setMap r es2 c2) π δ D H w (forget π r i.blk) (forgotten π r i.blk D) (putObj w i.blk (.map es2' c2)) := by
  have hlow : (σ.lower r) = min r σ.low := minN_eq _ _
  exact post_write (q := .map es2 c2) hp (rewrite_set σ r _ _) ho hi hro rfl rfl (by show σ.lower r ≤ σ.low; omega) (by show σ.lower r ≤ i.org; omega)
    (.other rfl (by simp [kindOf]) (.inl (by show σ.lower r ≤ r; omega))) rfl ⟨es2', putObj_same hB, hm.mono (forget_pstep π r i.blk D), hro, hes⟩ (.none hes)

theorem sameInts_eq : ∀ (a b : List Value), sameInts a b = true → a = b ∧ ∀ v ∈ a, ∃ k n, v = .int k n
  | [], [], _ => ⟨rfl, by simp⟩
  | [], _ :: _, h => by cases h
  | _ :: _, [], h => by cases h
  | x :: a, y :: b, h => by
    simp only [sameInts] at h
    split at h
    · rename_i p q h1 h2
      rw [Bool.and_eq_true, Bool.and_eq_true, sameKind_iff, eqQ_eq, beq_iff_eq] at h
      obtain ⟨⟨h3, h4⟩, h5⟩ := h
      obtain ⟨h6, h7⟩ := sameInts_eq a b h5
      obtain ⟨pk, pn⟩ := p
      obtain ⟨qk, qn⟩ := q
      simp only at h3 h4
      subst h3; subst h4
      rw [asI_eq h1, asI_eq h2, h6]
      exact ⟨rfl, fun v hv => by
        rcases List.mem_cons.1 hv with rfl | hv
        · exact ⟨_, _, rfl⟩
        · exact h7 v (h6 ▸ hv)⟩
    · cases h

theorem VRs.ints {l l' : List Value} (h : VRs π D l l') (hi : ∀ v ∈ l, ∃ k n, v = .int k n) : l' = l := by
  apply List.ext_getElem?
  intro j
  cases hj : l[j]? with
  | none => rw [List.getElem?_eq_none_iff] at hj ⊢; rw [← h.1]; exact hj
  | some v =>
    obtain ⟨v', h1, h2⟩ := h.get hj
    obtain ⟨k, n, rfl⟩ := hi v (List.mem_of_getElem? hj)
    rw [h1, h2.int_inv]

/-- the same key, on the model's side, and no question asked -/
theorem sim_sameKey {a b a' b' : Value} (h : sameKey a b = true) (ha : VR π D a a') (hb : VR π D b b') : a' = b' ∧ Instr.sameBits 10000 a' b' = true := by
  cases a <;> simp only [sameKey, Bool.false_eq_true] at h
  case int k n =>
    split at h
    · rename_i q h1
      obtain ⟨qk, qn⟩ := q
      rw [Bool.and_eq_true, sameKind_iff, eqQ_eq, beq_iff_eq] at h
      simp only at h
      obtain ⟨rfl, rfl⟩ := h
      obtain rfl := asI_eq h1
      rw [ha.int_inv, hb.int_inv]
      exact ⟨rfl, by simp [Instr.sameBits]⟩
    · cases h
  case string s =>
    split at h
    · rename_i q h1
      obtain ⟨s2, rfl, rfl⟩ := asS_eq h1
      rw [ha.string_inv, hb.string_inv]
      simp only [sameBytes, beq_iff_eq] at h
      have : s = s2 := by obtain ⟨⟨l⟩⟩ := s; obtain ⟨⟨l2⟩⟩ := s2; simp at h; subst h; rfl
      subst this
      exact ⟨rfl, by simp only [Instr.sameBits]; rw [beq_toListBytes]; simp⟩
    · cases h
  case bool b0 =>
    split at h
    · rename_i q h1
      obtain rfl := asB_eq h1
      rw [ha.bool_inv, hb.bool_inv]
      simp only [beq_iff_eq] at h
      subst h
      exact ⟨rfl, by simp [Instr.sameBits]⟩
    · cases h
  case agg cs =>
    split at h
    · rename_i q h1
      obtain rfl := asA_eq h1
      obtain ⟨h2, h3⟩ := sameInts_eq _ _ h
      obtain ⟨l⟩ := cs
      simp only at h2 h3
      subst h2
      obtain ⟨l1, rfl, h4, _⟩ := VRs.of_agg ha
      obtain ⟨l2, rfl, h5, _⟩ := VRs.of_agg hb
      rw [h4.ints h3, h5.ints h3]
      refine ⟨rfl, ?_⟩
      simp only [Instr.sameBits, BEq.rfl, Bool.true_and, List.all_eq_true]
      intro p hp
      obtain ⟨x, y⟩ := p
      have hxy : x = y ∧ x ∈ l := by
        obtain ⟨j, hj, he⟩ := List.getElem_of_mem hp
        rw [List.getElem_zip] at he
        simp only [Prod.mk.injEq] at he
        rw [← he.1, ← he.2]
        exact ⟨rfl, List.getElem_mem _⟩
      obtain ⟨rfl, hm⟩ := hxy
      obtain ⟨k, n, rfl⟩ := h3 x hm
      simp [Instr.sameBits]
    · cases h

theorem setEntry_get (x : Value) : ∀ (es : List MapEntry) (i j : Nat), (setEntry x es i)[j]? = if j = i then es[j]?.map fun e => { e with val := x } else es[j]?
  | [], i, j => by simp [setEntry]
  | e :: es, 0, j => by cases j <;> simp [setEntry]
  | e :: es, i + 1, j => by
    cases j with
    | zero => simp [setEntry]
    | succ j => simp only [setEntry, List.getElem?_cons_succ, setEntry_get x es i j, Nat.add_right_cancel_iff]
theorem setEntry_len (x : Value) : ∀ (es : List MapEntry) (i : Nat), (setEntry x es i).length = es.length
  | [], _ => rfl
  | _ :: _, 0 => rfl
  | _ :: es, i + 1 => by simp only [setEntry, List.length_cons, setEntry_len x es i]

theorem sim_update (hT : TyOk P T) {t : TypeId} {m k x m' k' x' : Value} (h : updateV T σ t m k x = some σ') (hm : VR π D m m') (hk : VR π D k k') (hx : VR π D x x') (hp : Pre σ σ' π δ D H w) : DoesU P σ σ' π δ D H w (Instr.mapUpdate t m' k' x') := by
  obtain ⟨key, elem, h1, e1⟩ := andThen2_eq h
  obtain ⟨ro, h2, e2⟩ := andThen_eq e1
  obtain ⟨r, h3, e3⟩ := andThen_eq e2
  obtain ⟨es, c, h4, e4⟩ := andThen2_eq e3
  obtain ⟨hit, h5, e5⟩ := andThen_eq e4
  obtain ⟨hd, d, hdk, hkd⟩ := mapType_eq h1
  obtain rfl := asM_eq h2
  subst h3
  obtain ⟨i, es', hi, rfl, ho, hB, hmr, hro, horg⟩ := hp.entries h4 hm
  have hes : i.esz = none := by
    obtain ⟨q, hq1, hq2⟩ := hp.rel.obj r i hi
    have hlt : r < σ.next := by
      rcases Nat.lt_or_ge r σ.next with h | h
      · exact h
      · rw [hp.wf r h] at ho; cases ho
    rw [show ext σ H r = σ.obj r from if_pos hlt, ho] at hq1
    cases hq1
    exact hq2.choose_spec.2.2.2
  rcases sim_findKey hT hdk hk hmr h5 w with ⟨rfl, h6⟩ | ⟨j, e, e', rfl, h6, h7, h8⟩
  · simp only [Option.some.injEq] at e5
    subst e5
    have hpost := post_map (es2' := es'.push { key := k', val := x', born := c }) hp ho hi hro horg (blk_lt hB) ⟨by simp [hmr.1], fun j a b ha hb => by
      rw [Array.toList_push] at hb
      by_cases hj : j < es.length
      · rw [List.getElem?_append_left hj] at ha
        rw [List.getElem?_append_left (by rw [← hmr.1]; exact hj)] at hb
        exact hmr.2 j a b ha hb
      · have hl := hmr.1
        rw [List.getElem?_append_right (by omega)] at ha hb
        rw [← hl] at hb
        have hj0 : j - es.length = 0 := by
          rcases Nat.eq_zero_or_pos (j - es.length) with h | h
          · exact h
          · rw [List.getElem?_eq_none (by simp; omega)] at ha; cases ha
        rw [hj0] at ha hb
        simp only [List.getElem?_cons_zero, Option.some.injEq] at ha hb
        subst ha; subst hb
        exact ⟨hk, hx, rfl⟩⟩ hes
    refine ⟨_, _, _, ?_, hpost⟩
    simp only [Instr.mapUpdate, Sem.run_bind, run_desc hT hd, Result.andThen_ok, run_getObj_map hB, sim_checkKey hT hdk hkd (keyFit_of h5) hk, h6, run_setObj_map hB]
  · obtain ⟨hsame, e6⟩ := iff_some (show iff (sameKey e.key k) (some (σ.setMap r (setEntry x es j) c)) none = some σ' from e5)
    simp only [Option.some.injEq] at e6
    subst e6
    have hent := hmr.2 j e e' h6 h7
    obtain ⟨hkk, hbits⟩ := sim_sameKey hsame hent.1 hk
    have hpost := post_map (es2' := es'.modify j fun e => { e with key := k', val := x' }) hp ho hi hro horg (blk_lt hB) ⟨by simp [setEntry_len, hmr.1], fun q a b ha hb => by
      rw [setEntry_get] at ha
      rw [Array.toList_modify, List.getElem?_modify] at hb
      by_cases hq : q = j
      · subst hq
        rw [if_pos rfl, h6] at ha
        rw [h7] at hb
        simp only [Option.map_some, if_true, Option.some.injEq, Option.map_eq_map] at ha hb
        subst ha; subst hb
        exact ⟨hkk ▸ hent.1, hx, hent.2.2⟩
      · rw [if_neg hq] at ha
        simp only [if_neg (Ne.symm hq), Option.map_eq_map, Option.map_id_fun', id] at hb
        exact hmr.2 q a b ha hb⟩ hes
    refine ⟨_, _, _, ?_, hpost⟩
    have h7' : es'[j]? = some e' := by rw [← Array.getElem?_toList]; exact h7
    simp only [Instr.mapUpdate, Sem.run_bind, run_desc hT hd, Result.andThen_ok, run_getObj_map hB, sim_checkKey hT hdk hkd (keyFit_of h5) hk, h8, Instr.keyThatStays, h7', Option.map_some, Option.getD_some, hbits, if_true, Sem.run_pure, run_setObj_map hB]

theorem sim_delete (hT : TyOk P T) {t ty : TypeId} {m k m' k' : Value} {tys : Array TypeId} {args : Array Value} (h : deleteV T σ t m k = some σ') (hm : VR π D m m') (hk : VR π D k k') (ht : tys[0]? = some t) (ha0 : args[0]? = some m') (ha1 : args[1]? = some k') (hp : Pre σ σ' π δ D H w) :
    Does P σ σ' π δ D H w (.tuple #[]) (Builtin.delete_ tys ty args) := by
  obtain ⟨key, elem, h1, e1⟩ := andThen2_eq h
  obtain ⟨ro, h2, e2⟩ := andThen_eq e1
  obtain ⟨r, h3, e3⟩ := andThen_eq e2
  obtain ⟨es, c, h4, e4⟩ := andThen2_eq e3
  obtain ⟨hit, h5, e5⟩ := andThen_eq e4
  obtain ⟨hd, d, hdk, hkd⟩ := mapType_eq h1
  obtain rfl := asM_eq h2
  subst h3
  obtain ⟨i, es', hi, rfl, ho, hB, hmr, hro, horg⟩ := hp.entries h4 hm
  have hes : i.esz = none := by
    obtain ⟨q, hq1, hq2⟩ := hp.rel.obj r i hi
    have hlt : r < σ.next := by
      rcases Nat.lt_or_ge r σ.next with h | h
      · exact h
      · rw [hp.wf r h] at ho; cases ho
    rw [show ext σ H r = σ.obj r from if_pos hlt, ho] at hq1
    cases hq1
    exact hq2.choose_spec.2.2.2
  rcases sim_findKey hT hdk hk hmr h5 w with ⟨rfl, h6⟩ | ⟨j, e, e', rfl, h6, h7, h8⟩
  · simp only [Option.some.injEq] at e5
    subst e5
    have hpost := post_map (es2' := es') hp ho hi hro horg (blk_lt hB) hmr hes
    refine ⟨_, _, _, _, ?_, VRs.tuple rfl .nil, hpost⟩
    simp only [Builtin.delete_, ht, ha0, ha1, Sem.run_bind, run_desc hT hd, Result.andThen_ok, run_getObj_map hB, sim_checkKey hT hdk hkd (keyFit_of h5) hk, h6, run_setObj_map hB, Sem.run_pure]
  · simp only [Option.some.injEq] at e5
    subst e5
    have hj : j < es'.size := (List.getElem?_eq_some_iff.1 h7).1
    have this : (es'.eraseIdxIfInBounds j).toList = es'.toList.eraseIdx j := by
      simp [Array.eraseIdxIfInBounds, hj]
    have hpost := post_map (es2' := es'.eraseIdxIfInBounds j) hp ho hi hro horg (blk_lt hB) ⟨by
      have hl := hmr.1
      rw [this, List.length_eraseIdx, List.length_eraseIdx, hl], fun q a b ha hb => by
      rw [this, List.getElem?_eraseIdx] at hb
      rw [List.getElem?_eraseIdx] at ha
      by_cases hq : q < j
      · rw [if_pos hq] at ha hb; exact hmr.2 q a b ha hb
      · rw [if_neg hq] at ha hb; exact hmr.2 (q + 1) a b ha hb⟩ hes
    refine ⟨_, _, _, _, ?_, VRs.tuple rfl .nil, hpost⟩
    simp only [Builtin.delete_, ht, ha0, ha1, Sem.run_bind, run_desc hT hd, Result.andThen_ok, run_getObj_map hB, sim_checkKey hT hdk hkd (keyFit_of h5) hk, h8, run_setObj_map hB, Sem.run_pure]
end
end Go.Abs

/- THE ABSTRACT MACHINE's OPERATIONS, ONE BY ONE, HELD AGAINST THE MODEL's: append and copy, bytes and strings. -/
namespace Go.Abs

section
variable {P : Program} {T : Tab} {σ σ' : ASt} {π : PMap} {δ D : Nat → Prop} {H : Nat → Option AObj} {w : World}

theorem Pre.drew (hp : Pre σ σ' π δ D H w) : Pre σ σ' π δ D H w.drew := { hp with rel := hp.rel.drew }
theorem Post.drew {π' : PMap} {D' : Nat → Prop} {w' : World} (h : Post σ σ' π δ D H w.drew π' D' w') : Post σ σ' π δ D H w π' D' w' :=
  { h with blk := h.blk, fr := ⟨h.fr.os, h.fr.tape, h.fr.output, h.fr.size, h.fr.keep⟩ }

theorem slice_room {a : Addr} {n c : Nat} {v' : Value} (h : VR π D (.slice (some a) n c) v') (hc : 0 < c) : ∃ a' c', v' = .slice (some a') n c' ∧ c ≤ c' ∧ AR π D ⟨a.block, a.off, none⟩ a' := by
  cases h with
  | sl n c hn hs ha =>
    obtain ⟨b, o, s⟩ := a
    simp only at hs; subst hs
    exact ⟨_, _, rfl, Nat.le_refl _, ha⟩
  | slz => omega
  | slo n c c' hn hs ha =>
    obtain ⟨h1, h2, h3⟩ := ha
    refine ⟨_, _, rfl, h2, h1, ?_⟩
    rcases h3 with ⟨i, h4, h5, h6, h7⟩ | h3
    · rcases h7 with ⟨h7, _⟩ | ⟨_, h7, _⟩
      · exact .inl ⟨i, h4, h5, h7⟩
      · omega
    · exact .inr h3

theorem byteCells_eq (l : List UInt8) : byteCells l = l.map fun b => Value.int .u8 (b.toNat : Int) := mapQ_eq _ _
theorem byteCells_one (l : List UInt8) : ∀ v ∈ byteCells l, oneA v = true := by
  intro v hv
  rw [byteCells_eq] at hv
  obtain ⟨b, _, rfl⟩ := List.mem_map.1 hv
  rfl
theorem byteCells_VRs (l : List UInt8) : VRs π D (byteCells l) (byteCells l) := by
  rw [byteCells_eq]
  exact VRs.mapped l fun _ _ => .int _ _

theorem sim_firstA (hp : Pre σ σ' π δ D H w) {a : Option Addr} {len cap m : Nat} {x' : Value} {r : List Value} (h : firstA σ m a = some r) (hx : VR π D (.slice a len cap) x') (hm : 0 < m → 0 < cap) :
    ∃ a' cap', x' = .slice a' len cap' ∧ cap ≤ cap' ∧ (a = none ↔ a' = none) ∧ ∃ r', (match a' with | some a => loadCells a m | none => pure #[] : Sem (Array Value)).run P w = .ok ⟨r'⟩ w ∧ VRs π D r r' ∧ (∀ v ∈ r, oneA v = true) ∧ r.length = m := by
  cases a with
  | none =>
    obtain rfl := hx.sl_none
    obtain ⟨h0, h1⟩ := iff_some (show iff (isZ m) (some []) none = some r from h)
    rw [Tr.isZ_iff] at h0
    subst h0
    cases h1
    exact ⟨none, cap, rfl, Nat.le_refl _, by simp, [], rfl, .nil, by simp, rfl⟩
  | some a =>
    have h' : σ.cellsAt a.block a.off m = some r := h
    by_cases h0 : m = 0
    · subst h0
      obtain ⟨a', c', rfl⟩ := hx.sl_some
      have hr : r = [] := by
        obtain ⟨c, _, e1⟩ := andThen_eq h'
        obtain ⟨_, rfl⟩ := sub_eq e1
        simp
      subst hr
      have hcc : cap ≤ c' := by
        cases hx with
        | sl => exact Nat.le_refl _
        | slz => exact Nat.le_refl _
        | slo n c c' hn hs ha => exact ha.2.1
      exact ⟨some a', c', rfl, hcc, by simp, [], by simp [loadCells, loadCellsFrom], .nil, by simp, rfl⟩
    · obtain ⟨a', c', rfl, hcc, ha⟩ := slice_room hx (hm (by omega))
      obtain ⟨r', h1, h2, h3⟩ := sim_cells (P := P) hp h' ha
      exact ⟨some a', c', rfl, hcc, by simp, r', h1, h2, h3⟩

theorem extract_bytes (l : List UInt8) (n : Nat) : (((ByteArray.mk ⟨l⟩).extract 0 n).data.map fun b => Value.int .u8 (b.toNat : Int)) = ⟨byteCells (l.take n)⟩ := by
  rw [run_substr]
  simp [byteCells_eq]

theorem sim_first (hp : Pre σ σ' π δ D H w) {z n len : Nat} {x x' : Value} {r : List Value} (h : firstV σ z n x = some r) (hx : VR π D x x') (hl : lenV x = some len) (hn : n ≤ len) :
    (Builtin.lenOf x').run P w = .ok len w ∧ ∃ r', (Builtin.firstCells z n x').run P w = .ok ⟨r'⟩ w ∧ VRs π D r r' ∧ (∀ v ∈ r, oneA v = true) := by
  cases x <;> simp only [lenV, reduceCtorEq, Option.some.injEq] at hl
  case string s =>
    obtain rfl := hx.string_inv
    cases (show some (byteCells (s.data.toList.take n)) = some r from h)
    obtain ⟨⟨l⟩⟩ := s
    rw [lenQ_eq] at hl
    subst hl
    refine ⟨rfl, byteCells (l.take n), ?_, byteCells_VRs _, byteCells_one _⟩
    simp only [Builtin.firstCells, Sem.run_pure, extract_bytes]
  case slice a n0 c =>
    subst hl
    have hle := hx.sl_le
    obtain ⟨a', c', rfl, _, hnone, r', h1, h2, h3, _⟩ := sim_firstA (P := P) hp (m := n * z) (show firstA σ (n * z) a = some r from h) hx (fun h => by
      rcases Nat.eq_zero_or_pos n with h0 | h0
      · rw [h0] at h; simp at h
      · omega)
    refine ⟨rfl, r', ?_, h2, h3⟩
    cases a' with
    | none => exact h1
    | some a' => exact h1
  case tuple vs =>
    obtain ⟨rows, h1, h2⟩ := andThen_eq hl
    obtain ⟨rows2, h3, h4⟩ := andThen_eq (show andThen (datL vs.toList) (fun rows => andThen (takeO n rows) fun r => rowsCells z r) = some r from h)
    rw [h1] at h3
    cases h3
    obtain ⟨rs, h5, h6⟩ := andThen_eq h4
    obtain ⟨h7, rfl⟩ := takeO_eq n h5
    rw [datL_eq h1] at hx
    rw [lenQ_eq] at h2
    cases h2
    rcases hx.dat_inv with ⟨rfl, c, rfl⟩ | ⟨cs, cs', z2, c', a', rfl, hr, hc, hf, ho, hv, _⟩
    · simp at h6
      cases (show some [] = some r from h6)
      simp only [List.length_nil, Nat.le_zero_eq] at hn
      subst hn
      exact ⟨rfl, [], by simp [Builtin.firstCells], .nil, by simp⟩
    · refine ⟨rfl, ?_⟩
      by_cases hn0 : n = 0
      · subst hn0
        cases (show some [] = some r from h6)
        exact ⟨[], by simp [Builtin.firstCells, loadCells, loadCellsFrom], .nil, by simp⟩
      · rcases hf with rfl | ⟨hs, cc, hf, hw⟩
        · simp at h7; omega
        have hp2 := rowsCells_part 0 n hr
        rw [Nat.zero_mul, List.drop_zero, List.drop_zero] at hp2
        have hz : z2 = z := by
          cases rows with
          | nil => simp at h7; omega
          | cons r0 rows =>
            obtain ⟨m, rfl⟩ : ∃ m, n = m + 1 := ⟨n - 1, by omega⟩
            obtain ⟨c1, _, g1, g2, _⟩ := rowsCells_cons (show rowsCells z (r0 :: rows.take m) = some r from h6)
            obtain ⟨c2, _, g3, g4, _⟩ := rowsCells_cons hr
            rw [g1] at g3
            cases g3
            omega
        subst hz
        rw [h6] at hp2
        cases hp2
        obtain ⟨b, x, sp⟩ := a'
        simp only at hs
        subst hs
        simp only at hf
        obtain ⟨hw1, hw2⟩ := hw
        simp only at hw1 hw2
        obtain ⟨elem, fz, hB⟩ := hp.rel.frz b cc hf
        have hlen := rowsCells_len hr
        have hl := hv.1
        have hle : n * z2 ≤ cs'.length := by rw [← hl, hlen]; exact Nat.mul_le_mul_right _ hn
        refine ⟨cs'.take (n * z2), ?_, hv.take _, fun u hu => ho u (List.mem_of_mem_take hu)⟩
        simp only [Builtin.firstCells]
        rw [run_loadCells hB (by show x + n * z2 ≤ cc.length; omega)]
        congr 2
        show (cc.drop x).take (n * z2) = _
        rw [← hw2, List.take_take]
        congr 1; omega

/-- cells that are laid into a slice -/
theorem sim_storeS (hp : Pre σ σ' π δ D H w) {a : Option Addr} {len cap off : Nat} {x' v : Value} {cs cs' : List Value} {v0 : Value} (h : storeS σ cs off v0 a = some (v, σ')) (hx : VR π D (.slice a len cap) x') (hc : VRs π D cs cs') (h1 : ∀ u ∈ cs, oneA u = true) (hcap : cs ≠ [] → 0 < cap) :
    v = v0 ∧ ∃ a' c', x' = .slice a' len c' ∧ ∃ π' D' w', (match a' with | some a => storeCells (a.add off) cs' | none => pure () : Sem Unit).run P w = .ok () w' ∧ Post σ σ' π δ D H w π' D' w' := by
  cases a with
  | none =>
    obtain rfl := hx.sl_none
    cases (show some (v0, σ) = some (v, σ') from h)
    exact ⟨rfl, none, cap, rfl, π, D, w, rfl, .refl hp⟩
  | some a =>
    have h' : iff (isZ (lenQ cs)) (some (v0, σ)) (andThen (σ.setAt a.block (Nat.add a.off off) cs) fun σ' => some (v0, σ')) = some (v, σ') := h
    rw [iff_eq] at h'
    by_cases h0 : cs = []
    · subst h0
      cases (show some (v0, σ) = some (v, σ') from h')
      have : cs' = [] := List.eq_nil_of_length_eq_zero hc.1.symm
      subst this
      obtain ⟨a', c', rfl⟩ := hx.sl_some
      exact ⟨rfl, some a', c', rfl, π, D, w, rfl, .refl hp⟩
    · have hz : ¬ (isZ (lenQ cs) = true) := by
        rw [Tr.isZ_iff, lenQ_eq]
        exact fun h => h0 (List.eq_nil_of_length_eq_zero h)
      rw [if_neg hz] at h'
      obtain ⟨σ1, h2, h3⟩ := andThen_eq h'
      cases h3
      obtain ⟨a', c', rfl, _, ha⟩ := slice_room hx (hcap h0)
      obtain ⟨π', D', w', h4, h5⟩ := post_set (P := P) hp h2 (ha.shift off) hc h1 (oneCells hc h1)
      exact ⟨rfl, some a', c', rfl, π', D', w', h4, h5⟩

theorem minN_nat (a b : Nat) : minN a b = Nat.min a b := minN_eq a b

theorem sim_copy (hT : TyOk P T) {t ty : TypeId} {d src d' src' v : Value} {tys : Array TypeId} {args : Array Value} (h : copyV T t d src σ = some (v, σ')) (hd : VR π D d d') (hs : VR π D src src') (ht : tys[0]? = some t) (ha0 : args[0]? = some d') (ha1 : args[1]? = some src') (hp : Pre σ σ' π δ D H w) :
    Does P σ σ' π δ D H w v (Builtin.copy_ tys ty args) := by
  obtain ⟨dd, h1, e1⟩ := andThen_eq h
  obtain ⟨e, h2, e2⟩ := andThen_eq e1
  obtain ⟨z, h3, e3⟩ := andThen_eq e2
  obtain ⟨base, dLen, cap, h4, e4⟩ := andThen3_eq e3
  obtain ⟨sLen, h5, e5⟩ := andThen_eq e4
  obtain ⟨cs, h6, e6⟩ := andThen_eq e5
  obtain rfl := sliceElem_eq h2
  obtain rfl := asSl_eq h4
  rw [minN_nat] at h6 e6
  have hle := hd.sl_le
  obtain ⟨hlen, r', h7, h8, h9⟩ := sim_first (P := P) hp h6 hs h5 (Nat.min_le_left _ _)
  have hcap : cs ≠ [] → 0 < cap := by
    intro hne
    rcases Nat.eq_zero_or_pos cap with h0 | h0
    · exfalso
      have hd0 : dLen = 0 := by omega
      apply hne
      subst hd0
      rw [show Nat.min sLen 0 = 0 from Nat.min_zero _] at h6
      cases src <;> simp only [firstV, reduceCtorEq] at h6
      case tuple vs =>
        obtain ⟨rows, _, h7⟩ := andThen_eq h6
        cases (show some [] = some cs from h7)
        rfl
      case string s => simp [byteCells_eq] at h6; exact h6
      case slice a n c =>
        cases a with
        | none =>
          obtain ⟨_, h7⟩ := iff_some (show iff (isZ (Nat.mul 0 z)) (some []) none = some cs from h6)
          cases h7; rfl
        | some a =>
          obtain ⟨c, _, e1⟩ := andThen_eq (show andThen (σ.row a.block) (fun c => sub c a.off (Nat.mul 0 z)) = some cs from h6)
          obtain ⟨_, rfl⟩ := sub_eq e1
          rw [show Nat.mul 0 z = 0 from Nat.zero_mul _]
          simp
    · exact h0
  obtain ⟨rfl, a', c', rfl, π', D', w', h10, h11⟩ := sim_storeS (P := P) hp e6 hd h8 h9 hcap
  refine ⟨.int .i64 (Int.ofNat (Nat.min sLen dLen)), π', D', w', ?_, .int _ _, h11⟩
  simp only [Builtin.copy_, ht, ha0, ha1, Sem.run_bind, run_desc hT h1, Result.andThen_ok, hlen, run_size' hT h3, h7]
  cases a' with
  | none => simp only [Sem.run_pure] at h10 ⊢; cases h10; rfl
  | some a' =>
    have hz : a'.add 0 = a' := by simp [Addr.add]
    simp only [hz] at h10
    simp only [Sem.run_bind, h10, Result.andThen_ok, Sem.run_pure]
    rfl

theorem sim_clear (hT : TyOk P T) {t ty : TypeId} {x x' v : Value} {tys : Array TypeId} {args : Array Value} (h : clearV T t x σ = some (v, σ')) (hx : VR π D x x') (ht : tys[0]? = some t) (ha0 : args[0]? = some x') (hp : Pre σ σ' π δ D H w) :
    Does P σ σ' π δ D H w v (Builtin.clear_ tys ty args) := by
  obtain ⟨d, h1, e1⟩ := andThen_eq h
  obtain ⟨e, h2, e2⟩ := andThen_eq e1
  obtain ⟨i, hi, e3⟩ := andThen_eq e2
  obtain ⟨z, hz, e4⟩ := andThen_eq e3
  obtain ⟨base, len, cap, h4, e5⟩ := andThen3_eq e4
  obtain ⟨hle, e6⟩ := iff_some e5
  obtain rfl := sliceElem_eq h2
  obtain rfl := asSl_eq h4
  rw [ble_iff] at hle
  obtain ⟨zv, g1, _, g3, g4, g5⟩ := zcells_eq hT hi hz
  have hzl := (g5 π D).1
  have hzs : zv.cells.toList.length = zv.cells.size := rfl
  have hrow : VRs π D (zeros z len) (Builtin.zeroCells zv.cells len).toList := by
    rw [zeros_eq]
    unfold Builtin.zeroCells
    rw [rep_range zv.cells len]
    exact (g5 π D).flatten_replicate len
  have hcap : zeros z len ≠ [] → 0 < cap := fun hne => by
    rcases Nat.eq_zero_or_pos cap with h0 | h0
    · exfalso
      apply hne
      have : len = 0 := by omega
      subst this
      rfl
    · exact h0
  obtain ⟨rfl, a', c', rfl, π', D', w', h10, h11⟩ := sim_storeS (P := P) hp e6 hx hrow (zeros_mem g4) hcap
  refine ⟨.tuple #[], π', D', w', ?_, VRs.tuple rfl .nil, h11⟩
  have hu := und_desc hT h1
  simp only [Builtin.clear_, ht, ha0, Sem.run_bind, run_underlying hu, Result.andThen_ok]
  cases a' with
  | none => simp only [Sem.run_pure] at h10 ⊢; cases h10; rfl
  | some a' =>
    have hz0 : a'.add 0 = a' := by simp [Addr.add]
    simp only [hz0] at h10
    cases len with
    | zero =>
      have hnil : (Builtin.zeroCells zv.cells 0).toList = [] := by
        unfold Builtin.zeroCells
        rw [rep_range zv.cells 0]; rfl
      rw [hnil] at h10
      have h10 : (.ok () w : Result Unit) = .ok () w' := h10
      cases h10
      rfl
    | succ n =>
      simp only [Sem.run_bind, run_zero hT hi g1, h10, Result.andThen_ok, Sem.run_pure]

/-! ### growth -/

theorem kill_eq {k n z org : Nat} (h : σ.kill k n = some (z, org, σ')) : ∃ c, σ.obj k = some (.cells c (some z) org false false) ∧ c.length = n ∧ σ' = ⟨σ.heap.set k (.cells c (some z) org false true), σ.next, σ.low, min k σ.klow⟩ := by
  obtain ⟨c, e, org', h1, h2⟩ := andThen3_eq h
  obtain ⟨o, h3, h4⟩ := andThen_eq h1
  obtain ⟨h5, h6⟩ := iff_some h2
  obtain ⟨z', h7, h8⟩ := andThen_eq h6
  rw [beq_iff, lenQ_eq] at h5
  rw [rowsOf_eq h4] at h3
  simp only [Option.some.injEq, Prod.mk.injEq] at h8
  obtain ⟨rfl, rfl, rfl⟩ := h8
  subst h7
  exact ⟨c, h3, h5, by rw [minN_eq]⟩

theorem obj_lt (hw : WF σ) {k : Nat} {o : AObj} (h : σ.obj k = some o) : k < σ.next := by
  rcases Nat.lt_or_ge k σ.next with h' | h'
  · exact h'
  · rw [hw k h'] at h; cases h

/-- **a block ends** -/
theorem post_kill {k z org : Nat} {c : List Value} (hp : Pre σ ⟨σ.heap.set k (.cells c (some z) org false true), σ.next, σ.low, min k σ.klow⟩ π δ D H w) (ho : σ.obj k = some (.cells c (some z) org false false)) (hkn : (∃ i, π k = some i) ∨ (π k = none ∧ D k)) :
    Post σ ⟨σ.heap.set k (.cells c (some z) org false true), σ.next, σ.low, min k σ.klow⟩ π δ D H w π D w := by
  have hk := obj_lt hp.wf ho
  have hobj : ∀ j, (ASt.mk (σ.heap.set k (.cells c (some z) org false true)) σ.next σ.low (min k σ.klow)).obj j = if j = k then some (.cells c (some z) org false true) else σ.obj j := fun j => by
    show (σ.heap.set k _).get j = _
    rw [Tr.get_set]; rfl
  refine ⟨⟨Nat.le_refl _, Nat.le_refl _, Nat.min_le_right _ _, fun hw j hj => ?_, fun j _ => ?_⟩, ⟨fun j i hj => ?_, hp.rel.kin, hp.rel.frz, hp.rel.fro, (hp.rel.weaken fun _ h => .inl h).sep, hp.rel.typ⟩, fun _ _ h => .inl h, fun _ _ h => .inl h, fun _ h => h, fun _ h => .inl h, fun j hj h1 h2 => ?_,
    fun j i h => .inr ⟨j, i, h, rfl⟩, fun j i h hr => .inl ⟨j, i, h, hr, rfl⟩, FrStep.same rfl, .refl π w⟩
  · rw [hobj, if_neg (by have : σ.next ≤ j := hj; omega)]; exact hw j hj
  · rw [hobj]
    by_cases e : j = k
    · subst e
      rw [if_pos rfl, ho]
      exact .cells rfl (fun h => by cases h) (fun h => by cases h) (.inr rfl) (.inl (Nat.min_le_left _ _))
    · rw [if_neg e]; exact .refl _ _ _ _
  · obtain ⟨o, h1, h2⟩ := hp.rel.obj j i hj
    unfold ext at h1 ⊢
    have hnx : (ASt.mk (σ.heap.set k (.cells c (some z) org false true)) σ.next σ.low (min k σ.klow)).next = σ.next := rfl
    rw [hnx, hobj]
    by_cases e : j = k
    · subst e
      rw [if_pos hk, ho] at h1
      rw [if_pos hk, if_pos rfl]
      cases h1
      exact ⟨_, rfl, h2⟩
    · rw [if_neg e]
      exact ⟨o, h1, h2⟩
  · by_cases e : j = k
    · subst e
      obtain ⟨i, hi, _⟩ := hp.here ho rfl hkn
      exact ⟨i, hi⟩
    · exfalso
      obtain ⟨q, h3, h4⟩ := h1
      rw [hobj, if_neg e] at h3
      exact h2 ⟨q, h3, h4⟩

theorem put1_window {cc : Array Value} {x a n : Nat} {vs : List Value} (h : a + n ≤ x) (hx : x + vs.length ≤ cc.size) : ((put1 cc x vs).toList.drop a).take n = (cc.toList.drop a).take n := by
  have hsz : cc.toList.length = cc.size := rfl
  apply List.ext_getElem?
  intro j
  simp only [put1, List.getElem?_take, List.getElem?_drop, List.getElem?_append, List.length_append, List.length_take]
  by_cases hj : j < n
  · rw [if_pos hj, if_pos hj, if_pos (by omega), if_pos (by omega), if_pos (by omega)]
  · rw [if_neg hj, if_neg hj]

/-- **a block grows where it lies** -/
theorem post_grow {k z x sh e : Nat} {c : List Value} {i : PI} {cc : Array Value} {elem : TypeId} {fz : Nat × Nat} {vs' : List Value} (hp : Pre σ (σ.new (.cells c (some z) i.org false false)) π δ D H w) (hi : π k = some i) (hk : k < σ.next)
    (hall : ∀ j i₂, π j = some i₂ → i₂.blk = i.blk → i₂.ro = false ∧ i₂.org = i.org ∧ δ j ∧ i₂.sh + i₂.len ≤ x) (hB : w.heap[i.blk]? = some (.cells cc elem fz)) (hsz : cc.size = i.bsize) (hx : x + vs'.length ≤ cc.size)
    (hend : sh + c.length = x + vs'.length) (h1 : ∀ v ∈ c, oneA v = true) (hv : VRs π D c (((put1 cc x vs').toList.drop sh).take c.length)) (hfz : ∀ y, y < i.bsize → ¬ (fz.1 ≤ y ∧ y < fz.2)) (hro : i.ro = false) (hz : ∀ c, typedQ (some z) = some c → odd c = true ∧ half c = e) (hie : i.esz = some z) :
    Post σ (σ.new (.cells c (some z) i.org false false)) π δ D H w ⟨fun j => if j = σ.next then some ⟨i.blk, sh, i.bsize, some z, i.org, false, c.length⟩ else π j, π.fr⟩ D (putObj w i.blk (.cells (put1 cc x vs') elem fz)) := by
  have hn : π σ.next = none := hp.fresh _ (Nat.le_refl _) (Nat.lt_succ_self _)
  have hblt := blk_lt hB
  have hkin := (hp.rel.kin k i hi).1
  have hs : PStep π D ⟨fun j => if j = σ.next then some ⟨i.blk, sh, i.bsize, some z, i.org, false, c.length⟩ else π j, π.fr⟩ D := ⟨fun j i₂ hj => .inl (by
    show (if j = σ.next then _ else π j) = some i₂
    rw [if_neg (fun e => by rw [e, hn] at hj; cases hj)]; exact hj), fun j hj hd => ⟨by
    show (if j = σ.next then _ else π j) = none
    rw [if_neg (fun e => by
      rcases hp.dead j hd with h | h
      · have := deadIn_lt hp.wf h; omega
      · rw [next_new] at h; omega)]; exact hj, hd⟩, fun _ _ h => h⟩
  refine ⟨mono_new σ _, ⟨fun j i₂ hj => ?_, fun j i₂ hj => ?_, fun B cc2 hf => ?_, fun j i₂ hj hro2 => ?_, fun k₁ k₂ i₁ i₂ hne h2 h3 hbb => ?_, fun j i₂ hj => ?_⟩, fun j i₂ hj => ?_, fun j i₂ hj => .inl ?_, fun _ h => h, fun _ h => .inl h, fun j hj h1 h2 => absurd (dead_new (by omega) h1) h2, fun j i₂ hj => ?_, fun j i₂ hj hro2 => ?_, FrStep.same rfl,
    ⟨rfl, rfl, rfl, by simp [putObj], fun B hB2 hu => putObj_other fun e => hu k i hi hro e.symm⟩⟩
  · rw [ext_new]
    have hj' : (if j = σ.next then some ⟨i.blk, sh, i.bsize, some z, i.org, false, c.length⟩ else π j) = some i₂ := hj
    by_cases he : j = σ.next
    · rw [if_pos he] at hj' ⊢
      cases hj'
      refine ⟨_, rfl, put1 cc x vs', elem, fz, putObj_same hblt, ?_, ?_, h1, hv.mono hs, fun _ => hfz, rfl, rfl, rfl, rfl⟩
      · rw [put1_size hx]; exact hsz
      · show sh + c.length ≤ i.bsize
        omega
    · rw [if_neg he] at hj' ⊢
      obtain ⟨q, h2, h3⟩ := hp.rel.obj j i₂ hj'
      refine ⟨q, h2, ?_⟩
      by_cases hb : i₂.blk = i.blk
      · obtain ⟨h4, h5, h6, h7⟩ := hall j i₂ hj' hb
        cases q with
        | cells c2 e2 org2 ro2 d2 =>
          obtain ⟨cc2, elem2, fz2, g1, g2, g3, g4, g5, g6, g7, g8, g9, g10⟩ := h3
          rw [hb, hB] at g1
          cases g1
          refine ⟨put1 cc x vs', elem, fz, by rw [hb]; exact putObj_same hblt, ?_, g3, g4, ?_, g6, g7, g8, g9, g10⟩
          · rw [put1_size hx]; exact g2
          · rw [put1_window (by omega) hx]
            exact g5.mono hs
        | map es2 c2 => obtain ⟨es', g1, _⟩ := h3; rw [hb, hB] at g1; cases g1
        | iter s2 p2 => have g1 := h3.1; rw [hb, hB] at g1; cases g1
      · exact h3.mono hs (by rw [putObj_other hb])
  · have hj' : (if j = σ.next then some ⟨i.blk, sh, i.bsize, some z, i.org, false, c.length⟩ else π j) = some i₂ := hj
    split at hj'
    · rename_i he; cases hj'; exact ⟨by show i.org ≤ j; omega, fun h => by cases h⟩
    · exact hp.rel.kin j i₂ hj'
  · obtain ⟨el, fz2, g1⟩ := hp.rel.frz B cc2 hf
    exact ⟨el, fz2, by rw [putObj_other (fun e => by
      have h3 := hp.rel.fro k i hi hro
      subst e
      rw [show π.fr i.blk = some cc2 from hf] at h3; cases h3)]; exact g1⟩
  · have hj' : (if j = σ.next then some ⟨i.blk, sh, i.bsize, some z, i.org, false, c.length⟩ else π j) = some i₂ := hj
    split at hj'
    · cases hj'; exact hp.rel.fro k i hi hro
    · exact hp.rel.fro j i₂ hj' hro2
  · have h2' : (if k₁ = σ.next then some ⟨i.blk, sh, i.bsize, some z, i.org, false, c.length⟩ else π k₁) = some i₁ := h2
    have h3' : (if k₂ = σ.next then some ⟨i.blk, sh, i.bsize, some z, i.org, false, c.length⟩ else π k₂) = some i₂ := h3
    by_cases e1 : k₁ = σ.next
    · rw [if_pos e1] at h2'
      rw [if_neg (by omega)] at h3'
      cases h2'
      obtain ⟨h4, h5, h6, h7⟩ := hall k₂ i₂ h3' hbb.symm
      exact .inr ⟨rfl, h4, h5.symm, .inr ⟨.inl h6, by show i₂.sh + i₂.len ≤ sh + c.length; omega⟩⟩
    · rw [if_neg e1] at h2'
      by_cases e2 : k₂ = σ.next
      · rw [if_pos e2] at h3'
        cases h3'
        obtain ⟨h4, h5, h6, h7⟩ := hall k₁ i₁ h2' hbb
        exact .inr ⟨h4, rfl, h5, .inl ⟨.inl h6, by show i₁.sh + i₁.len ≤ sh + c.length; omega⟩⟩
      · rw [if_neg e2] at h3'
        rcases hp.rel.sep k₁ k₂ i₁ i₂ hne h2' h3' hbb with h4 | ⟨h4, h5, h6, h7⟩
        · exact .inl h4
        · exact .inr ⟨h4, h5, h6, h7.imp (fun h => ⟨.inl h.1, h.2⟩) (fun h => ⟨.inl h.1, h.2⟩)⟩
  · have hj' : (if j = σ.next then some ⟨i.blk, sh, i.bsize, some z, i.org, false, c.length⟩ else π j) = some i₂ := hj
    split at hj'
    · cases hj'
      intro t _ ht
      obtain ⟨c3, f3, g1, g2⟩ := hp.rel.typ k i hi t hro (by rw [hie]; exact ht)
      rw [hB] at g1; cases g1
      exact ⟨_, _, putObj_same hblt, fun h => by rw [(hz t ht).1] at h; cases h⟩
    · by_cases hb : i₂.blk = i.blk
      · intro t hrr ht
        obtain ⟨c3, f3, g1, g2⟩ := hp.rel.typ j i₂ hj' t hrr ht
        rw [hb, hB] at g1; cases g1
        exact ⟨_, _, by rw [hb]; exact putObj_same hblt, g2⟩
      · exact (hp.rel.typ j i₂ hj').world (putObj_other hb)
  · have hj' : (if j = σ.next then some ⟨i.blk, sh, i.bsize, some z, i.org, false, c.length⟩ else π j) = some i₂ := hj
    split at hj'
    · rename_i he; subst he; exact .inr ⟨hn, Nat.le_refl _, Nat.lt_succ_self _⟩
    · exact .inl hj'
  · show (if j = σ.next then _ else π j) = some i₂
    rw [if_neg (fun e => by rw [e, hn] at hj; cases hj)]; exact hj
  · have hj' : (if j = σ.next then some ⟨i.blk, sh, i.bsize, some z, i.org, false, c.length⟩ else π j) = some i₂ := hj
    split at hj'
    · cases hj'; exact .inr ⟨k, i, hi, rfl⟩
    · exact .inr ⟨j, i₂, hj', rfl⟩
  · have hj' : (if j = σ.next then some ⟨i.blk, sh, i.bsize, some z, i.org, false, c.length⟩ else π j) = some i₂ := hj
    split at hj'
    · cases hj'; exact .inl ⟨k, i, hi, hro, rfl⟩
    · exact .inl ⟨j, i₂, hj', hro2, rfl⟩

theorem openSlice_eq {need z y org : Nat} {cs : List Value} {v : Value} (h : openSlice σ need cs z y org = some (v, σ')) : v = .slice (some ⟨σ.next, 0, some z⟩) need need ∧ σ' = σ.new (.cells cs (some y) org false false) := by
  simp only [openSlice, Option.some.injEq, Prod.mk.injEq] at h
  exact ⟨h.1.symm, h.2.symm⟩

/-- **a new row with room behind it** -/
theorem post_room {need cap z y org : Nat} {cs cs' rest : List Value} {cc : Array Value} {elem : TypeId} (fz : Nat × Nat) (hfz : ∀ y, y < cc.size → ¬ (fz.1 ≤ y ∧ y < fz.2)) (hp : Pre σ (σ.new (.cells cs (some y) org false false)) π δ D H w) (hc : VRs π D cs cs') (h1 : ∀ v ∈ cs, oneA v = true) (hcc : cc.toList = cs' ++ rest)
    (hsz : cc.size = cap * z) (hn : need ≤ cap) (horg : org ≤ σ.next) (hkin : org = σ.next ∨ ∃ k₀ i₀, π k₀ = some i₀ ∧ i₀.org = org) (hz : RowOk z elem y) :
    ∃ π', Post σ (σ.new (.cells cs (some y) org false false)) π δ D H w π' D (w.alloc (.cells cc elem fz)) ∧ VR π' D (.slice (some ⟨σ.next, 0, some z⟩) need need) (.slice (some ⟨w.heap.size, 0, none⟩) need cap) := by
  have hl : cc.toList.length = cc.size := rfl
  have hl2 := hc.1
  have hl3 : cc.size = cs'.length + rest.length := by rw [← hl, hcc, List.length_append]
  refine ⟨_, post_new (i := ⟨w.heap.size, 0, cc.size, some y, org, false, cs.length⟩) hp rfl ?_ ⟨horg, fun h => by cases h⟩ hkin (fun c _ ht => by
    obtain ⟨g1, g2⟩ := hz.2 c ht
    exact ⟨cc, fz, by rw [heap_alloc, if_pos rfl, g2], fun h => by rw [g1] at h; cases h⟩), .slo need need cap (Nat.le_refl _) rfl ⟨rfl, hn, .inl ⟨_, if_pos rfl, rfl, ⟨y, rfl, hz.1⟩, .inl ⟨rfl, by simp [hsz]⟩⟩⟩⟩
  refine ⟨cc, elem, fz, by rw [heap_alloc, if_pos rfl], rfl, by show 0 + cs.length ≤ cc.size; omega, h1, ?_, fun _ => hfz, rfl, rfl, rfl, rfl⟩
  simp only [List.drop_zero]
  rw [hcc, hl2, List.take_left]
  exact hc

def isIntD : TypeDesc → Bool
  | .int _ => true
  | _ => false

/-- what an append adds, as the model asks it -/
inductive Adds (P : Program) (dx : TypeDesc) (e : TypeId) (i : TypeInfo) (size : Nat) (x' : Value) (n : Nat) (w w₁ : World) (ys' : List Value) : Prop
  | len (hd : isIntD dx = false) (hn : (Builtin.lenOf x').run P w = .ok n w) (hc : (Builtin.firstCells size n x').run P w₁ = .ok ⟨ys'⟩ w₁)
  | zeros (k j : IntKind) (m : Int) (hd : dx = .int k) (hx : x' = .int j m) (hw : IntKind.i64.wrap m = m) (h0 : ¬ m < 0) (h48 : ¬ m * (i.bytes : Int) > 2 ^ 48) (hn : n = m.toNat)
      (hc : (if n * size = 0 then pure #[] else do pure (Builtin.zeroCells (← zeroValue e).cells n) : Sem (Array Value)).run P w₁ = .ok ⟨ys'⟩ w₁)

/-- what an append adds -/
theorem sim_adds (hT : TyOk P T) {e : TypeId} {ei : TI} (hi : T.Y.get e = some ei) {x x' : Value} {dx : TypeDesc} {n : Nat} {ys : List Value} (h : addsV σ ei x dx = some (n, ys)) (hx : VR π D x x') :
    ys.length = n * ei.size ∧ ∀ w₁ : World, Pre σ σ' π δ D H w₁ → ∃ ys', Adds P dx e ei.info ei.size x' n w w₁ ys' ∧ VRs π D ys ys' ∧ (∀ v ∈ ys, oneA v = true) := by
  by_cases hd : ∃ k, dx = .int k
  · obtain ⟨k0, rfl⟩ := hd
    obtain ⟨k, m, h1, e1⟩ := andThen2_eq (show andThen2 (asI x) (fun k n => andThen (upTo n 100000) fun m => andThen (zcells ei) fun z => iff (and (sameKind k .i64) (Nat.ble (Nat.mul m ei.info.bytes) (nat_lit 1000000000))) (some (m, zeros z m)) none) = some (n, ys) from h)
    obtain ⟨m1, h2, e2⟩ := andThen_eq e1
    obtain ⟨z, h3, e3⟩ := andThen_eq e2
    obtain ⟨h4, e4⟩ := iff_some e3
    simp only [Option.some.injEq, Prod.mk.injEq] at e4
    obtain ⟨rfl, rfl⟩ := e4
    obtain ⟨g1, g2, rfl⟩ := upTo_eq h2
    obtain rfl := asI_eq h1
    obtain rfl := hx.int_inv
    rw [Bool.and_eq_true, ble_iff] at h4
    have hb : m.toNat * ei.info.bytes ≤ 1000000000 := h4.2
    obtain ⟨zv, z1, _, z3, z4, z5⟩ := zcells_eq hT hi h3
    have hw : IntKind.i64.wrap m = m := wrap64 g1 (by omega)
    have hbm : m * (ei.info.bytes : Int) ≤ 1000000000 := by
      have : ((m.toNat * ei.info.bytes : Nat) : Int) ≤ 1000000000 := by omega
      rw [Int.natCast_mul, Int.toNat_of_nonneg g1] at this
      exact this
    have h48 : ¬ (m * (ei.info.bytes : Int) > 2 ^ 48) := by
      have : (2 : Int) ^ 48 = 281474976710656 := by decide
      omega
    have hys : (zeros z m.toNat).length = m.toNat * ei.size := by
      rw [zeros_eq, List.length_flatten, List.map_replicate, List.sum_replicate_nat, z3]
    refine ⟨hys, fun w₁ hp => ?_⟩
    have hzl := (z5 π D).1
    have hzs : zv.cells.toList.length = zv.cells.size := rfl
    by_cases h0 : m.toNat * ei.size = 0
    · refine ⟨[], .zeros k0 k m rfl rfl hw (by omega) h48 rfl ?_, ?_, zeros_mem z4⟩
      · simp only [if_pos h0, Sem.run_pure]
      · rw [h0] at hys
        rw [List.eq_nil_of_length_eq_zero hys]; exact .nil
    · refine ⟨(Builtin.zeroCells zv.cells m.toNat).toList, .zeros k0 k m rfl rfl hw (by omega) h48 rfl ?_, ?_, zeros_mem z4⟩
      · simp only [if_neg h0, Sem.run_bind, run_zero hT hi z1, Result.andThen_ok, Sem.run_pure]
      · rw [zeros_eq]
        have := rep_range zv.cells m.toNat
        unfold Builtin.zeroCells
        rw [this]
        exact (z5 π D).flatten_replicate _
  · have hm : isIntD dx = false := by cases dx <;> first | rfl | exact absurd ⟨_, rfl⟩ hd
    have h' : (andThen (lenV x) fun n => andThen (firstV σ ei.size n x) fun ys => iff (Nat.beq (lenQ ys) (Nat.mul n ei.size)) (some (n, ys)) none) = some (n, ys) := by
      cases dx <;> first | exact h | exact absurd ⟨_, rfl⟩ hd
    obtain ⟨n1, h1, e1⟩ := andThen_eq h'
    obtain ⟨ys1, h2, e2⟩ := andThen_eq e1
    obtain ⟨h3, e3⟩ := iff_some e2
    simp only [Option.some.injEq, Prod.mk.injEq] at e3
    obtain ⟨rfl, rfl⟩ := e3
    rw [beq_iff, lenQ_eq] at h3
    refine ⟨h3, fun w₁ hp => ?_⟩
    obtain ⟨_, r', h5, h6, h7⟩ := sim_first (P := P) hp h2 hx h1 (Nat.le_refl _)
    refine ⟨r', .len hm ?_ h5, h6, h7⟩
    cases x <;> simp only [lenV, reduceCtorEq, Option.some.injEq] at h1
    case string s => obtain rfl := hx.string_inv; obtain ⟨⟨l⟩⟩ := s; rw [lenQ_eq] at h1; subst h1; rfl
    case slice a n0 c => obtain ⟨a', c', rfl⟩ := asSl_VR hx; subst h1; rfl
    case tuple vs =>
      obtain ⟨rows, g1, g2⟩ := andThen_eq h1
      rw [datL_eq g1] at hx
      rw [lenQ_eq] at g2
      cases g2
      rcases hx.dat_inv with ⟨rfl, c, rfl⟩ | ⟨_, _, _, _, _, rfl, _⟩ <;> rfl

theorem run_append_in (hT : TyOk P T) {sT xT ty e : TypeId} {ei : TI} {dx : TypeDesc} {tys : Array TypeId} {args : Array Value} {x' : Value} {a' : Option Addr} {len cap' n : Nat} {ys' : List Value} {w' : World}
    (h1 : desc T sT = some (.slice e)) (hi : T.Y.get e = some ei) (h2 : desc T xT = some dx) (ht0 : tys[0]? = some sT) (ht1 : tys[1]? = some xT) (ha0 : args[0]? = some (.slice a' len cap')) (ha1 : args[1]? = some x')
    (hn : Adds P dx e ei.info ei.size x' n w w ys') (hfit : len + n ≤ cap')
    (hs : (match a' with | some a => storeCells (a.add (len * ei.size)) ys' | none => pure () : Sem Unit).run P w = .ok () w') : (Builtin.append_ tys ty args).run P w = .ok (.slice a' (len + n) cap') w' := by
  cases hn with
  | zeros k j m hd hx hw h0 h48 hn hc =>
    subst hd; subst hx; subst hn
    simp only [Builtin.append_, ht0, ht1, ha0, ha1, Sem.run_bind, run_desc hT h1, Result.andThen_ok, run_size hT hi, run_desc hT h2, Sem.run_pure, if_true, asInt, asIntOf, hw, if_neg h0, run_info hT hi, if_neg h48, if_pos hfit, Bool.not_true, Bool.false_eq_true, if_false]
    rw [hc]
    simp only [Result.andThen_ok]
    cases a' with
    | none => simp only [Sem.run_pure] at hs ⊢; cases hs; rfl
    | some a => simp only [Sem.run_bind, hs, Result.andThen_ok, Sem.run_pure]
  | len hd hn hc =>
    cases dx <;> first | (cases hd; done) | skip
    all_goals
      simp only [Builtin.append_, ht0, ht1, ha0, ha1, Sem.run_bind, run_desc hT h1, Result.andThen_ok, run_size hT hi, run_desc hT h2, Sem.run_pure, Bool.false_eq_true, if_false, hn, if_pos hfit, Bool.not_false, if_true, hc]
      cases a' with
      | none => simp only [Sem.run_pure] at hs ⊢; cases hs; rfl
      | some a => simp only [Sem.run_bind, hs, Result.andThen_ok, Sem.run_pure]

theorem run_append_new (hT : TyOk P T) {sT xT ty e : TypeId} {ei : TI} {dx : TypeDesc} {tys : Array TypeId} {args : Array Value} {x' zv : Value} {a' : Option Addr} {len cap' n : Nat} {ys' old' : List Value}
    (h1 : desc T sT = some (.slice e)) (hi : T.Y.get e = some ei) (h2 : desc T xT = some dx) (ht0 : tys[0]? = some sT) (ht1 : tys[1]? = some xT) (ha0 : args[0]? = some (.slice a' len cap')) (ha1 : args[1]? = some x')
    (hn : Adds P dx e ei.info ei.size x' n w w.drew ys') (hfit : cap' < len + n) (hb : (len + n) * (ei.info.bytes + 1) ≤ 1000000000) (_hb1 : 1 ≤ ei.info.bytes) (hz : ei.info.zero = some zv)
    (ho : (Builtin.firstCells ei.size len (.slice a' len cap')).run P w.drew = .ok ⟨old'⟩ w.drew) :
    (Builtin.append_ tys ty args).run P w = .ok (.slice (some ⟨w.heap.size, 0, none⟩) (len + n) (grownCap w (len + n) cap' e)) (w.drew.alloc (.cells (⟨old'⟩ ++ ⟨ys'⟩ ++ Builtin.zeroCells zv.cells (grownCap w (len + n) cap' e - (len + n))) e)) := by
  rw [Nat.mul_succ] at hb
  have hfit' : ¬ (len + n ≤ cap') := by omega
  have h63 : ¬ (((len + n : Nat) : Int) > IntKind.i64.max) := by
    show ¬ (((len + n : Nat) : Int) > 9223372036854775807)
    omega
  have h63' : ∀ q : Prop, ¬ (((len + n : Nat) : Int) > IntKind.i64.max ∧ q) := fun q h => h63 h.1
  have h48 : ¬ (Builtin.nextslicecap (len + n) cap' * ei.info.bytes > 2 ^ 48) := by
    have := growslice_fits (bytes := ei.info.bytes) hfit (by omega)
    have h2 : (2 : Nat) ^ 48 = 281474976710656 := by decide
    omega
  have hch : (choose (.appendCap (len + n) cap' e)).run P w = .ok (grownCap w (len + n) cap' e) w.drew := by
    rw [run_choose]; rfl
  cases hn with
  | zeros k j m hd hx hw h0 h48' hn hc =>
    subst hd; subst hx; subst hn
    simp only [Builtin.append_, ht0, ht1, ha0, ha1, Sem.run_bind, run_desc hT h1, Result.andThen_ok, run_size hT hi, run_desc hT h2, Sem.run_pure, if_true, asInt, asIntOf, hw, if_neg h0, run_info hT hi, if_neg h48', if_neg hfit', if_neg (h63' _), if_neg h48, hch, run_askRoom, ho, Bool.not_true, Bool.false_eq_true, if_false]
    rw [hc]
    simp only [Result.andThen_ok, run_zero hT hi hz]
    rfl
  | len hd hn hc =>
    cases dx <;> first | (cases hd; done) | skip
    all_goals
      simp only [Builtin.append_, ht0, ht1, ha0, ha1, Sem.run_bind, run_desc hT h1, Result.andThen_ok, run_size hT hi, run_desc hT h2, Sem.run_pure, Bool.false_eq_true, if_false, hn, run_info hT hi, if_neg hfit', if_neg (h63' _), if_neg h48, hch, run_askRoom, ho, Bool.not_false, if_true, hc, run_zero hT hi hz]
      rfl

theorem grownCap_le (w : World) (need old : Nat) (e : TypeId) : need ≤ grownCap w need old e := by
  unfold grownCap
  simp only [Question.cut]
  omega

theorem zeroCells_size (z : Array Value) (n : Nat) : (Builtin.zeroCells z n).size = n * z.size := by simp [Builtin.zeroCells]

theorem storeS_cap {a : Option Addr} {len cap n z : Nat} {x' : Value} (_hx : VR π D (.slice a len cap) x') {ys : List Value} (hy : ys.length = n * z) (hf : len + n ≤ cap) : ys ≠ [] → 0 < cap := by
  intro hne
  rcases Nat.eq_zero_or_pos n with h0 | h0
  · subst h0
    rw [Nat.zero_mul] at hy
    exact absurd (List.eq_nil_of_length_eq_zero hy) hne
  · omega

/-- a new row, where a slice has grown -/
theorem sim_grown (hT : TyOk P T) {sT xT ty e : TypeId} {ei : TI} {dx : TypeDesc} {tys : Array TypeId} {args : Array Value} {x' : Value} {a' : Option Addr} {len cap' n y org : Nat} {ys old ys' old' z : List Value} {v : Value} (hy : RowOk ei.size e y)
    (h1 : desc T sT = some (.slice e)) (hi : T.Y.get e = some ei) (h2 : desc T xT = some dx) (ht0 : tys[0]? = some sT) (ht1 : tys[1]? = some xT) (ha0 : args[0]? = some (.slice a' len cap')) (ha1 : args[1]? = some x')
    (hn : Adds P dx e ei.info ei.size x' n w w.drew ys') (hfit : cap' < len + n) (hb : (len + n) * (ei.info.bytes + 1) ≤ 1000000000) (hb1 : 1 ≤ ei.info.bytes) (hz : zcells ei = some z)
    (ho : (Builtin.firstCells ei.size len (.slice a' len cap')).run P w.drew = .ok ⟨old'⟩ w.drew) (hys : VRs π D ys ys') (hold : VRs π D old old') (hys1 : ∀ v ∈ ys, oneA v = true) (hold1 : ∀ v ∈ old, oneA v = true)
    (hyl : ys.length = n * ei.size) (hol : old.length = len * ei.size) (h : openSlice σ (len + n) (appQ old ys) ei.size y org = some (v, σ')) (horg : org ≤ σ.next) (hkin : org = σ.next ∨ ∃ k₀ i₀, π k₀ = some i₀ ∧ i₀.org = org)
    (hp : Pre σ σ' π δ D H w) : Does P σ σ' π δ D H w v (Builtin.append_ tys ty args) := by
  obtain ⟨rfl, rfl⟩ := openSlice_eq h
  rw [appQ_eq] at hp ⊢
  obtain ⟨zv, z1, _, z3, z4, z5⟩ := zcells_eq hT hi hz
  have hzl := (z5 π D).1
  have hzs : zv.cells.toList.length = zv.cells.size := rfl
  have hrun := run_append_new (ty := ty) hT h1 hi h2 ht0 ht1 ha0 ha1 hn hfit hb hb1 z1 ho
  have hle := grownCap_le w (len + n) cap' e
  have h3 := hys.1
  have h4 := hold.1
  obtain ⟨π', h5, h6⟩ := post_room (0, 0) (fun y _ h => by simp only at h; omega) (elem := e) (need := len + n) (cap := grownCap w (len + n) cap' e) (cc := ⟨old'⟩ ++ ⟨ys'⟩ ++ Builtin.zeroCells zv.cells (grownCap w (len + n) cap' e - (len + n)))
    (rest := (Builtin.zeroCells zv.cells (grownCap w (len + n) cap' e - (len + n))).toList) hp.drew (hold.append hys) (fun v hv => by
      rcases List.mem_append.1 hv with h | h
      · exact hold1 v h
      · exact hys1 v h) (by simp) (by
      simp only [Array.size_append, zeroCells_size, List.size_toArray]
      rw [show zv.cells.size = ei.size by omega, ← h4, ← h3, hol, hyl, ← Nat.add_mul, ← Nat.add_mul]
      congr 1
      omega) hle horg hkin hy
  exact ⟨_, π', D, _, hrun, h6, h5.drew⟩

theorem VR.slice_len {a a' : Option Addr} {n m c c' : Nat} (h : VR π D (.slice a n c) (.slice a' n c')) (hm : m ≤ c) : VR π D (.slice a m c) (.slice a' m c') := by
  cases h with
  | sl0 n c hn => exact .sl0 _ _ hm
  | sl n c hn hs ha => exact .sl _ _ hm hs ha
  | slz a a' hs =>
    have : m = 0 := by omega
    subst this
    exact .slz a a' hs
  | slo n c c' hn hs ha =>
    refine .slo _ _ _ hm hs ⟨ha.1, ha.2.1, ?_⟩
    rcases ha.2.2 with ⟨i, h1, h2, h3, h4⟩ | h1
    · refine .inl ⟨i, h1, h2, h3, ?_⟩
      rcases h4 with h4 | ⟨h4, h5, h6⟩
      · exact .inl h4
      · exact .inr ⟨by omega, h5, h6⟩
    · exact .inr h1

theorem firstCells_of {size n cap : Nat} {a' : Option Addr} : Builtin.firstCells size n (.slice a' n cap) = (match a' with | some a => loadCells a (n * size) | none => pure #[] : Sem (Array Value)) := by
  cases a' <;> rfl

theorem Post.pst {π₁ : PMap} {D₁ : Nat → Prop} {w₁ : World} (hp : Pre σ σ' π δ D H w) (h : Post σ σ' π δ D H w π₁ D₁ w₁) : PStep π D π₁ D₁ := h.pstep hp

/-- an open slice that grows -/
theorem sim_growOpen (hT : TyOk P T) {sT xT ty e : TypeId} {ei : TI} {dx : TypeDesc} {tys : Array TypeId} {args : Array Value} {x' : Value} {a' : Option Addr} {k off len cap cap' n y0 : Nat} {ys old ys' ys2' old' z : List Value} {v : Value} (hy0 : RowOk ei.size e y0)
    (h1 : desc T sT = some (.slice e)) (hi : T.Y.get e = some ei) (h2 : desc T xT = some dx) (ht0 : tys[0]? = some sT) (ht1 : tys[1]? = some xT) (ha0 : args[0]? = some (.slice a' len cap')) (ha1 : args[1]? = some x')
    (hx : VR π D (.slice (some ⟨k, off, some ei.size⟩) len cap) (.slice a' len cap'))
    (hn : Adds P dx e ei.info ei.size x' n w w.drew ys') (hn2 : Adds P dx e ei.info ei.size x' n w w ys2') (hfit : cap < len + n) (hb : (len + n) * (ei.info.bytes + 1) ≤ 1000000000) (hb1 : 1 ≤ ei.info.bytes) (hz : zcells ei = some z)
    (ho : (Builtin.firstCells ei.size len (.slice a' len cap')).run P w.drew = .ok ⟨old'⟩ w.drew) (hys : VRs π D ys ys') (hys2 : VRs π D ys ys2') (hold : VRs π D old old') (hys1 : ∀ v ∈ ys, oneA v = true) (hold1 : ∀ v ∈ old, oneA v = true)
    (hyl : ys.length = n * ei.size) (hol : old.length = len * ei.size) (hcells : σ.cellsAt k off (len * ei.size) = some old)
    (h : growV σ ei.size y0 len (len + n) (appQ old ys) (some ⟨k, off, some ei.size⟩) = some (v, σ'))
    (hp : Pre σ σ' π δ D H w) : Does P σ σ' π δ D H w v (Builtin.append_ tys ty args) := by
  obtain ⟨_, e1⟩ := iff_some (show iff (Nat.beq ei.size ei.size) (andThen3 (σ.kill k (Nat.add off (Nat.mul len ei.size))) fun z' org σ' => iff (or (Nat.beq z' y0) (Nat.beq z' ei.size)) (openSlice σ' (len + n) (appQ old ys) ei.size z' org) none) none = some (v, σ') from h)
  obtain ⟨z', org, σ1, e2, e3⟩ := andThen3_eq e1
  obtain ⟨e4, e5⟩ := iff_some e3
  have hy : RowOk ei.size e z' := by
    rw [Bool.or_eq_true, beq_iff, beq_iff] at e4
    rcases e4 with rfl | rfl
    · exact hy0
    · exact .small (hT _ _ hi).small
  obtain ⟨c, hobj, hcl, hσ1⟩ := kill_eq e2
  have hcl' : c.length = off + len * ei.size := hcl
  obtain ⟨hv, hσ'⟩ := openSlice_eq e5
  have hk := obj_lt hp.wf hobj
  -- where the block lies
  have hsl : ∃ i, π k = some i ∧ ∃ A, a' = some A ∧ A.spot = none ∧ A.block = i.blk ∧ cap ≤ cap' ∧ (∃ y, i.esz = some y ∧ zOf y = ei.size) ∧ ((A.off = i.sh + off ∧ A.off + cap' * ei.size = i.bsize) ∨ (len = 0 ∧ cap = 0 ∧ cap' = 0)) := by
    cases hx with
    | sl n c hn hs ha => cases hs
    | slz a a' hs => cases hs
    | slo n c c' hn hs ha =>
      cases hs
      obtain ⟨g1, g2, g3⟩ := ha
      rcases g3 with ⟨i, g4, g5, g6, g7⟩ | ⟨g4, g5⟩
      · exact ⟨i, g4, _, rfl, g1, g5, g2, g6, g7⟩
      · exfalso
        rcases hp.dead k g5 with ⟨o, q1, q2⟩ | q1
        · rw [hobj] at q1; cases q1; cases q2
        · have := hp.nle; omega
  obtain ⟨i, hik, A, rfl, hA1, hA2, hcc, hA3, hA4⟩ := hsl
  obtain ⟨i', hik', cc, elem, fz, hB, hsz, hle, h1c, hvs, hfz, hes, horg, hro, hl⟩ := hp.here hobj rfl (.inl ⟨i, hik⟩)
  rw [hik] at hik'; cases hik'
  have hmono1 : Mono σ σ1 := by
    subst hσ1
    refine ⟨Nat.le_refl _, Nat.le_refl _, Nat.min_le_right _ _, fun hw j hj => ?_, fun j _ => ?_⟩
    · show (σ.heap.set k _).get j = _
      rw [Tr.get_set, if_neg (by have : σ.next ≤ j := hj; omega)]; exact hw j hj
    · show ObjStep j _ _ (σ.obj j) ((σ.heap.set k (.cells c (some z') org false true)).get j)
      rw [Tr.get_set]
      by_cases e : j = k
      · subst e
        rw [if_pos rfl, hobj]
        exact .cells rfl (fun h => by cases h) (fun h => by cases h) (.inr rfl) (.inl (Nat.min_le_left _ _))
      · rw [if_neg e]; exact .refl _ _ _ _
  have hmono2 : Mono σ1 σ' := by rw [hσ']; exact mono_new _ _
  have hp1 : Pre σ σ1 π δ D H w := hp.first hmono1 hmono2
  have hpost1 : Post σ σ1 π δ D H w π D w := by
    subst hσ1
    exact post_kill hp1 hobj (.inl ⟨i, hik⟩)
  have hp2 : Pre σ1 σ' π (grow σ σ1 δ) D H w := hp.second hpost1 hmono2
  have hnext : σ1.next = σ.next := by rw [hσ1]
  have hdead1 : deadIn σ1 k := ⟨.cells c (some z') org false true, by
    rw [hσ1]
    show (σ.heap.set k _).get k = _
    rw [Tr.get_set, if_pos rfl], rfl⟩
  have halive : ¬ deadIn σ k := fun ⟨o, q1, q2⟩ => by rw [hobj] at q1; cases q1; cases q2
  have hkorg := (hp.rel.kin k i hik).1
  rcases Nat.lt_or_ge cap' (len + n) with hgt | hin
  · obtain ⟨v', π', D', w', r1, r2, r3⟩ := sim_grown (ty := ty) hT hy h1 hi h2 ht0 ht1 ha0 ha1 hn hgt hb hb1 hz ho hys hold hys1 hold1 hyl hol e5 (by rw [← horg, hnext]; omega) (.inr ⟨k, i, hik, horg⟩) hp2
    exact ⟨v', π', D', w', r1, r2, Post.trans hp hpost1 r3⟩
  · rcases hA4 with ⟨hA5, hA6⟩ | ⟨_, _, h0⟩
    · have hmul : (len + n) * ei.size ≤ cap' * ei.size := Nat.mul_le_mul_right _ hin
      rw [Nat.add_mul] at hmul
      have hyl2 := hys2.1
      have hro' : i.ro = false := hro
      have hx2 : i.sh + c.length + ys2'.length ≤ cc.size := by omega
      have hstore := run_storeCells (P := P) i.blk elem fz (i.sh + c.length) ys2' 0 cc w hB (oneCells hys2 hys1) (by omega) (fun y hy1 hy2 => hfz rfl y (by omega))
      rw [Nat.add_zero] at hstore
      have hAa : A.add (len * ei.size) = ⟨i.blk, i.sh + c.length, none⟩ := by
        obtain ⟨b, o, s⟩ := A
        simp only at hA1 hA2 hA5
        subst hA1; subst hA2; subst hA5
        rw [Addr.add_plain, hcl', ← Nat.add_assoc]
      have hall : ∀ j i₂, π j = some i₂ → i₂.blk = i.blk → i₂.ro = false ∧ i₂.org = i.org ∧ (grow σ σ1 δ) j ∧ i₂.sh + i₂.len ≤ i.sh + c.length := fun j i₂ hj hb2 => by
        by_cases e : j = k
        · subst e
          rw [hik] at hj; cases hj
          exact ⟨hro', rfl, .inr ⟨hdead1, halive⟩, by omega⟩
        · rcases hp.rel.sep k j i i₂ (Ne.symm e) hik hj hb2.symm with ⟨q1, _⟩ | ⟨_, q2, q3, q4⟩
          · rw [hro'] at q1; cases q1
          · rcases q4 with ⟨q4, _⟩ | ⟨q4, q5⟩
            · exfalso
              have hnx := hmono2.next
              rcases hp.okd k i q4 hik with q5 | ⟨_, q5 | ⟨q5, _⟩⟩
              · omega
              · exact halive q5
              · exact q5 (hmono2.dead (hmono1.wf hp.wf) hdead1)
            · exact ⟨q2, q3.symm, .inl q4, by omega⟩
      obtain ⟨rw1, e6, e7⟩ : ∃ cr, σ.row k = some cr ∧ sub cr off (len * ei.size) = some old := by
        obtain ⟨cr, q1, q2⟩ := andThen_eq hcells
        exact ⟨cr, q1, q2⟩
      have hrow : rw1 = c := by
        obtain ⟨o, q1, q2⟩ := andThen_eq e6
        rw [show σ.obj k = some (.cells c (some z') org false false) from hobj] at q1
        cases q1
        cases q2; rfl
      subst hrow
      obtain ⟨_, hsub⟩ := sub_eq e7
      have hwin : VRs π D (old ++ ys) (((put1 cc (i.sh + rw1.length) ys2').toList.drop (i.sh + off)).take (old ++ ys).length) := by
        have hlen : (old ++ ys).length = len * ei.size + ys2'.length := by rw [List.length_append, hol, hyl2]
        rw [hlen, show i.sh + rw1.length = (i.sh + off) + len * ei.size by omega, flatten_window (Nat.le_refl _) (by omega)]
        have hdrop : (((cc.toList.drop (i.sh + off)).take (len * ei.size + ys2'.length)).drop (len * ei.size + ys2'.length)) = [] := by
          apply List.eq_nil_of_length_eq_zero
          simp only [List.length_drop, List.length_take]
          omega
        rw [hdrop, List.append_nil]
        refine VRs.append ?_ hys2
        rw [List.take_take, Nat.min_eq_left (by omega), hsub]
        have := (hvs.drop off).take (len * ei.size)
        rwa [window_sub (by omega)] at this
      have hpost2 := post_grow (σ := σ1) (z := z') (e := e) (x := i.sh + rw1.length) (sh := i.sh + off) (c := old ++ ys) (vs' := ys2') (k := k) (i := i) (by
        have := hp2
        rw [hσ', appQ_eq] at this
        rw [horg]; exact this) hik (by omega) hall hB hsz hx2 (by simp only [List.length_append]; omega) (fun v hv => by
        rcases List.mem_append.1 hv with h | h
        · exact hold1 v h
        · exact hys1 v h) hwin (hfz rfl) hro' hy.2 hes
      rw [horg, ← appQ_eq, ← hσ'] at hpost2
      refine ⟨.slice (some A) (len + n) cap', _, _, _, run_append_in (ty := ty) hT h1 hi h2 ht0 ht1 ha0 ha1 hn2 hin (w' := putObj w i.blk (.cells (put1 cc (i.sh + rw1.length) ys2') elem fz)) ?_, ?_, Post.trans hp hpost1 hpost2⟩
      · show (storeCells (A.add (len * ei.size)) ys2').run P w = _
        rw [hAa]; exact hstore
      · rw [hv]
        refine .slo _ _ _ (Nat.le_refl _) rfl ⟨hA1, hin, .inl ⟨_, if_pos rfl, hA2, ⟨z', rfl, hy.1⟩, .inl ⟨?_, hA6⟩⟩⟩
        show A.off = i.sh + off + 0
        omega
    · omega

theorem growV_other {z y len need : Nat} {cs : List Value} {a : Option Addr} (h : ∀ k off s, a ≠ some ⟨k, off, some s⟩) : growV σ z y len need cs a = openSlice σ need cs z y σ.next := by
  cases a with
  | none => rfl
  | some a =>
    obtain ⟨k, off, s⟩ := a
    cases s with
    | none => rfl
    | some s => exact absurd rfl (h k off s)

theorem rowY_ok {e z : Nat} (hz : Nat.ble bigN z = false) : RowOk z e (rowY T e z) := by
  unfold rowY
  rw [iff_eq]
  split
  · rename_i h
    rw [Bool.and_eq_true, beq_iff] at h
    obtain ⟨_, rfl⟩ := h
    exact .row e
  · exact .small hz
theorem sim_append (hT : TyOk P T) {sT xT ty : TypeId} {s x s' x' v : Value} {tys : Array TypeId} {args : Array Value} (h : appendV T sT xT s x σ = some (v, σ')) (hs : VR π D s s') (hx : VR π D x x')
    (ht0 : tys[0]? = some sT) (ht1 : tys[1]? = some xT) (ha0 : args[0]? = some s') (ha1 : args[1]? = some x') (hp : Pre σ σ' π δ D H w) : Does P σ σ' π δ D H w v (Builtin.append_ tys ty args) := by
  obtain ⟨d, h1, e1⟩ := andThen_eq h
  obtain ⟨e, h2, e2⟩ := andThen_eq e1
  obtain ⟨ei, hi, e3⟩ := andThen_eq e2
  rcases tupElse_eq e3 with ⟨vs, rfl, e3⟩ | e3
  · obtain ⟨rows, h3, e4⟩ := andThen_eq e3
    obtain ⟨dx, h4, e5⟩ := andThen_eq e4
    obtain ⟨n, ys, h5, e6⟩ := andThen2_eq e5
    obtain ⟨h6, h7⟩ := iff_some e6
    cases h7
    rw [Tr.isZ_iff] at h6
    subst h6
    obtain rfl := sliceElem_eq h2
    have hi' : T.Y.get e = some ei := hi
    rw [datL_eq h3] at hs
    obtain ⟨hyl, hadds⟩ := sim_adds (P := P) (σ := σ) (σ' := σ) (π := π) (δ := δ) (D := D) (H := H) (w := w) hT hi' h5 hx
    obtain ⟨ys', ha, hys, hys1⟩ := hadds w hp
    have hy0 : ys' = [] := List.eq_nil_of_length_eq_zero (by have := hys.1; omega)
    subst hy0
    rcases hs.dat_inv with ⟨rfl, c, rfl⟩ | ⟨cs, cs', z2, c', a', rfl, hr, hc, hf, ho, hv, _⟩
    · exact ⟨_, π, D, w, run_append_in hT h1 hi' h4 ht0 ht1 ha0 ha1 ha (Nat.zero_le _) rfl, .data (.data0 _ _ rfl), .refl hp⟩
    · exact ⟨_, π, D, w, run_append_in hT h1 hi' h4 ht0 ht1 ha0 ha1 ha hc rfl, hs, .refl hp⟩
  obtain ⟨base, len, cap, h3, e4⟩ := andThen3_eq e3
  obtain ⟨dx, h4, e5⟩ := andThen_eq e4
  obtain ⟨n, ys, h5, e6⟩ := andThen2_eq e5
  obtain rfl := sliceElem_eq h2
  obtain rfl := asSl_eq h3
  have hi' : T.Y.get e = some ei := hi
  obtain ⟨hyl, hadds⟩ := sim_adds (P := P) (σ := σ) (σ' := σ') (π := π) (δ := δ) (D := D) (H := H) (w := w) hT hi' h5 hx
  rw [iff_eq, show len.add n = len + n from rfl] at e6
  have hle0 := hs.sl_le
  by_cases hfit : len + n ≤ cap
  · rw [if_pos ((ble_iff _ _).2 hfit)] at e6
    obtain ⟨ys', ha, hys, hys1⟩ := hadds w hp
    obtain ⟨rfl, a', c', rfl, π', D', w', h6, h7⟩ := sim_storeS (P := P) hp e6 hs hys hys1 (storeS_cap hs hyl hfit)
    have hcc : cap ≤ c' := by
      cases hs with
      | sl0 => exact Nat.le_refl _
      | sl => exact Nat.le_refl _
      | slz => exact Nat.le_refl _
      | slo n c c' hn hs ha => exact ha.2.1
    exact ⟨_, π', D', w', run_append_in (ty := ty) hT h1 hi' h4 ht0 ht1 ha0 ha1 ha (by omega) h6, (hs.slice_len hfit).mono (h7.pstep hp), h7⟩
  · rw [if_neg (fun h => hfit ((ble_iff _ _).1 h))] at e6
    obtain ⟨hb, e7⟩ := iff_some e6
    obtain ⟨z, hz, e7⟩ := andThen_eq e7
    obtain ⟨old, h6, e8⟩ := andThen_eq e7
    rw [Bool.and_eq_true, ble_iff, ble_iff] at hb
    obtain ⟨hb0, hb1⟩ := hb
    have hb0' : (len + n) * (ei.info.bytes + 1) ≤ 1000000000 := hb0
    obtain ⟨ys', ha, hys, hys1⟩ := hadds w.drew hp.drew
    obtain ⟨ys2', ha2, hys2, _⟩ := hadds w hp
    obtain ⟨a', cap', rfl, hcc, hnone, old', h7, h8, h9, h10⟩ := sim_firstA (P := P) hp.drew h6 hs (fun h => by
      rcases Nat.eq_zero_or_pos len with h0 | h0
      · rw [h0] at h
        have : Nat.mul 0 ei.size = 0 := Nat.zero_mul _
        omega
      · omega)
    have ho : (Builtin.firstCells ei.size len (.slice a' len cap')).run P w.drew = .ok ⟨old'⟩ w.drew := by rw [firstCells_of]; exact h7
    by_cases hopen : ∃ k off s, base = some ⟨k, off, some s⟩
    · obtain ⟨k, off, s, rfl⟩ := hopen
      have hss : s = ei.size := by
        obtain ⟨q, _⟩ := iff_some (show iff (Nat.beq s ei.size) (andThen3 (σ.kill k (Nat.add off (Nat.mul len ei.size))) fun z' org σ' => iff (or (Nat.beq z' (rowY T e ei.size)) (Nat.beq z' ei.size)) (openSlice σ' (Nat.add len n) (appQ old ys) ei.size z' org) none) none = some (v, σ') from e8)
        exact (beq_iff _ _).1 q
      subst hss
      exact sim_growOpen (ty := ty) hT (rowY_ok (hT _ _ hi').small) h1 hi' h4 ht0 ht1 ha0 ha1 hs ha ha2 (by omega) hb0' hb1 hz ho hys hys2 h8 hys1 h9 hyl h10 h6 e8 hp
    · rw [growV_other (fun k off s h => hopen ⟨k, off, s, h⟩)] at e8
      have hc2 : cap' = cap := by
        cases hs with
        | sl0 => rfl
        | sl => rfl
        | slz => rfl
        | @slo a0 a1 s0 n c c' hn hs ha =>
          obtain ⟨b, o, s⟩ := a0
          cases s with
          | none => cases hs
          | some s => exact absurd ⟨_, _, _, rfl⟩ hopen
      subst hc2
      exact sim_grown (ty := ty) hT (rowY_ok (hT _ _ hi').small) h1 hi' h4 ht0 ht1 ha0 ha1 ha (by omega) hb0' hb1 hz ho hys h8 hys1 h9 hyl h10 e8 (Nat.le_refl _) (.inl rfl) hp
end
end Go.Abs

/- WHAT IS UNSAFE, AS FAR AS THE TYPES OF BLOCKS ARE KNOWN: pointers of no type; the bytes of a row as a string (the row ends). -/
namespace Go.Abs
section
variable {P : Program} {T : Tab} {σ σ' : ASt} {π : PMap} {δ D : Nat → Prop} {H : Nat → Option AObj} {w : World}
/-- so many variables lie side by side in a row of their own type -/
theorem lies_self {e : TypeId} {s : Nat} (hc : P.cellsOf e = s) (hs : s ≠ 0) (count n i : Nat) (hn : i + n ≤ count) : liesAt P P.depth e count (i * s) e n = true := by
  have hd : P.depth = (2 * (P.types.size + Made.depth) + 1) + 1 := rfl
  have h1 : i * s / s = i := Nat.mul_div_cancel _ (Nat.pos_of_ne_zero hs)
  have h2 : i * s % s = 0 := Nat.mul_mod_left _ _
  rw [hd]
  simp only [liesAt, Bool.or_eq_true]
  left
  rw [hd]
  simp [Go.rowAt, hc, hs, hn, h1, h2, sameLayout]
theorem cells_size (hT : TyOk P T) {t : TypeId} {s : Nat} (h : size T t = some s) : P.cellsOf t = s ∧ ∃ j, P.info? t = some j ∧ j.size = s := by
  obtain ⟨i, h1, h2⟩ := size_eq h
  have h3 := (hT t i h1).info
  have h4 := (hT t i h1).size
  refine ⟨?_, i.info, h3, by omega⟩
  unfold Program.cellsOf
  rw [h3]
  show i.info.size = s
  omega
theorem shape_of {B : Nat} {cc : Array Value} {elem : TypeId} {fz : Nat × Nat} (hB : w.heap[B]? = some (.cells cc elem fz)) : w.shape? B = some (elem, cc.size) := by
  simp [World.shape?, hB]
theorem ptrTo_eq {d : TypeDesc} {t : TypeId} (h : ptrTo d = some t) : d = .pointer t := by
  cases d <;> simp [ptrTo] at h
  subst h; rfl
theorem plain_eq {a : Addr} {k off : Nat} (h : plain a = some (k, off)) : a = ⟨k, off, none⟩ := by
  obtain ⟨b, o, s⟩ := a
  cases s with
  | none => cases h; rfl
  | some s => cases h
theorem sim_toUns (hT : TyOk P T) {src dst : TypeId} {ds : TypeDesc} {x x' v : Value} (h1 : desc T src = some ds) (h2 : desc T dst = some .unsafePointer) (h : toUns T ds x σ = some (v, σ')) (hx : VR π D x x') (hp : Pre σ σ' π δ D H w) :
    Does P σ σ' π δ D H w v (convert src dst x') := by
  obtain ⟨t, h3, e1⟩ := andThen_eq h
  obtain ⟨s, h4, e2⟩ := andThen_eq e1
  obtain rfl := ptrTo_eq h3
  rw [iff_eq] at e2
  split at e2
  · cases e2
  rename_i hs
  rw [Tr.isZ_iff] at hs
  obtain ⟨_, j, hj, hjs⟩ := cells_size hT h4
  split at e2
  · cases e2
    obtain rfl := hx.ptr_none
    refine ⟨_, π, D, w, ?_, .ptr0, .refl hp⟩
    simp [convert, run_underlying (und_desc hT h1), run_underlying (und_desc hT h2), Conv.unsafePointer]
  · rename_i a
    obtain ⟨k, off, h5, e3⟩ := andThen2_eq e2
    obtain ⟨c, h6, e4⟩ := andThen_eq e3
    obtain ⟨h7, e5⟩ := iff_some e4
    cases e5
    obtain rfl := plain_eq h5
    rw [blt_iff, lenQ_eq] at h7
    obtain ⟨a', rfl, ha⟩ := hx.ptr_inv
    obtain ⟨B, x, cc, elem, fz, rfl, hB, hlen, _, _⟩ := hp.cells h6 ha
    exact ⟨_, π, D, w, Lib.run_to_unsafe w ⟨B, x + off, none⟩ (und_desc hT h1) (und_desc hT h2) hj (by omega) (shape_of hB) (by show x + off < cc.size; omega), hx, .refl hp⟩
  · cases e2
theorem sim_fromUns (hT : TyOk P T) {src dst u : TypeId} {ds : TypeDesc} {x x' v : Value} (h1 : desc T src = some ds) (h2 : desc T dst = some (.pointer u)) (h : fromUns T ds x σ u = some (v, σ')) (hx : VR π D x x') (hp : Pre σ σ' π δ D H w) :
    Does P σ σ' π δ D H w v (convert src dst x') := by
  obtain ⟨hu, e2⟩ := iff_some h
  have hds : ds = .unsafePointer := by cases ds <;> first | rfl | cases hu
  subst hds
  split at e2
  · cases e2
    obtain rfl := hx.ptr_none
    refine ⟨_, π, D, w, ?_, .ptr0, .refl hp⟩
    simp [convert, run_underlying (und_desc hT h1), run_underlying (und_desc hT h2), Conv.unsafePointer]
  · rename_i a
    obtain ⟨k, off, h5, e3⟩ := andThen2_eq e2
    obtain ⟨c, e, org, h6, e4⟩ := andThen3_eq e3
    obtain ⟨q, h7, e5⟩ := andThen_eq e4
    obtain ⟨s, h8, e6⟩ := andThen_eq e5
    obtain ⟨h9, e7⟩ := iff_some e6
    cases e7
    obtain ⟨o, g1, g2⟩ := andThen_eq h6
    rw [rowsOf_eq g2] at g1
    simp only [Bool.and_eq_true, Bool.not_eq_true', Tr.isZ_iff, beq_iff, lenQ_eq] at h9
    obtain ⟨⟨hoff, hodd⟩, rfl, hsl, hs0⟩ := h9
    have hs0 : s ≠ 0 := fun h => by rw [h] at hs0; cases hs0
    obtain rfl := plain_eq h5
    subst hoff
    obtain ⟨a', rfl, ha⟩ := hx.ptr_inv
    obtain ⟨i, hi, cc, elem, fz, q1, q2, q3, q4, q5, q6, q7, q8, q9, q10⟩ := hp.here g1 rfl ha.known
    obtain ⟨cc', fz', t1, t2⟩ := hp.rel.typ k i hi q q9 (by rw [q7]; exact h7)
    rw [q1] at t1; cases t1
    obtain ⟨t3, t4⟩ := t2 hodd
    obtain rfl := ha.at hi
    obtain ⟨hc, j, hj, hjs⟩ := cells_size hT h8
    have hcc : cc.size = s := by omega
    have hl := lies_self (P := P) hc hs0 (cc.size / P.cellsOf (half q)) 1 0 (by rw [hcc, hc, Nat.div_self (Nat.pos_of_ne_zero hs0)]; exact Nat.le_refl _)
    refine ⟨_, π, D, w, Lib.run_from_unsafe w ⟨i.blk, i.sh + 0, none⟩ (und_desc hT h1) (und_desc hT h2) hj (shape_of q1) ?_, hx, .refl hp⟩
    show liesAt P P.depth (half q) _ (i.sh + 0) (half q) 1 = true
    rw [t3]
    rwa [Nat.zero_mul] at hl
  · cases e2

/-! ### a row ends for good -/
noncomputable def lose (π : PMap) (B : Nat) : PMap := ⟨fun j => @ite _ (∃ i, π j = some i ∧ i.blk = B) (Classical.propDecidable _) none (π j), π.fr⟩
def lost (π : PMap) (B : Nat) (D : Nat → Prop) : Nat → Prop := fun j => D j ∨ ∃ i, π j = some i ∧ i.blk = B
theorem lose_some {B j : Nat} {i : PI} (h : lose π B j = some i) : π j = some i ∧ i.blk ≠ B := by
  simp only [lose] at h
  split at h
  · cases h
  · rename_i hn
    exact ⟨h, fun hb => hn ⟨i, h, hb⟩⟩
theorem lose_or {B j : Nat} {i : PI} (h : π j = some i) : lose π B j = some i ∨ (lose π B j = none ∧ i.blk = B) := by
  simp only [lose]
  split
  · rename_i hn
    obtain ⟨i', h2, h3⟩ := hn
    rw [h] at h2; cases h2
    exact .inr ⟨rfl, h3⟩
  · exact .inl h
theorem lose_none {B j : Nat} (h : π j = none) : lose π B j = none := by
  simp only [lose]; split
  · rfl
  · exact h
theorem lose_pstep (π : PMap) (B : Nat) (D : Nat → Prop) : PStep π D (lose π B) (lost π B D) :=
  ⟨fun j i hj => by
    rcases lose_or (B := B) hj with h | ⟨h, h2⟩
    · exact .inl h
    · exact .inr ⟨h, .inr ⟨i, hj, h2⟩⟩, fun j hj hd => ⟨lose_none hj, .inl hd⟩, fun _ _ h => h⟩
/-- **a block ends, and what it lay in is anybody's** -/
theorem post_lose {k : Nat} {c : List Value} {e : Option Nat} {org : Nat} {i : PI} {O : Obj} (hs : σ' = ⟨σ.heap.set k (.cells c e org false true), σ.next, min org σ.low, min k σ.klow⟩) (hp : Pre σ σ' π δ D H w)
    (ho : σ.obj k = some (.cells c e org false false)) (hi : π k = some i) (horg : i.org = org) (hro : i.ro = false) : Post σ σ' π δ D H w (lose π i.blk) (lost π i.blk D) (putObj w i.blk O) := by
  have hk := obj_lt hp.wf ho
  have hnx : σ'.next = σ.next := by rw [hs]
  have hlow : σ'.low = min org σ.low := by rw [hs]
  have hklow : σ'.klow = min k σ.klow := by rw [hs]
  have hobj : ∀ j, σ'.obj j = if j = k then some (.cells c e org false true) else σ.obj j := fun j => by
    rw [hs]
    show (σ.heap.set k _).get j = _
    rw [Tr.get_set]; rfl
  have hkin := (hp.rel.kin k i hi).1
  have hdk : deadIn σ' k := ⟨_, (hobj k).trans (if_pos rfl), rfl⟩
  have hnk : ¬ deadIn σ k := fun ⟨o, h1, h2⟩ => by rw [ho] at h1; cases h1; cases h2
  have hdm : ∀ j, deadIn σ j → deadIn σ' j := fun j ⟨o, h1, h2⟩ => by
    by_cases ej : j = k
    · rw [ej]; exact hdk
    · exact ⟨o, by rw [hobj, if_neg ej]; exact h1, h2⟩
  have hkd : ¬ δ k := fun hx => by
    rcases hp.okd k i hx hi with h | ⟨_, h | ⟨h, _⟩⟩
    · omega
    · exact hnk h
    · exact h hdk
  have hz : ∀ j i₂, j ≠ k → π j = some i₂ → i₂.blk = i.blk → deadIn σ j ∧ i₂.org = i.org := fun j i₂ hne hj hb => by
    rcases hp.rel.sep k j i i₂ (Ne.symm hne) hi hj hb.symm with ⟨h1, _⟩ | ⟨_, _, h1, h2⟩
    · rw [hro] at h1; cases h1
    · have hdj : δ j := by
        rcases h2 with h2 | h2
        · exact absurd h2.1 hkd
        · exact h2.1
      refine ⟨?_, h1.symm⟩
      rcases hp.okd j i₂ hdj hj with h | ⟨_, h | ⟨_, h⟩⟩
      · exfalso
        rcases hp.far j i₂ hj h with h3 | h3 <;> omega
      · exact h
      · have := (hp.rel.kin j i₂ hj).1; omega
  have hext : ∀ j, j ≠ k → ext σ' H j = ext σ H j := fun j hj => by
    unfold Go.Abs.ext
    rw [hnx, hobj, if_neg hj]
  refine ⟨⟨Nat.le_of_eq hnx.symm, by omega, by omega, fun hw j hj => ?_, fun j _ => ?_⟩, ⟨fun j i₂ hj => ?_, fun j i₂ hj => hp.rel.kin j i₂ (lose_some hj).1, fun B cc hf => ?_, fun j i₂ hj hjr => hp.rel.fro j i₂ (lose_some hj).1 hjr, fun k₁ k₂ i₁ i₂ hne h1 h2 hb => ?_, fun j i₂ hj => ?_⟩,
    fun j i₂ hj => .inl (lose_some hj).1, fun j i₂ hj => ?_, fun j hj => .inl hj, fun j hj => ?_, fun j _ h1 h2 => ?_, fun j i₂ hj => .inr ⟨j, i₂, (lose_some hj).1, rfl⟩, fun j i₂ hj hjr => .inl ⟨j, i₂, (lose_some hj).1, hjr, rfl⟩, FrStep.same rfl, ?_⟩
  · rw [hobj, if_neg (by omega)]; exact hw j (by omega)
  · rw [hobj]
    by_cases ej : j = k
    · subst ej
      rw [if_pos rfl, ho]
      exact .cells rfl (fun h => by cases h) (fun h => by cases h) (.inr rfl) (.inl (by omega))
    · rw [if_neg ej]; exact .refl _ _ _ _
  · obtain ⟨h1, h2⟩ := lose_some hj
    obtain ⟨x, hx, hy⟩ := hp.rel.obj j i₂ h1
    rw [hext j (fun ej => by subst ej; rw [hi] at h1; cases h1; exact h2 rfl)]
    exact ⟨x, hx, hy.mono (lose_pstep π i.blk D) (putObj_other h2)⟩
  · obtain ⟨el, fz, h1⟩ := hp.rel.frz B cc hf
    exact ⟨el, fz, by rw [putObj_other (fun e => by have h3 := hp.rel.fro k i hi hro; subst e; rw [show π.fr i.blk = some cc from hf] at h3; cases h3)]; exact h1⟩
  · rcases hp.rel.sep k₁ k₂ i₁ i₂ hne (lose_some h1).1 (lose_some h2).1 hb with h3 | ⟨h3, h4, h5, h6⟩
    · exact .inl h3
    · exact .inr ⟨h3, h4, h5, h6.imp (fun h => ⟨.inl h.1, h.2⟩) (fun h => ⟨.inl h.1, h.2⟩)⟩
  · obtain ⟨h1, h2⟩ := lose_some hj
    exact (hp.rel.typ j i₂ h1).world (putObj_other h2)
  · rcases lose_or (B := i.blk) hj with h | ⟨h, h2⟩
    · exact .inl h
    · refine .inr ⟨h, .inr ⟨i₂, hj, h2⟩, ?_⟩
      have ho2 : i₂.org = i.org := by
        by_cases ej : j = k
        · subst ej; rw [hi] at hj; cases hj; rfl
        · exact (hz j i₂ ej hj h2).2
      omega
  · rcases hj with h | ⟨i₂, h2, h3⟩
    · exact .inl h
    · by_cases ej : j = k
      · subst ej
        exact .inr ⟨hdk, by omega⟩
      · have hq := hz j i₂ ej h2 h3
        have hkj := (hp.rel.kin j i₂ h2).1
        exact .inr ⟨hdm j hq.1, by omega⟩
  · by_cases ej : j = k
    · subst ej; exact ⟨i, hi⟩
    · obtain ⟨o, g1, g2⟩ := h1
      rw [hobj, if_neg ej] at g1
      exact absurd ⟨o, g1, g2⟩ h2
  · exact ⟨rfl, rfl, rfl, by simp [putObj], fun B _ hu => putObj_other fun e => hu k i hi hro e.symm⟩

/-! ### unsafe.SliceData, unsafe.String -/
theorem just1_eq {α : Type} {l : List α} {a : α} (h : just1 l = some a) : l = [a] := by
  match l, h with
  | [b], h => cases h; rfl
theorem just2_eq {α : Type} {l : List α} {a b : α} (h : just2 l = some (a, b)) : l = [a, b] := by
  match l, h with
  | [_, _], h => cases h; rfl
theorem sim_sliceData {tys : Array TypeId} {ty : TypeId} {x v : Value} {args' : Array Value} (h : sliceDataV x = some v) (hx : VRs π D [x] args'.toList) (hp : Pre σ σ π δ D H w) : Does P σ σ π δ D H w v (Builtin.unsafeSliceData_ tys ty args') := by
  obtain ⟨x', r, h1, h2, h3⟩ := hx.split
  rw [h3.empty] at h1
  obtain rfl : args' = #[x'] := by cases args'; cases h1; rfl
  unfold sliceDataV at h
  split at h
  · cases h
    cases h2 with
    | sl0 n c hn => exact ⟨_, π, D, w, rfl, .ptr0, .refl hp⟩
  · rename_i a n c
    rw [iff_eq] at h
    split at h
    · cases h
    rename_i hn
    rw [Tr.isZ_iff] at hn
    cases h
    have key : ∃ a' c', x' = .slice (some a') n c' ∧ c' ≠ 0 ∧ AR π D ⟨a.block, a.off, none⟩ a' := by
      cases h2 with
      | sl n c hc hs ha => exact ⟨_, _, rfl, by omega, ha⟩
      | slz => exact absurd rfl hn
      | slo n c c' hc hs ha =>
        refine ⟨_, _, rfl, by have := ha.2.1; omega, ha.1, ?_⟩
        rcases ha.2.2 with ⟨i, g1, g2, g3, g4⟩ | ⟨g1, g2⟩
        · refine .inl ⟨i, g1, g2, ?_⟩
          rcases g4 with ⟨g4, _⟩ | ⟨g4, _⟩
          · exact g4
          · exact absurd g4 hn
        · exact .inr ⟨g1, g2⟩
    obtain ⟨a', c', rfl, hc, ha⟩ := key
    exact ⟨_, π, D, w, Lib.run_unsafeSliceData_row w tys ty a' n c' hc, .ptr rfl ha, .refl hp⟩
  · cases h
theorem byteOf_eq {v : Value} {b : UInt8} (h : byteOf v = some b) : ∃ n : Int, v = .int .u8 n ∧ b = UInt8.ofNat n.toNat := by
  cases v <;> simp only [byteOf, reduceCtorEq] at h
  rename_i k n
  cases k <;> simp only [reduceCtorEq, Option.some.injEq] at h
  exact ⟨n, rfl, h.symm⟩
theorem bytesOf_eq : ∀ (vs : List Value) (l : List UInt8), bytesOf vs = some l → ∃ ns : List Int, vs = ns.map (Value.int .u8) ∧ l = ns.map fun n => UInt8.ofNat n.toNat
  | [], l, h => by simp only [bytesOf, Option.some.injEq] at h; exact ⟨[], rfl, h.symm⟩
  | v :: vs, l, h => by
    obtain ⟨b, h1, e1⟩ := andThen_eq (show andThen (byteOf v) (fun b => andThen (bytesOf vs) fun r => some (b :: r)) = some l from h)
    obtain ⟨r, h2, e2⟩ := andThen_eq e1
    cases e2
    obtain ⟨n, rfl, rfl⟩ := byteOf_eq h1
    obtain ⟨ns, rfl, rfl⟩ := bytesOf_eq vs r h2
    exact ⟨n :: ns, rfl, rfl⟩

theorem run_loadNs : ∀ (ns : List Int) (a : Addr) (acc : ByteArray), (∀ (j : Nat) n, ns[j]? = some n → w.cell? (a.add j) = some (.int .u8 n)) →
    (loadBytes a acc ns.length).run P w = .ok ⟨acc.data ++ (ns.map fun n => UInt8.ofNat n.toNat).toArray⟩ w
  | [], a, acc, _ => by simp [loadBytes]
  | x :: l, a, acc, h => by
    have h0 : w.cell? a = some (.int .u8 x) := by
      have := h 0 x rfl
      simpa [Addr.add] using this
    have ih := run_loadNs l (a.add 1) (acc.push (UInt8.ofNat x.toNat)) (fun j y hy => by
      have := h (j + 1) y (by simpa using hy)
      have e : (a.add 1).add j = a.add (j + 1) := by
        unfold Addr.add
        by_cases hj : j = 0
        · subst hj; simp
        · simp [hj]; omega
      rw [e]; exact this)
    simp only [List.length_cons, loadBytes, Sem.run_bind, run_load, h0, Result.andThen]
    refine Eq.trans ih ?_
    congr 1
    apply ByteArray.ext
    simp [ByteArray.push]
/-- unsafe.String over bytes of a row -/
theorem run_unsafeString_at {pt ty e : TypeId} {tys : Array TypeId} {k : IntKind} (ht : tys[0]? = some pt) (hp : P.underlying pt = some (.pointer e)) (hc : P.cellsOf e = 1) {g off cells : Nat} (hsh : w.shape? g = some (e, cells)) {l : List Int} (h0 : l ≠ []) (hn : off + l.length ≤ cells) (h63 : l.length ≤ 9223372036854775807)
    (hcell : ∀ (j : Nat) x, l[j]? = some x → w.cell? ((⟨g, off, none⟩ : Addr).add j) = some (.int .u8 x)) :
    (Builtin.unsafeString_ tys ty #[.pointer (some ⟨g, off, none⟩), .int k l.length]).run P w = .ok (.string ⟨⟨l.map fun n => UInt8.ofNat n.toNat⟩⟩) (w.freeze ⟨g, off, none⟩ l.length) := by
  have hl : l.length ≠ 0 := by simpa using h0
  have hlb := run_loadNs (P := P) (w := w) l ⟨g, off, none⟩ .empty hcell
  have hlies := lies_self (P := P) hc (by decide) (cells / P.cellsOf e) l.length off (by rw [hc]; simpa using hn)
  rw [Nat.mul_one] at hlies
  have h63' : ¬ (9223372036854775807 : Int) < (l.length : Int) := by omega
  have hmax : IntKind.i64.max = 9223372036854775807 := rfl
  have hneg : ¬ (l.length : Int) < 0 := by omega
  have hlb' : (⟨(ByteArray.empty).data ++ (l.map fun n => UInt8.ofNat n.toNat).toArray⟩ : ByteArray) = ⟨⟨l.map fun n => UInt8.ofNat n.toNat⟩⟩ := by simp [ByteArray.empty, ByteArray.emptyWithCapacity]; rfl
  rw [hlb'] at hlb
  show Sem.run P (asInt (.int k l.length) >>= _) w = _
  simp [asInt, asIntOf, ht, hmax, h63', hneg, hl, variablesAt, hsh, elemOf, run_underlying hp, hlies, hlb]
theorem freeze_put {g off n : Nat} {cc : Array Value} {e : TypeId} {fz : Nat × Nat} (hB : w.heap[g]? = some (.cells cc e fz)) (hn : n ≠ 0) : ∃ O, w.freeze ⟨g, off, none⟩ n = putObj w g O := by
  have hlt := blk_lt hB
  have hg : w.heap[g] = .cells cc e fz := by
    have := Array.getElem?_eq_getElem hlt
    rw [this] at hB
    exact Option.some.inj hB
  unfold World.freeze
  rw [if_neg hn]
  refine ⟨.cells cc e (if fz.1 == fz.2 then (off, off + n) else (min fz.1 off, max fz.2 (off + n))), ?_⟩
  unfold putObj
  congr 1
  apply Array.ext_getElem?
  intro j
  rw [Array.getElem?_modify, Array.getElem?_setIfInBounds]
  by_cases hj : g = j
  · subst hj
    rw [if_pos rfl, if_pos rfl, if_pos hlt, hB]
    rfl
  · rw [if_neg hj, if_neg hj]
theorem strAt_eq {pt b off m : Nat} {v : Value} (h : strAt T pt b off m σ = some (v, σ')) : ∃ u c e org q, ∃ ns : List Int, desc T pt = some (.pointer u) ∧ size T u = some 1 ∧ σ.obj b = some (.cells c e org false false) ∧ typedQ e = some q ∧ half q = u ∧
    sub c off m = some (ns.map (Value.int .u8)) ∧ v = .string ⟨⟨ns.map fun n => UInt8.ofNat n.toNat⟩⟩ ∧ σ' = ⟨σ.heap.set b (.cells c e org false true), σ.next, min org σ.low, min b σ.klow⟩ := by
  obtain ⟨d, h1, e1⟩ := andThen_eq h
  obtain ⟨u, h2, e2⟩ := andThen_eq e1
  obtain ⟨s, h3, e3⟩ := andThen_eq e2
  obtain ⟨c, e, org, h4, e4⟩ := andThen3_eq e3
  obtain ⟨q, h5, e5⟩ := andThen_eq e4
  obtain ⟨h6, e6⟩ := iff_some e5
  obtain ⟨cs, h7, e7⟩ := andThen_eq e6
  obtain ⟨l, h8, e8⟩ := andThen_eq e7
  cases e8
  rw [Bool.and_eq_true, beq_iff, beq_iff] at h6
  obtain ⟨rfl, rfl⟩ := h6
  obtain rfl := ptrTo_eq h2
  obtain ⟨o, g1, g2⟩ := andThen_eq h4
  rw [rowsOf_eq g2] at g1
  obtain ⟨ns, rfl, rfl⟩ := bytesOf_eq cs l h8
  exact ⟨_, c, e, org, q, ns, h1, h3, g1, h5, rfl, h7, rfl, by rw [ASt.lower, minN_eq, minN_eq]⟩
theorem sim_string (hT : TyOk P T) {tys : Array TypeId} {ty : TypeId} {args : List Value} {args' : Array Value} {v : Value} (h : bString T tys.toList args σ = some (v, σ')) (ha : VRs π D args args'.toList) (hp : Pre σ σ' π δ D H w) :
    Does P σ σ' π δ D H w v (Builtin.unsafeString_ tys ty args') := by
  obtain ⟨pt, r, h1, e1⟩ := andThen2_eq h
  obtain ⟨p, x, h2, e2⟩ := andThen2_eq e1
  obtain ⟨k, n, h3, e3⟩ := andThen2_eq e2
  obtain ⟨m, h4, e4⟩ := andThen_eq e3
  have ht : tys[0]? = some pt := by
    rw [← Array.getElem?_toList]
    cases hl : tys.toList with
    | nil => rw [hl] at h1; cases h1
    | cons a l => rw [hl] at h1; cases h1; rfl
  obtain rfl := just2_eq h2
  obtain ⟨p', r1, g1, g2, g3⟩ := ha.split
  obtain ⟨x', r2, g4, g5, g6⟩ := g3.split
  rw [g6.empty] at g4
  rw [g4] at g1
  obtain rfl : args' = #[p', x'] := by cases args'; cases g1; rfl
  obtain rfl := asI_eq h3
  obtain rfl := g5.int_inv
  obtain ⟨hm0, hm1, rfl⟩ := upTo_eq h4
  rw [iff_eq] at e4
  split at e4
  · rename_i hz
    rw [Tr.isZ_iff] at hz
    have hn0 : n = 0 := by omega
    subst hn0
    obtain ⟨hpp, e5⟩ := iff_some e4
    cases e5
    cases p with
    | pointer a =>
      obtain ⟨a', rfl⟩ : ∃ a', p' = .pointer a' := by cases g2 <;> exact ⟨_, rfl⟩
      refine ⟨_, π, D, w, ?_, .string _, .refl hp⟩
      have hmax : IntKind.i64.max = 9223372036854775807 := rfl
      cases a' <;> (show Sem.run P (asInt (.int k 0) >>= _) w = _; simp [ht, asInt, asIntOf, hmax])
    | _ => cases hpp
  · rename_i hz
    rw [Tr.isZ_iff] at hz
    obtain ⟨b, off, h5, h6⟩ := andThen2_eq e4
    obtain rfl := asPtr_eq h5
    obtain ⟨a', rfl, hA⟩ := g2.ptr_inv
    obtain ⟨u, c, e, org, q, ns, q1, q2, q3, q4, q5, q6, rfl, hs⟩ := strAt_eq h6
    subst q5
    obtain ⟨i, hi, cc, elem, fz, t1, t2, t3, t4, t5, t6, t7, t8, t9, t10⟩ := hp.here q3 rfl hA.known
    obtain ⟨cc', fz', t11, _⟩ := hp.rel.typ b i hi q t9 (by rw [t7]; exact q4)
    rw [t1] at t11; cases t11
    obtain rfl := hA.at hi
    obtain ⟨hsub, hcs⟩ := sub_eq q6
    have hsub := hsub.resolve_left hz
    have hlen : ns.length = n.toNat := by
      have h7 := congrArg List.length hcs
      rw [List.length_map, List.length_take, List.length_drop] at h7
      omega
    have hn : n = (ns.length : Int) := by omega
    have hvs : (cc.toList.drop (i.sh + off)).take n.toNat = ns.map (Value.int .u8) := by
      have h8 := (t5.drop off).take n.toNat
      rw [← hcs, window_sub (by omega)] at h8
      exact h8.ints fun v hv => by
        obtain ⟨x, _, rfl⟩ := List.mem_map.1 hv
        exact ⟨_, _, rfl⟩
    have hcell : ∀ (j : Nat) x, ns[j]? = some x → w.cell? ((⟨i.blk, i.sh + off, none⟩ : Addr).add j) = some (.int .u8 x) := fun j x hj => by
      have hjl := (List.getElem?_eq_some_iff.1 hj).1
      have h9 : (ns.map (Value.int .u8))[j]? = some (.int .u8 x) := by rw [List.getElem?_map, hj]; rfl
      rw [← hvs, List.getElem?_take, if_pos (by omega), List.getElem?_drop] at h9
      have hadd : (Addr.mk i.blk (i.sh + off) none).add j = ⟨i.blk, i.sh + off + j, none⟩ := by
        unfold Addr.add
        by_cases h0 : j = 0
        · subst h0; simp
        · simp [h0]
      rw [hadd]
      simp only [World.cell?, t1, Option.isSome_none, Bool.false_eq_true, if_false]
      rw [← Array.getElem?_toList]
      exact h9
    have h0 : ns ≠ [] := fun h => hz (by rw [h] at hlen; exact hlen.symm)
    rw [hn]
    obtain ⟨O, hO⟩ := freeze_put (off := i.sh + off) (n := ns.length) t1 (by omega)
    have hpo := post_lose (O := O) hs hp q3 hi t8 t9
    rw [← hO] at hpo
    exact ⟨_, lose π i.blk, lost π i.blk D, _, run_unsafeString_at ht (und_desc hT q1) (cells_size hT q2).1 (shape_of t1) h0 (by omega) (by omega) hcell, .string _, hpo⟩
end
end Go.Abs

/- THE ABSTRACT MACHINE's OPERATIONS, ONE BY ONE, HELD AGAINST THE MODEL's: conversions, len, cap, min and max, type assertions; and what is built in. -/
namespace Go.Abs

section
variable {P : Program} {T : Tab} {σ σ' : ASt} {π : PMap} {δ D : Nat → Prop} {H : Nat → Option AObj} {w : World}

theorem intKind_eq {d : TypeDesc} {k : IntKind} (h : intKind d = some k) : d = .int k := by
  cases d <;> simp [intKind] at h; subst h; rfl
theorem isU8_eq {e : TypeId} (h : isU8 T e = true) : desc T e = some (.int .u8) := by
  unfold isU8 at h
  split at h
  · rename_i h1
    obtain ⟨d, h2, h3⟩ := andThen_eq h1
    rw [intKind_eq h3] at h2
    exact h2
  · cases h

theorem sim_bytesToString (hp : Pre σ σ' π δ D H w) {a : Addr} {len cap : Nat} {cs : List Value} {l : List UInt8} {x' : Value} (h1 : σ.cellsAt a.block a.off len = some cs) (h2 : bytesOf cs = some l) (hx : VR π D (.slice (some a) len cap) x') :
    (Conv.bytesToString x').run P w = .ok (.string ⟨⟨l⟩⟩) w := by
  obtain ⟨ns, rfl, rfl⟩ := bytesOf_eq cs l h2
  have hle := hx.sl_le
  by_cases h0 : len = 0
  · subst h0
    obtain ⟨a', c', rfl⟩ := hx.sl_some
    have : ns.map (Value.int .u8) = [] := by
      obtain ⟨c, _, e1⟩ := andThen_eq h1
      obtain ⟨_, e2⟩ := sub_eq e1
      rw [e2]; simp
    have hns : ns = [] := by simpa using this
    subst hns
    simp [Conv.bytesToString, loadCells, loadCellsFrom, ByteArray.empty, ByteArray.emptyWithCapacity]
    rfl
  · obtain ⟨a', c', rfl, _, ha⟩ := slice_room hx (by omega)
    obtain ⟨r', h3, h4, _, _⟩ := sim_cells (P := P) hp h1 ha
    have hr : r' = ns.map (Value.int .u8) := h4.ints (fun v hv => by
      obtain ⟨n, _, rfl⟩ := List.mem_map.1 hv
      exact ⟨_, _, rfl⟩)
    subst hr
    rw [run_bytesToString w a' len c' ns h3, foldl_push_bytes]
    simp [ByteArray.empty, ByteArray.emptyWithCapacity]
    rfl

theorem freeze_new (cc : Array Value) (e : TypeId) : ((w.drew.alloc (.cells cc e)).freeze { block := w.heap.size, off := cc.size } 1) = w.drew.alloc (.cells cc e (cc.size, cc.size + 1)) := by
  unfold World.freeze
  rw [if_neg (by omega)]
  show World.mk _ _ _ _ _ = World.mk _ _ _ _ _
  congr 1
  apply Array.ext_getElem?
  intro j
  rw [Array.getElem?_modify]
  show (if w.heap.size = j then Option.map _ ((w.heap.push (.cells cc e))[j]?) else ((w.heap.push (.cells cc e))[j]?)) = (w.heap.push (.cells cc e (cc.size, cc.size + 1)))[j]?
  rw [Array.getElem?_push, Array.getElem?_push]
  by_cases h : w.heap.size = j
  · subst h; simp
  · rw [if_neg h, if_neg (Ne.symm h), if_neg (Ne.symm h)]

theorem sim_datString (hp : Pre σ σ' π δ D H w) {rows cs : List Value} {l : List UInt8} {x' : Value} (h1 : rowsCells 1 rows = some cs) (h2 : bytesOf cs = some l) (hx : VR π D (dat rows) x') :
    ∃ a' n c', x' = .slice a' n c' ∧ (Conv.bytesToString x').run P w = .ok (.string ⟨⟨l⟩⟩) w := by
  obtain ⟨ns, rfl, rfl⟩ := bytesOf_eq cs l h2
  have hlen := rowsCells_len h1
  rw [List.length_map, Nat.mul_one] at hlen
  rcases hx.dat_inv with ⟨rfl, c, rfl⟩ | ⟨cs2, cs', z2, c', a', rfl, hr, hc, hf, ho, hv, _⟩
  · refine ⟨none, 0, c, rfl, ?_⟩
    simp only [List.length_nil] at hlen
    have : ns = [] := List.eq_nil_of_length_eq_zero hlen
    subst this
    rfl
  · refine ⟨some a', rows.length, c', rfl, ?_⟩
    rcases hf with rfl | ⟨hs, cc, hf, hw1, hw2⟩
    · simp only [List.length_nil] at hlen
      have : ns = [] := List.eq_nil_of_length_eq_zero hlen
      subst this
      simp [Conv.bytesToString, loadCells, loadCellsFrom, ByteArray.empty, ByteArray.emptyWithCapacity]
      rfl
    · obtain ⟨b, x, sp⟩ := a'
      simp only at hs
      subst hs
      simp only at hf hw1 hw2
      obtain ⟨elem, fz, hB⟩ := hp.rel.frz b cc hf
      have hcs : cs2 = ns.map (Value.int .u8) := by
        cases rows with
        | nil =>
          cases (show some [] = some cs2 from hr)
          exact Option.some.inj (show some [] = some (ns.map (Value.int .u8)) from h1)
        | cons r rows =>
          obtain ⟨c1, _, g1, g2, _⟩ := rowsCells_cons h1
          obtain ⟨c2, _, g3, g4, _⟩ := rowsCells_cons hr
          rw [g1] at g3
          cases g3
          have : z2 = 1 := by omega
          subst this
          have := (show rowsCells 1 (r :: rows) = some cs2 from hr).symm.trans h1
          cases this
          rfl
      subst hcs
      have hl := hv.1
      rw [List.length_map] at hl
      have hr' : cs' = ns.map (Value.int .u8) := hv.ints (fun v hv => by
        obtain ⟨n, _, rfl⟩ := List.mem_map.1 hv
        exact ⟨_, _, rfl⟩)
      have hrun : (loadCells ⟨b, x, none⟩ rows.length).run P w = .ok ⟨ns.map (Value.int .u8)⟩ w := by
        rw [run_loadCells hB (by show x + rows.length ≤ cc.length; omega)]
        congr 2
        show (cc.drop x).take rows.length = _
        rw [← hr', ← hw2]
        congr 1; omega
      rw [run_bytesToString w ⟨b, x, none⟩ rows.length c' ns hrun, foldl_push_bytes]
      simp [ByteArray.empty, ByteArray.emptyWithCapacity]
      rfl

theorem sim_convert (hT : TyOk P T) {src dst : TypeId} {x x' v : Value} (h : convV T src dst x σ = some (v, σ')) (hx : VR π D x x') (hp : Pre σ σ' π δ D H w) : Does P σ σ' π δ D H w v (convert src dst x') := by
  obtain ⟨ds, h1, e1⟩ := andThen_eq h
  obtain ⟨dd, h2, e2⟩ := andThen_eq e1
  cases dd <;> simp only [convD, reduceCtorEq] at e2
  case unsafePointer => exact sim_toUns hT h1 h2 e2 hx hp
  case pointer u => exact sim_fromUns hT h1 h2 e2 hx hp
  case int k =>
    obtain ⟨k2, n, h3, h4⟩ := andThen2_eq e2
    simp only [Option.some.injEq, Prod.mk.injEq] at h4
    obtain ⟨rfl, rfl⟩ := h4
    obtain rfl := asI_eq h3
    obtain rfl := hx.int_inv
    refine ⟨_, π, D, w, ?_, .int _ _, .refl hp⟩
    simp only [convert, Sem.run_bind, run_desc hT h1, run_desc hT h2, Result.andThen_ok, Conv.intToInt, Sem.run_pure, wrapQ_eq]
  case string =>
    cases x <;> simp only [convStr, reduceCtorEq] at e2
    case string s =>
      cases e2
      obtain rfl := hx.string_inv
      refine ⟨_, π, D, w, ?_, .string _, .refl hp⟩
      simp only [convert, Sem.run_bind, run_desc hT h1, run_desc hT h2, Result.andThen_ok, Sem.run_pure]
    case int k n =>
      cases e2
      obtain rfl := hx.int_inv
      refine ⟨_, π, D, w, ?_, .string _, .refl hp⟩
      simp only [convert, Sem.run_bind, run_desc hT h1, run_desc hT h2, Result.andThen_ok, Conv.intToString, Sem.run_pure]
    case slice a len cap =>
      obtain ⟨e, h3, e3⟩ := andThen_eq e2
      obtain ⟨h4, e4⟩ := iff_some e3
      obtain rfl := sliceElem_eq h3
      have h5 := isU8_eq h4
      obtain ⟨a', c', rfl⟩ := asSl_VR hx
      have hrun : (convert src dst (.slice a' len c')).run P w = (Conv.bytesToString (.slice a' len c')).run P w := run_convert_bytes_string w src dst e a' len c' (und_desc hT h1) (und_desc hT h5) (und_desc hT h2)
      cases a with
      | none =>
        cases e4
        have := hx.sl_none
        cases this
        exact ⟨_, π, D, w, hrun, .string _, .refl hp⟩
      | some a =>
        obtain ⟨cs, h6, e5⟩ := andThen_eq e4
        obtain ⟨l, h7, e6⟩ := andThen_eq e5
        cases e6
        exact ⟨_, π, D, w, hrun.trans (sim_bytesToString hp h6 h7 hx), .string _, .refl hp⟩
    case tuple vs =>
      obtain ⟨e, h3, e3⟩ := andThen_eq e2
      obtain ⟨h4, e4⟩ := iff_some e3
      obtain ⟨rows, h6, e5⟩ := andThen_eq e4
      obtain ⟨cs, h7, e6⟩ := andThen_eq e5
      obtain ⟨l, h8, e7⟩ := andThen_eq e6
      cases e7
      obtain rfl := sliceElem_eq h3
      have h5 := isU8_eq h4
      rw [datL_eq h6] at hx
      obtain ⟨a', n, c', rfl, h9⟩ := sim_datString hp h7 h8 hx
      have hrun : (convert src dst (.slice a' n c')).run P w = (Conv.bytesToString (.slice a' n c')).run P w := run_convert_bytes_string w src dst e a' n c' (und_desc hT h1) (und_desc hT h5) (und_desc hT h2)
      exact ⟨_, π, D, w, hrun.trans h9, .string _, .refl hp⟩
  case slice e =>
    obtain ⟨s, h3, e3⟩ := andThen_eq e2
    obtain ⟨h4, e4⟩ := iff_some e3
    obtain ⟨rfl, rfl⟩ := openSlice_eq e4
    obtain ⟨b, rfl, rfl⟩ := asS_eq h3
    obtain rfl := hx.string_inv
    have h5 := isU8_eq h4
    obtain ⟨⟨l⟩⟩ := b
    rw [lenQ_eq]
    have hle := grownCap_le w l.length 0 e
    have hsz : (ByteArray.mk ⟨l⟩).size = l.length := rfl
    have hel : ((ByteArray.mk ⟨l⟩).data.map fun b => Value.int .u8 (b.toNat : Int)) = ⟨byteCells l⟩ := by simp [byteCells_eq]
    have hbl : (byteCells l).length = l.length := by rw [byteCells_eq, List.length_map]
    obtain ⟨cc, hcc⟩ : ∃ cc : Array Value, cc = ⟨byteCells l⟩ ++ Array.replicate (grownCap w l.length 0 e - l.length) (.int .u8 0) := ⟨_, rfl⟩
    have hcs : cc.size = grownCap w l.length 0 e := by rw [hcc]; simp only [Array.size_append, Array.size_replicate, List.size_toArray, hbl]; omega
    obtain ⟨π', h6, h7⟩ := post_room (need := l.length) (cap := grownCap w l.length 0 e) (cc.size, cc.size + 1) (fun y hy h => by simp only at h; omega) (elem := e) (cc := cc) (rest := List.replicate (grownCap w l.length 0 e - l.length) (.int .u8 0)) hp.drew (byteCells_VRs l) (byteCells_one l) (by rw [hcc]; simp)
      (by rw [hcs]; omega) hle (Nat.le_refl _) (.inl rfl) (.row e)
    refine ⟨_, π', D, _, ?_, h7, h6.drew⟩
    have hch : (choose (.appendCap l.length 0 e)).run P w = .ok (grownCap w l.length 0 e) w.drew := by
      rw [run_choose]; rfl
    have hsh : (w.drew.alloc (.cells cc e)).shape? w.heap.size = some (e, cc.size) := by
      simp only [World.shape?]
      rw [show (w.drew.alloc (.cells cc e)).heap[w.heap.size]? = some (.cells cc e) from by
        rw [heap_alloc]; exact if_pos rfl]
    simp only [convert, Sem.run_bind, run_desc hT h1, run_desc hT h2, Result.andThen_ok, run_desc hT h5, Conv.stringToBytes, hsz, hch, newRow, run_newObj', hel, ← hcc, markStringish, run_shape, Sem.run_pure]
    rw [show w.drew.heap.size = w.heap.size from rfl, hsh]
    simp only [run_freeze, freeze_new, Result.andThen_ok]

/-! ### len, cap, min, max -/

theorem goNat_eq {o : Option Nat} {v : Value} (h : goNat o = some v) : ∃ n, o = some n ∧ v = .int .i64 (Int.ofNat n) := by
  obtain ⟨n, h1, h2⟩ := andThen_eq h
  cases h2
  exact ⟨n, h1, rfl⟩

theorem lenSl_ok {x x' : Value} {n : Nat} (h : lenSl x = some n) (hx : VR π D x x') : ∃ a' c', x' = .slice a' n c' := by
  cases x with
  | slice a n0 c => cases (show some n0 = some n from h); exact asSl_VR hx
  | tuple vs =>
    obtain ⟨rows, h1, h2⟩ := andThen_eq (show andThen (datL vs.toList) (fun rows => some (lenQ rows)) = some n from h)
    rw [lenQ_eq] at h2
    cases h2
    rw [datL_eq h1] at hx
    rcases hx.dat_inv with ⟨rfl, c, rfl⟩ | ⟨_, _, _, c', a', rfl, _⟩
    · exact ⟨_, _, rfl⟩
    · exact ⟨_, _, rfl⟩
  | _ => cases (show none = some n from h)
theorem sim_len (hT : TyOk P T) {t ty : TypeId} {x x' v : Value} {tys : Array TypeId} {args : Array Value} (h : lenB T σ t x = some v) (hx : VR π D x x') (ht : tys[0]? = some t) (ha : args[0]? = some x') (hp : Pre σ σ' π δ D H w) :
    (Builtin.len_ tys ty args).run P w = .ok v w ∧ VR π D v v := by
  obtain ⟨d, h1, e1⟩ := andThen_eq h
  obtain ⟨n, h2, rfl⟩ := goNat_eq e1
  refine ⟨?_, .int _ _⟩
  cases d <;> simp only [lenD, reduceCtorEq] at h2
  case string =>
    obtain ⟨s, h3, h4⟩ := andThen_eq h2
    obtain ⟨b, rfl, rfl⟩ := asS_eq h3
    obtain rfl := hx.string_inv
    rw [lenQ_eq] at h4
    cases h4
    simp only [Builtin.len_, ht, ha, Sem.run_bind, run_desc hT h1, Result.andThen_ok, Sem.run_pure]
    rfl
  case array m e =>
    cases h2
    simp only [Builtin.len_, ht, ha, Sem.run_bind, run_desc hT h1, Result.andThen_ok, Sem.run_pure]
    rfl
  case slice e =>
    obtain ⟨a', c', rfl⟩ := lenSl_ok h2 hx
    simp only [Builtin.len_, ht, ha, Sem.run_bind, run_desc hT h1, Result.andThen_ok, Sem.run_pure]
    rfl
  case map k e =>
    obtain ⟨r, h3, e3⟩ := andThen_eq h2
    obtain ⟨es, h4, h5⟩ := andThen_eq e3
    rw [lenQ_eq] at h5
    cases h5
    obtain rfl := asM_eq h3
    cases r with
    | none =>
      obtain rfl := hx.map_none
      cases (show some [] = some es from h4)
      simp only [Builtin.len_, ht, ha, Sem.run_bind, run_desc hT h1, Result.andThen_ok, Sem.run_pure]
      rfl
    | some r =>
      obtain ⟨es0, c, h5, h6⟩ := andThen2_eq (show andThen2 (andThen (σ.obj r) entriesOf) (fun es _ => some es) = some es from h4)
      cases h6
      obtain ⟨i, es', _, rfl, _, hB, hmr, _, _⟩ := hp.entries h5 hx
      simp only [Builtin.len_, ht, ha, Sem.run_bind, run_desc hT h1, Result.andThen_ok, Sem.run_pure, run_getObj_map hB]
      rw [hmr.1]
      rfl
  case pointer a =>
    obtain ⟨d2, h3, e3⟩ := andThen_eq h2
    obtain ⟨m, e, h4, h5⟩ := andThen2_eq e3
    cases h5
    have : d2 = .array n e := by
      cases d2 <;> simp [arrOf] at h4
      obtain ⟨rfl, rfl⟩ := h4; rfl
    subst this
    simp only [Builtin.len_, ht, ha, Sem.run_bind, run_desc hT h1, Result.andThen_ok, Sem.run_pure, run_desc hT h3]
    rfl

theorem sim_cap (hT : TyOk P T) {t ty : TypeId} {x x' v : Value} {tys : Array TypeId} {args : Array Value} (h : capB T t x = some v) (hx : VR π D x x') (ht : tys[0]? = some t) (ha : args[0]? = some x') (w : World) :
    (Builtin.cap_ tys ty args).run P w = .ok v w ∧ VR π D v v := by
  obtain ⟨d, h1, e1⟩ := andThen_eq h
  obtain ⟨n, h2, rfl⟩ := goNat_eq e1
  refine ⟨?_, .int _ _⟩
  cases d <;> simp only [capD, reduceCtorEq] at h2
  case array m e =>
    cases h2
    simp only [Builtin.cap_, ht, ha, Sem.run_bind, run_desc hT h1, Result.andThen_ok, Sem.run_pure]
    rfl
  case slice e =>
    obtain ⟨a, n1, c, h3, e3⟩ := andThen3_eq h2
    obtain ⟨h4, h5⟩ := iff_some e3
    cases h5
    obtain rfl := asSl_eq h3
    have : ∃ a', x' = .slice a' n1 n := by
      cases hx with
      | sl0 => exact ⟨_, rfl⟩
      | sl => exact ⟨_, rfl⟩
      | slz => exact ⟨_, rfl⟩
      | slo n c c' hn hs ha =>
        rename_i a0 _ _ _
        obtain ⟨b, o, s⟩ := a0
        cases s with
        | none => cases hs
        | some s => cases h4
    obtain ⟨a', rfl⟩ := this
    simp only [Builtin.cap_, ht, ha, Sem.run_bind, run_desc hT h1, Result.andThen_ok, Sem.run_pure]
    rfl

theorem minV_run (b : Bool) : ∀ (r r' : List Value) (v v' u : Value), minV b r v = some u → VR π D v v' → VRs π D r r' → ∀ w : World, ∃ u', (r'.foldlM (if b then Builtin.min2 else Builtin.max2) v').run P w = .ok u' w ∧ VR π D u u'
  | [], r', v, v', u, h, hv, hr, w => by
    have : r' = [] := List.eq_nil_of_length_eq_zero hr.1.symm
    subst this
    cases (show some v = some u from h)
    exact ⟨v', rfl, hv⟩
  | x :: r, r', v, v', u, h, hv, hr, w => by
    obtain ⟨x', r2, rfl, hx, hr2⟩ := hr.split
    obtain ⟨k, n, h1, e1⟩ := andThen2_eq (show andThen2 (asI v) (fun k n => andThen2 (asI x) fun _ y => minV b r (.int k (iff b (iff (leQ n y) n y) (iff (leQ y n) n y)))) = some u from h)
    obtain ⟨k2, m, h2, e2⟩ := andThen2_eq e1
    obtain rfl := asI_eq h1
    obtain rfl := asI_eq h2
    obtain rfl := hv.int_inv
    obtain rfl := hx.int_inv
    obtain ⟨u', h3, h4⟩ := minV_run b r r2 _ _ u e2 (.int _ _) hr2 w
    refine ⟨u', ?_, h4⟩
    rw [List.foldlM_cons, Sem.run_bind, ← h3]
    cases b
    · simp only [Bool.false_eq_true, if_false, iff_false, Builtin.max2, Sem.run_pure, Result.andThen_ok]
      congr 3
      rw [iff_eq]
      by_cases hle : m ≤ n
      · rw [if_pos ((leQ_iff _ _).2 hle), if_neg (by omega)]
      · rw [if_neg (fun h => hle ((leQ_iff _ _).1 h)), if_pos (by omega)]
    · simp only [if_true, iff_true, Builtin.min2, Sem.run_pure, Result.andThen_ok]
      congr 3
      rw [iff_eq]
      by_cases hle : n ≤ m
      · rw [if_pos ((leQ_iff _ _).2 hle), if_neg (by omega)]
      · rw [if_neg (fun h => hle ((leQ_iff _ _).1 h)), if_pos (by omega)]

/-! ### type assertions -/

theorem sim_assert (hT : TyOk P T) {xT asserted : TypeId} {x x' v : Value} {ok : Bool} (h : assertV T x asserted ok = some v) (hx : VR π D x x') : Gives P π D v (Instr.typeAssert x' xT asserted ok) := by
  obtain ⟨d, h1, e1⟩ := andThen_eq h
  obtain ⟨o, h2, e2⟩ := andThen_eq e1
  have hfail : ∀ {u : Value}, assertFails T asserted ok = some u → ok = true ∧ ∃ z i, T.Y.get asserted = some i ∧ i.info.zero = some z ∧ u = .tuple #[z, .bool false] := by
    intro u hu
    obtain ⟨g1, g2⟩ := iff_some hu
    obtain ⟨z, g3, g4⟩ := andThen_eq g2
    cases g4
    obtain ⟨i, g5, g6⟩ := zero_eq g3
    exact ⟨g1, z, i, g5, g6, rfl⟩
  intro w
  rcases isNilI_eq h2 with ⟨rfl, rfl⟩ | ⟨t, u, rfl, rfl⟩
  · obtain rfl := hx.nilIface_inv
    obtain ⟨rfl, z, i, g1, g2, rfl⟩ := hfail e2
    refine ⟨_, ?_, VRs.tuple rfl (.cons (zero_const hT g1 g2 π D) (.one (.bool _)))⟩
    simp only [Instr.typeAssert, Sem.run_bind, run_desc hT h1, Result.andThen_ok]
    cases d <;> simp only [if_true, Sem.run_bind, run_zero hT g1 g2, Result.andThen_ok, Sem.run_pure]
  · obtain ⟨u', rfl, hu⟩ := hx.iface_inv
    by_cases hd : ∃ want, d = .interface want
    · obtain ⟨want, rfl⟩ := hd
      obtain ⟨i, hi, e3⟩ := andThen_eq (show andThen (Abs.ty T t) (fun i => match Instr.missingMethod want i.info.methods with | none => some (okOr ok (.iface t u) true) | some _ => assertFails T asserted ok) = some v from e2)
      cases hm : Instr.missingMethod want i.info.methods with
      | none =>
        rw [hm] at e3
        cases e3
        refine ⟨_, ?_, okOr_sim (.iface t hu)⟩
        simp only [Instr.typeAssert, Sem.run_bind, run_desc hT h1, Result.andThen_ok, run_info hT hi, hm, Sem.run_pure]
      | some m =>
        rw [hm] at e3
        obtain ⟨rfl, z, i2, g1, g2, rfl⟩ := hfail e3
        refine ⟨_, ?_, VRs.tuple rfl (.cons (zero_const hT g1 g2 π D) (.one (.bool _)))⟩
        simp only [Instr.typeAssert, Sem.run_bind, run_desc hT h1, Result.andThen_ok, run_info hT hi, hm, if_true, run_zero hT g1 g2, Sem.run_pure]
    · have e3 : iff (Nat.beq t asserted) (some (okOr ok u true)) (assertFails T asserted ok) = some v := by
        cases d <;> first | exact e2 | exact absurd ⟨_, rfl⟩ hd
      rw [iff_eq] at e3
      by_cases ht : t = asserted
      · rw [if_pos ((beq_iff _ _).2 ht)] at e3
        cases e3
        refine ⟨_, ?_, okOr_sim hu⟩
        simp only [Instr.typeAssert, Sem.run_bind, run_desc hT h1, Result.andThen_ok]
        cases d <;> first | exact absurd ⟨_, rfl⟩ hd | simp only [if_pos ht, Sem.run_pure]
      · rw [if_neg (fun h => ht ((beq_iff _ _).1 h))] at e3
        obtain ⟨rfl, z, i2, g1, g2, rfl⟩ := hfail e3
        refine ⟨_, ?_, VRs.tuple rfl (.cons (zero_const hT g1 g2 π D) (.one (.bool _)))⟩
        simp only [Instr.typeAssert, Sem.run_bind, run_desc hT h1, Result.andThen_ok]
        cases d <;> first | exact absurd ⟨_, rfl⟩ hd | simp only [if_neg ht, if_true, Sem.run_bind, run_zero hT g1 g2, Result.andThen_ok, Sem.run_pure]
end
end Go.Abs

/- WHAT THE ABSTRACT MACHINE's OPERATIONS MAY CHANGE: numbers of blocks only grow, and what is written is marked. -/
namespace Go.Abs

section
variable {T : Tab} {σ σ' : ASt} {v : Value}

theorem val_eq {o : Option Value} (h : val σ o = some (v, σ')) : o = some v ∧ σ' = σ := by
  obtain ⟨u, h1, h2⟩ := andThen_eq h
  simp only [Option.some.injEq, Prod.mk.injEq] at h2
  obtain ⟨rfl, rfl⟩ := h2
  exact ⟨h1, rfl⟩
theorem unit_eq {o : Option ASt} (h : unit o = some (v, σ')) : o = some σ' ∧ v = undef := by
  obtain ⟨u, h1, h2⟩ := andThen_eq h
  simp only [Option.some.injEq, Prod.mk.injEq] at h2
  obtain ⟨rfl, rfl⟩ := h2
  exact ⟨h1, rfl⟩
theorem mono_val {o : Option Value} (h : val σ o = some (v, σ')) : Mono σ σ' := by rw [(val_eq h).2]; exact .refl σ

theorem mono_setAt {k off : Nat} {vs : List Value} (h : σ.setAt k off vs = some σ') : Mono σ σ' := by
  obtain ⟨c, e, org, ho, hlen, rfl⟩ := setAt_eq h
  exact (rewrite_set σ k _ _).mono ho (Nat.min_le_right _ _) (.cells (by simp; omega) (fun h => by cases h) (fun h => by cases h) (.inl (Nat.min_le_left _ _)) (.inr rfl))
theorem mono_setMap {r c c2 : Nat} {es es2 : List MapEntry} (ho : σ.obj r = some (.map es c)) : Mono σ (σ.setMap r es2 c2) := by
  have hlow : σ.lower r = min r σ.low := minN_eq _ _
  exact (rewrite_set σ r (.map es2 c2) (σ.lower r)).mono ho (by show σ.lower r ≤ σ.low; omega) (.other rfl (by simp [kindOf]) (.inl (by show σ.lower r ≤ r; omega)))
theorem mono_kill {k n z org : Nat} (h : σ.kill k n = some (z, org, σ')) : Mono σ σ' := by
  obtain ⟨c, hobj, _, rfl⟩ := kill_eq h
  refine ⟨Nat.le_refl _, Nat.le_refl _, Nat.min_le_right _ _, fun hw j hj => ?_, fun j _ => ?_⟩
  · show (σ.heap.set k _).get j = _
    have hk := obj_lt hw hobj
    rw [Tr.get_set, if_neg (by have : σ.next ≤ j := hj; omega)]; exact hw j hj
  · show ObjStep j _ _ (σ.obj j) ((σ.heap.set k (.cells c (some z) org false true)).get j)
    rw [Tr.get_set]
    by_cases e : j = k
    · subst e
      rw [if_pos rfl, hobj]
      exact .cells rfl (fun h => by cases h) (fun h => by cases h) (.inr rfl) (.inl (Nat.min_le_left _ _))
    · rw [if_neg e]; exact .refl _ _ _ _

theorem mono_newSlice {len cap : Nat} {c : List Value} (h : newSlice σ len cap c = some (v, σ')) : Mono σ σ' := by rw [(newSlice_eq h).2]; exact mono_new _ _
theorem mono_allocT {b : Bool} {t : TypeId} {c : List Value} (h : iff b (newTyped σ t c) (newVar σ c) = some (v, σ')) : Mono σ σ' := by
  rw [iff_eq] at h
  split at h
  · simp only [newTyped, Option.some.injEq, Prod.mk.injEq] at h
    obtain ⟨_, rfl⟩ := h
    exact mono_new _ _
  · simp only [newVar, Option.some.injEq, Prod.mk.injEq] at h
    obtain ⟨_, rfl⟩ := h
    exact mono_new _ _
theorem mono_newVar {c : List Value} (h : newVar σ c = some (v, σ')) : Mono σ σ' := by rw [(newVar_eq h).2]; exact mono_new _ _
theorem mono_openSlice {need z y org : Nat} {cs : List Value} (h : openSlice σ need cs z y org = some (v, σ')) : Mono σ σ' := by rw [(openSlice_eq h).2]; exact mono_new _ _

theorem mono_storeS {cs : List Value} {off : Nat} {v0 : Value} {a : Option Addr} (h : storeS σ cs off v0 a = some (v, σ')) : Mono σ σ' := by
  cases a with
  | none => cases (show some (v0, σ) = some (v, σ') from h); exact .refl σ
  | some a =>
    have h' : iff (isZ (lenQ cs)) (some (v0, σ)) (andThen (σ.setAt a.block (Nat.add a.off off) cs) fun σ' => some (v0, σ')) = some (v, σ') := h
    rw [iff_eq] at h'
    split at h'
    · cases h'; exact .refl σ
    · obtain ⟨σ1, h2, h3⟩ := andThen_eq h'
      cases h3
      exact mono_setAt h2

theorem mono_growV {z y len need : Nat} {cs : List Value} {a : Option Addr} (h : growV σ z y len need cs a = some (v, σ')) : Mono σ σ' := by
  by_cases hopen : ∃ k off s, a = some ⟨k, off, some s⟩
  · obtain ⟨k, off, s, rfl⟩ := hopen
    obtain ⟨_, e1⟩ := iff_some (show iff (Nat.beq s z) (andThen3 (σ.kill k (Nat.add off (Nat.mul len z))) fun z' org σ' => iff (or (Nat.beq z' y) (Nat.beq z' z)) (openSlice σ' need cs z z' org) none) none = some (v, σ') from h)
    obtain ⟨z', org, σ1, e2, e3⟩ := andThen3_eq e1
    obtain ⟨_, e5⟩ := iff_some e3
    exact (mono_kill e2).trans (mono_openSlice e5)
  · rw [growV_other (fun k off s h => hopen ⟨k, off, s, h⟩)] at h
    exact mono_openSlice h

theorem mono_append {sT xT : TypeId} {s x : Value} (h : appendV T sT xT s x σ = some (v, σ')) : Mono σ σ' := by
  obtain ⟨d, h1, e1⟩ := andThen_eq h
  obtain ⟨e, h2, e2⟩ := andThen_eq e1
  obtain ⟨ei, hi, e3⟩ := andThen_eq e2
  rcases tupElse_eq e3 with ⟨vs, rfl, e3⟩ | e3
  · obtain ⟨rows, h3, e4⟩ := andThen_eq e3
    obtain ⟨dx, h4, e5⟩ := andThen_eq e4
    obtain ⟨n, ys, h5, e6⟩ := andThen2_eq e5
    obtain ⟨h6, h7⟩ := iff_some e6
    cases h7
    exact .refl σ
  obtain ⟨base, len, cap, h3, e4⟩ := andThen3_eq e3
  obtain ⟨dx, h4, e5⟩ := andThen_eq e4
  obtain ⟨n, ys, h5, e6⟩ := andThen2_eq e5
  rw [iff_eq] at e6
  split at e6
  · exact mono_storeS e6
  · obtain ⟨_, e7⟩ := iff_some e6
    obtain ⟨_, _, e8⟩ := andThen_eq e7
    obtain ⟨_, _, e9⟩ := andThen_eq e8
    exact mono_growV e9

theorem mono_copy {t : TypeId} {d s : Value} (h : copyV T t d s σ = some (v, σ')) : Mono σ σ' := by
  obtain ⟨_, _, e1⟩ := andThen_eq h
  obtain ⟨_, _, e2⟩ := andThen_eq e1
  obtain ⟨_, _, e3⟩ := andThen_eq e2
  obtain ⟨_, _, _, _, e4⟩ := andThen3_eq e3
  obtain ⟨_, _, e5⟩ := andThen_eq e4
  obtain ⟨_, _, e6⟩ := andThen_eq e5
  exact mono_storeS e6

theorem mono_clear {t : TypeId} {x : Value} (h : clearV T t x σ = some (v, σ')) : Mono σ σ' := by
  obtain ⟨_, _, e1⟩ := andThen_eq h
  obtain ⟨_, _, e2⟩ := andThen_eq e1
  obtain ⟨_, _, e3⟩ := andThen_eq e2
  obtain ⟨_, _, e4⟩ := andThen_eq e3
  obtain ⟨_, _, _, _, e5⟩ := andThen3_eq e4
  obtain ⟨_, e6⟩ := iff_some e5
  exact mono_storeS e6

theorem mono_update {t : TypeId} {m k x : Value} (h : updateV T σ t m k x = some σ') : Mono σ σ' := by
  obtain ⟨_, _, _, e1⟩ := andThen2_eq h
  obtain ⟨_, _, e2⟩ := andThen_eq e1
  obtain ⟨r, _, e3⟩ := andThen_eq e2
  obtain ⟨es, c, h4, e4⟩ := andThen2_eq e3
  obtain ⟨hit, _, e5⟩ := andThen_eq e4
  obtain ⟨o, h6, h7⟩ := andThen_eq h4
  obtain rfl := entriesOf_eq h7
  cases hit with
  | none => cases e5; exact mono_setMap h6
  | some p =>
    obtain ⟨i, e⟩ := p
    obtain ⟨_, e6⟩ := iff_some e5
    cases e6; exact mono_setMap h6
theorem mono_delete {t : TypeId} {m k : Value} (h : deleteV T σ t m k = some σ') : Mono σ σ' := by
  obtain ⟨_, _, _, e1⟩ := andThen2_eq h
  obtain ⟨_, _, e2⟩ := andThen_eq e1
  obtain ⟨r, _, e3⟩ := andThen_eq e2
  obtain ⟨es, c, h4, e4⟩ := andThen2_eq e3
  obtain ⟨hit, _, e5⟩ := andThen_eq e4
  obtain ⟨o, h6, h7⟩ := andThen_eq h4
  obtain rfl := entriesOf_eq h7
  cases hit with
  | none => cases e5; exact mono_setMap h6
  | some p => cases e5; exact mono_setMap h6

theorem mono_strAt {pt b off m : Nat} (h : strAt T pt b off m σ = some (v, σ')) : Mono σ σ' := by
  obtain ⟨_, c, e, org, _, _, _, _, ho, _, _, _, _, rfl⟩ := strAt_eq h
  have hobj : ∀ j, (ASt.mk (σ.heap.set b (.cells c e org false true)) σ.next (min org σ.low) (min b σ.klow)).obj j = if j = b then some (.cells c e org false true) else σ.obj j := fun j => by
    show (σ.heap.set b _).get j = _
    rw [Tr.get_set]; rfl
  refine ⟨Nat.le_refl _, Nat.min_le_right _ _, Nat.min_le_right _ _, fun hw j hj => ?_, fun j _ => ?_⟩
  · have hb := obj_lt hw ho
    rw [hobj, if_neg (by have : σ.next ≤ j := hj; omega)]; exact hw j hj
  · rw [hobj]
    by_cases ej : j = b
    · subst ej
      rw [if_pos rfl, ho]
      exact .cells rfl (fun h => by cases h) (fun h => by cases h) (.inr rfl) (.inl (Nat.min_le_left _ _))
    · rw [if_neg ej]; exact .refl _ _ _ _
theorem mono_convert {src dst : TypeId} {x : Value} (h : convV T src dst x σ = some (v, σ')) : Mono σ σ' := by
  obtain ⟨ds, h1, e1⟩ := andThen_eq h
  obtain ⟨dd, h2, e2⟩ := andThen_eq e1
  cases dd <;> simp only [convD, reduceCtorEq] at e2
  case unsafePointer =>
    obtain ⟨_, _, e3⟩ := andThen_eq e2; obtain ⟨_, _, e4⟩ := andThen_eq e3
    rw [iff_eq] at e4
    split at e4
    · cases e4
    split at e4
    · cases e4; exact .refl σ
    · obtain ⟨_, _, _, e5⟩ := andThen2_eq e4; obtain ⟨_, _, e6⟩ := andThen_eq e5; obtain ⟨_, e7⟩ := iff_some e6; cases e7; exact .refl σ
    · cases e4
  case pointer u =>
    obtain ⟨_, e3⟩ := iff_some e2
    split at e3
    · cases e3; exact .refl σ
    · obtain ⟨_, _, _, e5⟩ := andThen2_eq e3; obtain ⟨_, _, _, _, e6⟩ := andThen3_eq e5; obtain ⟨_, _, e7⟩ := andThen_eq e6; obtain ⟨_, _, e8⟩ := andThen_eq e7; obtain ⟨_, e9⟩ := iff_some e8; cases e9; exact .refl σ
    · cases e3
  case int k => obtain ⟨_, _, _, h4⟩ := andThen2_eq e2; cases h4; exact .refl σ
  case string =>
    cases x <;> simp only [convStr, reduceCtorEq] at e2
    case string s => cases e2; exact .refl σ
    case int k n => cases e2; exact .refl σ
    case slice a len cap =>
      obtain ⟨e, h3, e3⟩ := andThen_eq e2
      obtain ⟨h4, e4⟩ := iff_some e3
      cases a with
      | none => cases e4; exact .refl σ
      | some a =>
        obtain ⟨cs, h6, e5⟩ := andThen_eq e4
        obtain ⟨l, h7, e6⟩ := andThen_eq e5
        cases e6; exact .refl σ
    case tuple vs =>
      obtain ⟨_, _, e3⟩ := andThen_eq e2
      obtain ⟨_, e4⟩ := iff_some e3
      obtain ⟨_, _, e5⟩ := andThen_eq e4
      obtain ⟨_, _, e6⟩ := andThen_eq e5
      obtain ⟨_, _, e7⟩ := andThen_eq e6
      cases e7; exact .refl σ
  case slice e =>
    obtain ⟨s, h3, e3⟩ := andThen_eq e2
    obtain ⟨h4, e4⟩ := iff_some e3
    exact mono_openSlice e4

theorem mono_next {x : Operand} {isStr : Bool} {ρ : Operand → Value} (h : doNext x isStr ρ σ = some (v, σ')) : Mono σ σ' := by
  obtain ⟨r, off, h1, e1⟩ := andThen2_eq h
  obtain ⟨s, pos, h2, e2⟩ := andThen2_eq e1
  obtain ⟨o, h3, h4⟩ := andThen_eq h2
  obtain rfl := iterOf_eq h4
  obtain ⟨_, e3⟩ := iff_some e2
  rw [iff_eq] at e3
  have hlow : (σ.lower r) = min r σ.low := minN_eq _ _
  split at e3
  · simp only [Option.some.injEq, Prod.mk.injEq] at e3
    obtain ⟨rfl, rfl⟩ := e3
    exact (rewrite_set σ r (.iter s (Nat.add pos (Utf8.decode ⟨⟨s⟩⟩ pos).2)) (σ.lower r)).mono h3 (by show σ.lower r ≤ σ.low; omega) (.other rfl (by simp [kindOf]) (.inl (by show σ.lower r ≤ r; omega)))
  · cases e3; exact .refl σ

theorem mono_builtin {b : Builtin} {tys : List TypeId} {args : List Value} (h : builtinV b T tys args σ = some (v, σ')) : Mono σ σ' := by
  cases b <;> simp only [builtinV, reduceCtorEq] at h
  case append => obtain ⟨_, _, _, e1⟩ := andThen2_eq h; obtain ⟨_, _, _, e2⟩ := andThen2_eq e1; exact mono_append e2
  case cap => obtain ⟨_, _, _, e1⟩ := andThen2_eq h; obtain ⟨_, _, _, e2⟩ := andThen2_eq e1; exact mono_val e2
  case copy => obtain ⟨_, _, _, e1⟩ := andThen2_eq h; obtain ⟨_, _, _, e2⟩ := andThen2_eq e1; exact mono_copy e2
  case clear => obtain ⟨_, _, _, e1⟩ := andThen2_eq h; obtain ⟨_, _, _, e2⟩ := andThen2_eq e1; exact mono_clear e2
  case delete =>
    obtain ⟨_, _, _, e1⟩ := andThen2_eq h; obtain ⟨_, _, _, e2⟩ := andThen2_eq e1; obtain ⟨s, e3, e4⟩ := andThen_eq e2
    cases e4; exact mono_delete e3
  case len => obtain ⟨_, _, _, e1⟩ := andThen2_eq h; obtain ⟨_, _, _, e2⟩ := andThen2_eq e1; exact mono_val e2
  case max => obtain ⟨_, _, _, e1⟩ := andThen2_eq h; exact mono_val e1
  case unsafeSliceData => obtain ⟨_, _, e1⟩ := andThen_eq h; exact mono_val e1
  case unsafeString =>
    obtain ⟨_, _, _, e1⟩ := andThen2_eq h; obtain ⟨_, _, _, e2⟩ := andThen2_eq e1; obtain ⟨_, _, _, e3⟩ := andThen2_eq e2; obtain ⟨_, _, e4⟩ := andThen_eq e3
    rw [iff_eq] at e4
    split at e4
    · obtain ⟨_, e5⟩ := iff_some e4; cases e5; exact .refl σ
    · obtain ⟨_, _, _, e5⟩ := andThen2_eq e4
      exact mono_strAt e5
  case min => obtain ⟨_, _, _, e1⟩ := andThen2_eq h; exact mono_val e1

theorem mono_op {op : Op} {ρ : Operand → Value} (h : opV op T ρ σ = some (v, σ')) : Mono σ σ' := by
  cases op <;> simp only [opV, reduceCtorEq] at h
  case move => cases h; exact .refl σ
  case assign => cases h; exact .refl σ
  case pick => obtain ⟨_, _, e1⟩ := andThen_eq h; cases e1; exact .refl σ
  case alloc => obtain ⟨_, _, e1⟩ := andThen_eq h; obtain ⟨_, _, e2⟩ := andThen_eq e1; exact mono_allocT e2
  case box => obtain ⟨_, _, e1⟩ := andThen_eq h; exact mono_newVar e1
  case buildSlice =>
    obtain ⟨_, _, e1⟩ := andThen_eq h; obtain ⟨_, _, e2⟩ := andThen_eq e1; obtain ⟨_, _, e3⟩ := andThen_eq e2; obtain ⟨_, _, e4⟩ := andThen_eq e3; obtain ⟨_, e5⟩ := iff_some e4; obtain ⟨_, _, e6⟩ := andThen_eq e5
    exact mono_newSlice e6
  case load =>
    unfold doLoad loadD at h
    rcases tupElse_eq h with ⟨_, _, h⟩ | h
    · obtain ⟨_, _, e1⟩ := andThen_eq h; exact mono_val e1
    · obtain ⟨_, _, _, e1⟩ := andThen2_eq h; exact mono_val e1
  case store =>
    obtain ⟨h1, _⟩ := unit_eq h
    obtain ⟨_, _, _, e1⟩ := andThen2_eq h1; obtain ⟨_, _, e2⟩ := andThen_eq e1; obtain ⟨_, _, e3⟩ := andThen_eq e2; obtain ⟨_, e4⟩ := iff_some e3
    exact mono_setAt e4
  case binOp => obtain ⟨_, e1⟩ := iff_some h; exact mono_val e1
  case convert => exact mono_convert h
  case makeInterface => obtain ⟨_, _, e1⟩ := andThen_eq h; obtain ⟨_, e2⟩ := iff_else e1; cases e2; exact .refl σ
  case makeFunc => cases h; exact .refl σ
  case makeMap =>
    obtain ⟨_, _, e1⟩ := andThen_eq h; obtain ⟨_, _, _, e2⟩ := andThen2_eq e1; obtain ⟨_, _, e3⟩ := andThen_eq e2
    cases e3; exact mono_new _ _
  case makeSlice =>
    obtain ⟨_, _, e1⟩ := andThen_eq h; obtain ⟨_, _, e2⟩ := andThen_eq e1; obtain ⟨_, _, e3⟩ := andThen_eq e2; obtain ⟨_, _, e4⟩ := andThen_eq e3; obtain ⟨_, _, _, e5⟩ := andThen2_eq e4; obtain ⟨_, _, e6⟩ := andThen_eq e5
    obtain ⟨_, _, _, e7⟩ := andThen2_eq e6; obtain ⟨_, _, e8⟩ := andThen_eq e7; obtain ⟨_, e9⟩ := iff_some e8
    rw [(newSliceQ_eq e9).2]; exact mono_new _ _
  case mapUpdate => exact mono_update (unit_eq h).1
  case insert => exact mono_update (unit_eq h).1
  case range =>
    obtain ⟨d, _, e1⟩ := andThen_eq h
    cases d <;> simp only [reduceCtorEq] at e1
    obtain ⟨_, _, e2⟩ := andThen_eq e1
    cases e2; exact mono_new _ _
  case next => exact mono_next h
  all_goals exact mono_val h

/-- what calls may change -/
def MonoF (call : CallF) : Prop := ∀ f args σ v σ', call f args σ = some (v, σ') → Mono σ σ'

theorem mono_callI {call : CallF} (hc : MonoF call) {recv : Value} {name : String} {args : List Value} (h : callI T call σ recv name args = some (v, σ')) : Mono σ σ' := by
  obtain ⟨_, _, e1⟩ := andThen_eq h
  obtain ⟨_, _, _, e2⟩ := andThen2_eq e1
  obtain ⟨_, _, _, e3⟩ := andThen2_eq e2
  exact hc _ _ _ _ _ e3

theorem mono_oper {call : CallF} (hc : MonoF call) {op : Op} {ρ : Operand → Value} (h : operV T call op ρ σ = some (v, σ')) : Mono σ σ' := by
  unfold operV at h
  cases hop : callOf op with
  | none => rw [hop] at h; exact mono_op h
  | some c =>
    rw [hop] at h
    have h' : callC c.callee T call ρ σ c.argTypes.toList (mapQ ρ c.args.toList) = some (v, σ') := h
    cases hcc : c.callee <;> rw [hcc] at h' <;> simp only [callC] at h'
    case builtin b => exact mono_builtin h'
    case invoke recv name => exact mono_callI hc h'
    case value f =>
      obtain ⟨fn, first, captured, _, e1⟩ := andThen3_eq h'
      cases fn <;> simp only [callFn, reduceCtorEq] at e1
      case func g => exact hc _ _ _ _ _ e1
      case method name =>
        obtain ⟨_, _, _, e2⟩ := andThen2_eq e1
        exact mono_callI hc e2
end
end Go.Abs

/- ONE OPERATION OF THE ABSTRACT MACHINE, HELD AGAINST THE MODEL's. -/
namespace Go.Abs

section
variable {P : Program} {T : Tab} {σ σ' : ASt} {π : PMap} {δ D : Nat → Prop} {H : Nat → Option AObj} {w : World}

theorem VRo.map {o : Option Operand} {ρ ρ' : Operand → Value} (h : ∀ x ∈ o.toArray, VR π D (ρ x) (ρ' x)) : VRo π D (o.map ρ) (o.map ρ') := by
  cases o with
  | none => trivial
  | some x => exact h x (by simp)

/-- an operation that looks at no memory -/
theorem nilChkT_eq {x v : Value} (h : nilChkT T x = some v) : nilChk x = some v ∨ ∃ name first caps, x = .func (.method name) first caps ∧ methChk T name first.toList x = some v := by
  unfold nilChkT at h
  split at h
  · exact .inr ⟨_, _, _, rfl, h⟩
  · exact .inl h
theorem run_nilAhead (hT : TyOk P T) {t : TypeId} {v v' r : Value} {f : FuncId} {name : String} (h : methodV T t v name = some (f, r)) (n : Nat) (w : World) : (nilAhead (n + 1) t v' name).run P w = .ok (some false) w := by
  obtain ⟨i, hi, e1⟩ := andThen_eq h
  obtain ⟨m, hm, e2⟩ := andThen_eq e1
  obtain ⟨f0, byPtr, h1, h2⟩ := andThen2_eq e2
  obtain ⟨h2, h5⟩ := iff_some h2
  rw [Bool.and_eq_true] at h2
  obtain ⟨h3, h4⟩ := h2
  have hm' : i.info.methods.find? (fun x => x.name == name) = some m := by rw [← Array.find?_toList]; exact hm
  have hpath : m.path = #[] := by simpa using h3
  have hd := (hT t i hi).desc
  simp only [nilAhead, Sem.run_bind, run_info hT hi, Result.andThen_ok, hm', hpath, followBlind, Sem.run_pure, h1]
  cases byPtr
  · have hp : isPtr i.desc = false := by
      revert h4; cases isPtr i.desc <;> simp
    simp only [Sem.run_bind, run_underlying hd, Result.andThen_ok]
    cases hdd : i.desc <;> rw [hdd] at hp <;> first | (cases hp; done) | rfl
  · rfl
theorem sim_pure (hT : TyOk P T) {o : Oper} {ρ ρ' : Operand → Value} {v : Value} (hm : mem o.op = false) (h : opV o.op T ρ σ = some (v, σ')) (hρ : ∀ x ∈ o.op.operands, VR π D (ρ x) (ρ' x)) :
    σ' = σ ∧ ∀ w : World, ∃ v', (execOp ρ' o).run P w = .ok (.value v') w ∧ VR π D v v' := by
  obtain ⟨guard, op, dst, ty, after, pos⟩ := o
  simp only at hm h hρ
  cases op <;> simp only [mem, reduceCtorEq] at hm <;> simp only [opV] at h <;> simp only [Op.operands] at hρ <;> simp only [execOp]
  case move x => cases h; exact ⟨rfl, fun w => ⟨_, rfl, hρ x (by simp)⟩⟩
  case assign x => cases h; exact ⟨rfl, fun w => ⟨_, rfl, hρ x (by simp)⟩⟩
  case pick c a b =>
    obtain ⟨t, h1, e1⟩ := andThen_eq h
    cases e1
    refine ⟨rfl, fun w => ?_⟩
    have hc := hρ c (by simp)
    rw [asB_eq h1] at hc
    rw [hc.bool_inv]
    rw [iff_eq]
    cases t
    · exact ⟨_, rfl, hρ b (by simp)⟩
    · exact ⟨_, rfl, hρ a (by simp)⟩
  case build t ps =>
    obtain ⟨h1, rfl⟩ := val_eq h
    have hps := parts_sim (π := π) (D := D) (ρ := ρ) (ρ' := ρ') ps (fun x hx => hρ x (by simpa using hx))
    refine ⟨rfl, fun w => ?_⟩
    obtain ⟨v', h2, h3⟩ := sim_build hT h1 hps.1 hps.2 w
    exact ⟨v', by simp only [Sem.run_bind, h2, Result.andThen_ok, Sem.run_pure], h3⟩
  case nilCheck x =>
    obtain ⟨h1, rfl⟩ := val_eq h
    refine ⟨rfl, fun w => ?_⟩
    have hx := hρ x (by simp)
    rcases nilChkT_eq h1 with h1 | ⟨name, first, caps, hv, h1⟩
    rotate_left
    · obtain ⟨r0, rest, h2, e2⟩ := andThen2_eq h1
      obtain ⟨o, h3, e3⟩ := andThen_eq e2
      obtain ⟨t, u, h4, e4⟩ := andThen2_eq e3
      obtain ⟨f, r, h5, e5⟩ := andThen2_eq e4
      subst h4
      cases e5
      rw [hv] at hx
      obtain ⟨first', caps', hx', hf1, hf2⟩ := hx.func_inv
      have hfl : first.toList = r0 :: rest := by
        cases hl : first.toList with
        | nil => rw [hl] at h2; cases h2
        | cons a l => rw [hl] at h2; cases h2; rfl
      rcases isNilI_eq h3 with ⟨_, h6⟩ | ⟨t', u', rfl, h6⟩
      · cases h6
      cases h6
      rw [hfl] at hf1
      obtain ⟨x0', l', g1, g2, g3⟩ := hf1.split
      obtain ⟨u2, rfl, g4⟩ := g2.iface_inv
      refine ⟨ρ' x, ?_, hρ x (by simp)⟩
      rw [hx']
      have h0 : first'[0]? = some (.iface t u2) := by rw [← Array.getElem?_toList, g1]; rfl
      have hna := run_nilAhead hT h5 (v' := u2) (P.types.size + 99) w
      show (match (first'[0]? : Option Value) with
        | some .nilIface => runtimePanic .nilDeref
        | some (.iface t w) => do
          if (← nilAhead ((← program).types.size + Made.depth) t w name) != some false then
            unsupported (.noEntry "op/nilCheck.the method's receiver behind this interface value is a nil pointer, or cannot be seen to be none, and the arguments act or may panic (ledger 612)")
          pure (.value (.func (.method name) first' caps'))
        | _ => pure (.value (.func (.method name) first' caps')) : Sem Next).run P w = _
      rw [h0]
      simp only [Sem.run_bind, run_program, Result.andThen_ok]
      rw [show P.types.size + Made.depth = P.types.size + 99 + 1 from rfl, hna]
      rfl
    obtain ⟨h2, h3, h4, h5, h6⟩ := sim_nilChk h1 hx
    refine ⟨ρ' x, ?_, h2⟩
    generalize ρ' x = x' at h3 h4 h5 h6
    cases x' <;> first | rfl | (exact absurd rfl h5) | (exact absurd rfl h6) | skip
    case pointer a => cases a <;> first | (exact absurd rfl h4) | rfl
    case func fn f c =>
      obtain ⟨g, rfl⟩ := h3 fn f c rfl
      rfl
  case binOp op t x y yt =>
    obtain ⟨h1, e1⟩ := iff_some h
    obtain ⟨h2, rfl⟩ := val_eq e1
    refine ⟨rfl, fun w => ?_⟩
    obtain ⟨v', h3, h4⟩ := sim_binV hT h2 (hρ x (by simp)) (hρ y (by simp)) w
    exact ⟨v', by simp only [Sem.run_bind, sim_guard hT h1 (hρ x (by simp)), h3, Result.andThen_ok, Sem.run_pure], h4⟩
  case unOp op t x =>
    obtain ⟨h1, rfl⟩ := val_eq h
    refine ⟨rfl, fun w => ?_⟩
    obtain ⟨v', h2, h3⟩ := sim_unV (P := P) h1 (hρ x (by simp)) w
    exact ⟨v', by simp only [Sem.run_bind, h2, Result.andThen_ok, Sem.run_pure], h3⟩
  case makeInterface t x =>
    obtain ⟨d, h1, e1⟩ := andThen_eq h
    obtain ⟨h2, e2⟩ := iff_else e1
    cases e2
    refine ⟨rfl, fun w => ⟨_, ?_, .iface t (hρ x (by simp))⟩⟩
    simp only [Sem.run_bind, sim_iface hT h1 h2, Result.andThen_ok, Sem.run_pure]
  case makeFunc fn first captured =>
    cases h
    refine ⟨rfl, fun w => ⟨.func fn (first.map ρ') (captured.map ρ'), rfl, ?_⟩⟩
    rw [mapQ_eq, mapQ_eq]
    have h1 : VRs π D (first.toList.map ρ) (first.toList.map ρ') := VRs.mapped _ fun x hx => hρ x (by simp at hx; simp [hx])
    have h2 : VRs π D (captured.toList.map ρ) (captured.toList.map ρ') := VRs.mapped _ fun x hx => hρ x (by simp at hx; simp [hx])
    have e1 : first.map ρ' = ⟨first.toList.map ρ'⟩ := by apply Array.ext'; simp
    have e2 : captured.map ρ' = ⟨captured.toList.map ρ'⟩ := by apply Array.ext'; simp
    rw [e1, e2]
    exact .func fn h1.1 h1.2 h2.1 h2.2
  case slice t x lo hi mx =>
    obtain ⟨h1, rfl⟩ := val_eq h
    refine ⟨rfl, fun w => ?_⟩
    obtain ⟨v', h2, h3⟩ := sim_slice hT h1 (hρ x (by simp)) (VRo.map fun y hy => hρ y (by simp at hy ⊢; simp [hy])) (VRo.map fun y hy => hρ y (by simp at hy ⊢; simp [hy])) (VRo.map fun y hy => hρ y (by simp at hy ⊢; simp [hy])) w
    exact ⟨v', by simp only [Sem.run_bind, h2, Result.andThen_ok, Sem.run_pure], h3⟩
  case fieldAddr t x f =>
    obtain ⟨h1, rfl⟩ := val_eq h
    refine ⟨rfl, fun w => ?_⟩
    obtain ⟨v', h2, h3⟩ := sim_fieldAddr hT h1 (hρ x (by simp)) w
    exact ⟨v', by simp only [Sem.run_bind, h2, Result.andThen_ok, Sem.run_pure], h3⟩
  case field t x f =>
    obtain ⟨h1, rfl⟩ := val_eq h
    refine ⟨rfl, fun w => ?_⟩
    obtain ⟨v', h2, h3⟩ := sim_field hT h1 (hρ x (by simp)) w
    exact ⟨v', by simp only [Sem.run_bind, h2, Result.andThen_ok, Sem.run_pure], h3⟩
  case indexAddr t x i =>
    obtain ⟨h1, rfl⟩ := val_eq h
    refine ⟨rfl, fun w => ?_⟩
    obtain ⟨v', h2, h3⟩ := sim_indexAddr hT h1 (hρ x (by simp)) (hρ i (by simp)) w
    exact ⟨v', by simp only [Sem.run_bind, h2, Result.andThen_ok, Sem.run_pure], h3⟩
  case index t x i =>
    obtain ⟨h1, rfl⟩ := val_eq h
    refine ⟨rfl, fun w => ?_⟩
    obtain ⟨v', h2, h3⟩ := sim_index hT h1 (hρ x (by simp)) (hρ i (by simp)) w
    exact ⟨v', by simp only [Sem.run_bind, h2, Result.andThen_ok, Sem.run_pure], h3⟩
  case typeAssert x xt asserted ok =>
    obtain ⟨h1, rfl⟩ := val_eq h
    refine ⟨rfl, fun w => ?_⟩
    obtain ⟨v', h2, h3⟩ := sim_assert (xT := xt) hT h1 (hρ x (by simp)) w
    exact ⟨v', by simp only [Sem.run_bind, h2, Result.andThen_ok, Sem.run_pure], h3⟩
  case extract x i =>
    obtain ⟨h1, rfl⟩ := val_eq h
    refine ⟨rfl, fun w => ?_⟩
    obtain ⟨v', h2, h3⟩ := sim_extract (P := P) h1 (hρ x (by simp)) w
    exact ⟨v', by simp only [Sem.run_bind, h2, Result.andThen_ok, Sem.run_pure], h3⟩

/-- what an operation leads to -/
def Next.is (nx : Next) (v : Value) : Prop := nx = .value v ∨ (nx = .skip ∧ v = undef)

def Leads (P : Program) (σ σ' : ASt) (π : PMap) (δ D : Nat → Prop) (H : Nat → Option AObj) (w : World) (v : Value) (s : Sem Go.Next) : Prop :=
  ∃ nx v' π' D' w', s.run P w = .ok nx w' ∧ (nx = .value v' ∨ (nx = .skip ∧ v' = undef)) ∧ VR π' D' v v' ∧ Post σ σ' π δ D H w π' D' w'

theorem Does.leads {v : Value} {s : Sem Value} (h : Does P σ σ' π δ D H w v s) : Leads P σ σ' π δ D H w v (do pure (.value (← s))) := by
  obtain ⟨v', π', D', w', h1, h2, h3⟩ := h
  exact ⟨_, v', π', D', w', by simp only [Sem.run_bind, h1, Result.andThen_ok, Sem.run_pure], .inl rfl, h2, h3⟩
theorem DoesU.leads {s : Sem Unit} (h : DoesU P σ σ' π δ D H w s) : Leads P σ σ' π δ D H w undef (do s; pure .skip) := by
  obtain ⟨π', D', w', h1, h3⟩ := h
  exact ⟨.skip, undef, π', D', w', by simp only [Sem.run_bind, h1, Result.andThen_ok, Sem.run_pure], .inr ⟨rfl, rfl⟩, VRs.tuple rfl .nil, h3⟩

theorem sim_op (hT : TyOk P T) {o : Oper} {ρ ρ' : Operand → Value} {v : Value} (h : opV o.op T ρ σ = some (v, σ')) (hρ : ∀ x ∈ o.op.operands, VR π D (ρ x) (ρ' x)) (hp : Pre σ σ' π δ D H w) : Leads P σ σ' π δ D H w v (execOp ρ' o) := by
  by_cases hm : mem o.op = false
  · obtain ⟨rfl, h1⟩ := sim_pure hT hm h hρ
    obtain ⟨v', h2, h3⟩ := h1 w
    exact ⟨_, v', π, D, w, h2, .inl rfl, h3, .refl hp⟩
  · obtain ⟨guard, op, dst, ty, after, pos⟩ := o
    simp only at hm h hρ
    cases op <;> first | (exact absurd rfl hm) | skip
    all_goals (simp only [opV, reduceCtorEq] at h)
    all_goals (simp only [Op.operands] at hρ)
    case alloc t => exact (sim_alloc hT h hp).leads
    case box t x => exact (sim_box h (hρ x (by simp)) hp).leads
    case buildSlice t n ps =>
      have hps := parts_sim (π := π) (D := D) (ρ := ρ) (ρ' := ρ') ps (fun x hx => hρ x (by simpa using hx))
      exact (sim_buildSlice hT h hps.1 hps.2 hp).leads
    case load t a =>
      have h : loadD T t σ (ρ a) = some (v, σ') := h
      unfold loadD at h
      have ha := hρ a (by simp)
      rcases tupElse_eq h with ⟨vs, hvs, h⟩ | h
      · obtain ⟨cs, h1, e1⟩ := andThen_eq h
        obtain ⟨h2, rfl⟩ := val_eq e1
        rw [hvs, datPL_eq h1] at ha
        obtain ⟨a', he, v', h3, h4⟩ := sim_loadP (P := P) hT hp h2 ha
        refine Does.leads ⟨v', π, D, w, ?_, h4, .refl hp⟩
        rw [he]
        simp only [Instr.loadAt, Sem.run_bind, Instr.sureAddr, Sem.run_pure, Result.andThen_ok, h3]
      obtain ⟨k, off, h1, e1⟩ := andThen2_eq h
      obtain ⟨h2, rfl⟩ := val_eq e1
      rw [asPtr_eq h1] at ha
      obtain ⟨a', he, har⟩ := ha.ptr_inv
      obtain ⟨v', h3, h4⟩ := sim_load hT hp h2 har
      refine Does.leads ⟨v', π, D, w, ?_, h4, .refl hp⟩
      rw [he]
      simp only [Instr.loadAt, Sem.run_bind, Instr.sureAddr, Sem.run_pure, Result.andThen_ok, h3]
    case store t a x =>
      obtain ⟨h1, rfl⟩ := unit_eq h
      exact (sim_store hT hp h1 (hρ a (by simp)) (hρ x (by simp))).leads
    case convert s d x => exact (sim_convert hT h (hρ x (by simp)) hp).leads
    case makeMap t r => exact (sim_makeMap hT h (VRo.map fun y hy => hρ y (by simpa using hy)) hp).leads
    case makeSlice t l c => exact (sim_makeSlice hT h (hρ l (by simp)) (hρ c (by simp)) hp).leads
    case lookup t x i ok =>
      obtain ⟨h1, rfl⟩ := val_eq h
      obtain ⟨v', h2, h3⟩ := sim_lookup hT h1 (hρ x (by simp)) (hρ i (by simp)) hp
      exact Does.leads ⟨v', π, D, w, h2, h3, .refl hp⟩
    case mapUpdate t m k x =>
      obtain ⟨h1, rfl⟩ := unit_eq h
      exact (sim_update hT h1 (hρ m (by simp)) (hρ k (by simp)) (hρ x (by simp)) hp).leads
    case insert t m k x =>
      obtain ⟨h1, rfl⟩ := unit_eq h
      exact (sim_update hT h1 (hρ m (by simp)) (hρ k (by simp)) (hρ x (by simp)) hp).leads
    case range t x => exact (sim_range hT h (hρ x (by simp)) hp).leads
    case next it isStr => exact (sim_next _ h (hρ it (by simp)) hp).leads
end
end Go.Abs

/- CALLS OF THE ABSTRACT MACHINE, HELD AGAINST THE MODEL's. -/
namespace Go.Abs

/-- which variables of the program are looked at -/
abbrev Globs := Nat → Bool

/-- the program's variables lie where they lie -/
def GlobR (G : Globs) (π : PMap) (D : Nat → Prop) : Prop := ∀ g, G g = true → AR π D ⟨g, 0, none⟩ ⟨g, 0, none⟩
theorem GlobR.mono {G : Globs} {π π' : PMap} {D D' : Nat → Prop} (hs : PStep π D π' D') (h : GlobR G π D) : GlobR G π' D' := fun g hg => (h g hg).mono hs

/-- a function that is entered when it is called -/
def Enters (P : Program) (f : FuncId) : Prop := ∃ fn, P.funcs[f]? = some fn ∧ (fn.name == "runtime.NumGoroutine") = false ∧ fn.body.isNone = false

/-- what a call leads to -/
def Back (σ σ' : ASt) (π : PMap) (δ D : Nat → Prop) (H : Nat → Option AObj) (w : World) (v : Value) : Ending → World → Prop :=
  fun e w' => ∃ v' π' D', e = .returned v' ∧ VR π' D' v v' ∧ Post σ σ' π δ D H w π' D' w'

/-- of functions that are entered -/
def CallSimE (P : Program) (G : Globs) (call : CallF) : Prop := ∀ f args σ v σ', call f args σ = some (v, σ') → Enters P f ∧
  (σ.low ≤ σ.next → ∀ π δ D H w args', GlobR G π D → VRs π D args args' → Pre σ σ' π δ D H w → Calls P f ⟨args'⟩ w (Back σ σ' π δ D H w v))

section
variable {P : Program} {G : Globs} {T : Tab} {call : CallF} {σ σ' : ASt} {π : PMap} {δ D : Nat → Prop} {H : Nat → Option AObj} {w : World}

def Goes (P : Program) (σ σ' : ASt) (π : PMap) (δ D : Nat → Prop) (H : Nat → Option AObj) (w : World) (v : Value) (s : Sem Go.Next) : Prop :=
  Leads P σ σ' π δ D H w v s ∨ ∃ f args', s.run P w = .ok (.enter f args') w ∧ Calls P f args' w (Back σ σ' π δ D H w v)

def CallSim (P : Program) (G : Globs) (call : CallF) : Prop := ∀ f args σ v σ', call f args σ = some (v, σ') → σ.low ≤ σ.next → ∀ π δ D H w args', GlobR G π D → VRs π D args args' → Pre σ σ' π δ D H w → Goes P σ σ' π δ D H w v (callFunc f ⟨args'⟩)

/-- what comes behind an operation -/
theorem Goes.wp {o : Oper} {a : Act} {v : Value} {K : Act → World → Prop} {Q : Exit → Act → World → Prop} (h : Goes P σ σ' π δ D H w v (execOp a.eval o))
    (hk : ∀ v' π' D' w', VR π' D' v v' → Post σ σ' π δ D H w π' D' w' → K (a.put o.dst v') w') : o.wp P a w K Q := by
  unfold Oper.wp
  rcases h with ⟨nx, v', π', D', w', h1, h2, h3, h4⟩ | ⟨f, args', h1, h2⟩
  · rw [h1]
    rcases h2 with rfl | ⟨rfl, rfl⟩
    · exact hk v' π' D' w' h3 h4
    · exact hk undef π' D' w' h3 h4
  · rw [h1]
    exact Calls.mono h2 fun e w' he => by
      obtain ⟨v', π', D', rfl, h3, h4⟩ := he
      exact hk v' π' D' w' h3 h4

theorem run_callFunc {f : FuncId} (h : Enters P f) (args : Array Value) (w : World) : (callFunc f args).run P w = .ok (.enter f args) w := by
  obtain ⟨fn, h1, h2, h3⟩ := h
  simp only [callFunc, Sem.run_bind, run_program, Result.andThen_ok, h1, h2, h3, Bool.false_eq_true, if_false, Sem.run_pure]

theorem CallSimE.sim (h : CallSimE P G call) : CallSim P G call := fun f args σ v σ' hs hl π δ D H w args' hg ha hp => by
  obtain ⟨h1, h2⟩ := h f args σ v σ' hs
  exact .inr ⟨f, ⟨args'⟩, run_callFunc h1 ⟨args'⟩ w, h2 hl π δ D H w args' hg ha hp⟩
/-- a call of a function that is entered -/
theorem Goes.calls {f : FuncId} {args' : Array Value} {v : Value} (h : Goes P σ σ' π δ D H w v (callFunc f args')) (he : Enters P f) : Calls P f args' w (Back σ σ' π δ D H w v) := by
  rcases h with ⟨nx, v', π', D', w', h1, h2, _⟩ | ⟨g, as, h1, h2⟩
  · rw [run_callFunc he] at h1
    rcases h2 with rfl | ⟨rfl, _⟩ <;> cases h1
  · rw [run_callFunc he] at h1
    cases h1
    exact h2

theorem goes_call (hc : CallSim P G call) (hg : GlobR G π D) (hlow : σ.low ≤ σ.next) {f : FuncId} {args : List Value} {args' : Array Value} {v : Value} (h : call f args σ = some (v, σ')) (ha : VRs π D args args'.toList) (hp : Pre σ σ' π δ D H w) :
    Goes P σ σ' π δ D H w v (callFunc f args') := by
  exact hc f args σ v σ' h hlow π δ D H w args'.toList hg ha hp

theorem run_method (hT : TyOk P T) {t : TypeId} {v v' r : Value} {f : FuncId} {name : String} (h : methodV T t v name = some (f, r)) (w : World) : r = v ∧ (method (P.types.size + Made.depth) t v' name).run P w = .ok (f, v') w := by
  obtain ⟨i, hi, e1⟩ := andThen_eq h
  obtain ⟨m, hm, e2⟩ := andThen_eq e1
  obtain ⟨g, byPtr, h1, e3⟩ := andThen2_eq e2
  obtain ⟨h2, e4⟩ := iff_some e3
  simp only [Option.some.injEq, Prod.mk.injEq] at e4
  obtain ⟨rfl, rfl⟩ := e4
  refine ⟨rfl, ?_⟩
  rw [Bool.and_eq_true] at h2
  obtain ⟨h3, h4⟩ := h2
  have hm' : i.info.methods.find? (fun x => x.name == name) = some m := by rw [← Array.find?_toList]; exact hm
  have hpath : m.path = #[] := by simpa using h3
  have hd := (hT t i hi).desc
  have hsz : ∃ n, P.types.size + Made.depth = n + 1 := ⟨P.types.size + 99, rfl⟩
  obtain ⟨n, hn⟩ := hsz
  rw [hn]
  simp only [method, Sem.run_bind, run_info hT hi, Result.andThen_ok, hm', hpath, follow, Sem.run_pure, h1]
  simp only [receiverAt, Sem.run_bind, run_underlying hd, Result.andThen_ok]
  cases byPtr
  · have : isPtr i.desc = false := by
      revert h4; cases isPtr i.desc <;> simp
    cases hdd : i.desc <;> rw [hdd] at this <;> first | (cases this; done) | (simp only [Place.get, Sem.run_pure, Result.andThen_ok])
  · have : isPtr i.desc = true := by
      revert h4; cases isPtr i.desc <;> simp
    cases hdd : i.desc <;> rw [hdd] at this <;> first | (cases this; done) | (simp only [Place.get, Sem.run_pure, Result.andThen_ok])

theorem goes_method (hT : TyOk P T) (hc : CallSim P G call) (hg : GlobR G π D) (hlow : σ.low ≤ σ.next) {recv recv' v : Value} {name : String} {args : List Value} {args' : Array Value} (h : callI T call σ recv name args = some (v, σ')) (hr : VR π D recv recv') (ha : VRs π D args args'.toList) (hp : Pre σ σ' π δ D H w) :
    Goes P σ σ' π δ D H w v (callMethod recv' name args') := by
  obtain ⟨o, h1, e1⟩ := andThen_eq h
  obtain ⟨t, u, h2, e2⟩ := andThen2_eq e1
  obtain ⟨f, r, h3, e3⟩ := andThen2_eq e2
  subst h2
  rcases isNilI_eq h1 with ⟨_, h4⟩ | ⟨t', u', rfl, h4⟩
  · cases h4
  · cases h4
    obtain ⟨x', rfl, hx⟩ := hr.iface_inv
    obtain ⟨rfl, hm⟩ := run_method (v' := x') hT h3 w
    have hg := goes_call (args' := #[x'] ++ args') hc hg hlow e3 (by simpa using VRs.cons hx ha) hp
    have heq : (callMethod (.iface t x') name args').run P w = (callFunc f (#[x'] ++ args')).run P w := by
      simp only [callMethod, Sem.run_bind, run_program, Result.andThen_ok, hm]
    rcases hg with ⟨nx, v', π', D', w', g1, g2⟩ | ⟨g, args2, g1, g2⟩
    · exact .inl ⟨nx, v', π', D', w', heq.trans g1, g2⟩
    · exact .inr ⟨g, args2, heq.trans g1, g2⟩

theorem Goes.of_run {s s' : Sem Go.Next} {v : Value} (heq : s.run P w = s'.run P w) (h : Goes P σ σ' π δ D H w v s') : Goes P σ σ' π δ D H w v s := by
  rcases h with ⟨nx, v', π', D', w', g1, g2⟩ | ⟨g, args2, g1, g2⟩
  · exact .inl ⟨nx, v', π', D', w', heq.trans g1, g2⟩
  · exact .inr ⟨g, args2, heq.trans g1, g2⟩

theorem arg2_eq {α : Type} {l : List α} {a b : α} (h : arg2 l = some (a, b)) : ∃ r, l = a :: b :: r := by
  match l, h with
  | _ :: _ :: r, h => simp [arg2] at h; obtain ⟨rfl, rfl⟩ := h; exact ⟨r, rfl⟩
theorem arg1_eq {α : Type} {l : List α} {a : α} {r : List α} (h : arg1 l = some (a, r)) : l = a :: r := by
  match l, h with
  | _ :: _, h => simp [arg1] at h; obtain ⟨rfl, rfl⟩ := h; rfl

theorem sim_builtin (hT : TyOk P T) {b : Builtin} {tys : Array TypeId} {ty : TypeId} {cs : Array Bool} {args : List Value} {args' : Array Value} {v : Value} (h : builtinV b T tys.toList args σ = some (v, σ')) (ha : VRs π D args args'.toList) (hp : Pre σ σ' π δ D H w) :
    Leads P σ σ' π δ D H w v (builtin b tys ty cs args') := by
  have ty0 : ∀ {t r}, tys.toList = t :: r → tys[0]? = some t := fun h => by rw [← Array.getElem?_toList, h]; rfl
  have ty1 : ∀ {t u r}, tys.toList = t :: u :: r → tys[1]? = some u := fun h => by rw [← Array.getElem?_toList, h]; rfl
  have a0 : ∀ {x : Value} {r : List Value}, args = x :: r → ∃ x', args'[0]? = some x' ∧ VR π D x x' := fun h => by
    obtain ⟨x', h1, h2⟩ := ha.get (i := 0) (show args[0]? = some _ by rw [h]; rfl)
    exact ⟨x', by rw [← Array.getElem?_toList]; exact h1, h2⟩
  have a1 : ∀ {x y : Value} {r : List Value}, args = x :: y :: r → ∃ y', args'[1]? = some y' ∧ VR π D y y' := fun h => by
    obtain ⟨x', h1, h2⟩ := ha.get (i := 1) (show args[1]? = some _ by rw [h]; rfl)
    exact ⟨x', by rw [← Array.getElem?_toList]; exact h1, h2⟩
  cases b <;> simp only [builtinV, reduceCtorEq] at h <;> simp only [builtin]
  case append =>
    obtain ⟨sT, xT, h1, e1⟩ := andThen2_eq h
    obtain ⟨s, x, h2, e2⟩ := andThen2_eq e1
    obtain ⟨r1, h3⟩ := arg2_eq h1
    obtain ⟨r2, h4⟩ := arg2_eq h2
    obtain ⟨s', h5, h6⟩ := a0 h4
    obtain ⟨x', h7, h8⟩ := a1 h4
    exact (sim_append hT e2 h6 h8 (ty0 h3) (ty1 h3) h5 h7 hp).leads
  case cap =>
    obtain ⟨t, r, h1, e1⟩ := andThen2_eq h
    obtain ⟨x, r2, h2, e2⟩ := andThen2_eq e1
    obtain ⟨h3, rfl⟩ := val_eq e2
    obtain ⟨x', h5, h6⟩ := a0 (arg1_eq h2)
    obtain ⟨h7, h8⟩ := sim_cap (ty := ty) hT h3 h6 (ty0 (arg1_eq h1)) h5 w
    exact Does.leads ⟨v, π, D, w, h7, h8, .refl hp⟩
  case copy =>
    obtain ⟨t, r, h1, e1⟩ := andThen2_eq h
    obtain ⟨d, s, h2, e2⟩ := andThen2_eq e1
    obtain ⟨r2, h4⟩ := arg2_eq h2
    obtain ⟨d', h5, h6⟩ := a0 h4
    obtain ⟨s', h7, h8⟩ := a1 h4
    exact (sim_copy hT e2 h6 h8 (ty0 (arg1_eq h1)) h5 h7 hp).leads
  case clear =>
    obtain ⟨t, r, h1, e1⟩ := andThen2_eq h
    obtain ⟨x, r2, h2, e2⟩ := andThen2_eq e1
    obtain ⟨x', h5, h6⟩ := a0 (arg1_eq h2)
    exact (sim_clear hT e2 h6 (ty0 (arg1_eq h1)) h5 hp).leads
  case delete =>
    obtain ⟨t, r, h1, e1⟩ := andThen2_eq h
    obtain ⟨m, k, h2, e2⟩ := andThen2_eq e1
    obtain ⟨σ1, h3, e3⟩ := andThen_eq e2
    cases e3
    obtain ⟨r2, h4⟩ := arg2_eq h2
    obtain ⟨m', h5, h6⟩ := a0 h4
    obtain ⟨k', h7, h8⟩ := a1 h4
    exact (sim_delete hT h3 h6 h8 (ty0 (arg1_eq h1)) h5 h7 hp).leads
  case unsafeSliceData =>
    obtain ⟨x, h1, e1⟩ := andThen_eq h
    obtain ⟨h3, rfl⟩ := val_eq e1
    rw [just1_eq h1] at ha
    exact (sim_sliceData h3 ha hp).leads
  case unsafeString => exact (sim_string hT h ha hp).leads
  case len =>
    obtain ⟨t, r, h1, e1⟩ := andThen2_eq h
    obtain ⟨x, r2, h2, e2⟩ := andThen2_eq e1
    obtain ⟨h3, rfl⟩ := val_eq e2
    obtain ⟨x', h5, h6⟩ := a0 (arg1_eq h2)
    obtain ⟨h7, h8⟩ := sim_len (ty := ty) hT h3 h6 (ty0 (arg1_eq h1)) h5 hp
    exact Does.leads ⟨v, π, D, w, h7, h8, .refl hp⟩
  case max =>
    obtain ⟨x, r, h1, e1⟩ := andThen2_eq h
    obtain ⟨h3, rfl⟩ := val_eq e1
    rw [arg1_eq h1] at ha
    obtain ⟨x', r', hargs, hx, hr⟩ := ha.split
    obtain ⟨u', h4, h5⟩ := minV_run (P := P) false r r' x x' v h3 hx hr w
    refine Does.leads ⟨u', π, D, w, ?_, h5, .refl hp⟩
    unfold Builtin.max_
    rw [hargs]
    exact h4
  case min =>
    obtain ⟨x, r, h1, e1⟩ := andThen2_eq h
    obtain ⟨h3, rfl⟩ := val_eq e1
    rw [arg1_eq h1] at ha
    obtain ⟨x', r', hargs, hx, hr⟩ := ha.split
    obtain ⟨u', h4, h5⟩ := minV_run (P := P) true r r' x x' v h3 hx hr w
    refine Does.leads ⟨u', π, D, w, ?_, h5, .refl hp⟩
    unfold Builtin.min_
    rw [hargs]
    exact h4

/-- **one operation**, calls and all -/
theorem sim_oper (hT : TyOk P T) (hc : CallSim P G call) (hg : GlobR G π D) (hlow : σ.low ≤ σ.next) {o : Oper} {ρ ρ' : Operand → Value} {v : Value} (h : operV T call o.op ρ σ = some (v, σ')) (hρ : ∀ x ∈ o.op.operands, VR π D (ρ x) (ρ' x)) (hp : Pre σ σ' π δ D H w) :
    Goes P σ σ' π δ D H w v (execOp ρ' o) := by
  unfold operV at h
  cases hop : callOf o.op with
  | none => rw [hop] at h; exact .inl (sim_op hT h hρ hp)
  | some c =>
    rw [hop] at h
    have h' : callC c.callee T call ρ σ c.argTypes.toList (mapQ ρ c.args.toList) = some (v, σ') := h
    have hop' : o.op = .call c := by
      revert hop; cases o.op <;> simp [callOf]
    rw [hop'] at hρ
    have hargs : VRs π D (mapQ ρ c.args.toList) (c.args.map ρ').toList := by
      rw [mapQ_eq, Array.toList_map]
      exact VRs.mapped _ fun x hx => hρ x (by
        simp only [Op.operands, Call.operands]
        cases c.callee <;> simp <;> first | exact hx | (exact .inr (by simpa using hx)) | (simp at hx; simp [hx]))
    have hex : execOp ρ' o = (do let d ← resolve ρ' c o.type; invoke d.target d.args) := by
      unfold execOp; rw [hop']
    rw [hex]
    cases hcc : c.callee <;> rw [hcc] at h' <;> simp only [callC] at h'
    case builtin b =>
      refine Goes.of_run ?_ (.inl (sim_builtin (ty := o.type) (cs := c.args.map fun | .const _ => true | _ => false) hT h' hargs hp))
      simp only [Sem.run_bind, resolve, hcc, Sem.run_pure, Result.andThen_ok, invoke]
      rfl
    case invoke recv name =>
      have hr : VR π D (ρ recv) (ρ' recv) := hρ recv (by simp [Op.operands, Call.operands, hcc])
      refine Goes.of_run ?_ (goes_method hT hc hg hlow h' hr hargs hp)
      simp only [Sem.run_bind, resolve, hcc, Sem.run_pure, Result.andThen_ok, invoke]
      have h0 : (#[ρ' recv] ++ c.args.map ρ')[0]? = some (ρ' recv) := by
        rw [← Array.getElem?_toList, Array.toList_append]; rfl
      have h1 : (#[ρ' recv] ++ c.args.map ρ').extract 1 (#[ρ' recv] ++ c.args.map ρ').size = c.args.map ρ' := by
        apply Array.ext'
        simp only [Array.toList_extract, Array.toList_append, List.extract_eq_take_drop, Array.size_append, List.cons_append, List.nil_append, List.drop_succ_cons, List.drop_zero]
        rw [List.take_of_length_le (by simp)]
      rw [h0]
      simp only [h1]
    case value f =>
      obtain ⟨fn, first, captured, hf, e1⟩ := andThen3_eq h'
      have hfv : VR π D (ρ f) (ρ' f) := hρ f (by simp [Op.operands, Call.operands, hcc])
      have hfe : ρ f = .func fn ⟨first⟩ ⟨captured⟩ := by
        revert hf
        cases ρ f <;> simp [asF]
        rintro rfl rfl rfl; exact ⟨rfl, rfl, rfl⟩
      rw [hfe] at hfv
      obtain ⟨f', c', hfe', hvf, hvc⟩ := hfv.func_inv
      cases fn <;> simp only [callFn, reduceCtorEq] at e1
      case func g =>
        have hall : VRs π D (appQ (appQ first (mapQ ρ c.args.toList)) captured) (f' ++ c.args.map ρ' ++ c').toList := by
          rw [appQ_eq, appQ_eq, Array.toList_append, Array.toList_append]
          exact (hvf.append hargs).append hvc
        refine Goes.of_run ?_ (goes_call hc hg hlow e1 hall hp)
        simp only [Sem.run_bind, resolve, hcc, Sem.run_pure, Result.andThen_ok, hfe', Deferred.ofValue, invoke]
      case method name =>
        obtain ⟨r, rest, h2, e2⟩ := andThen2_eq e1
        have h3 := arg1_eq h2
        have hall : VRs π D (appQ first (mapQ ρ c.args.toList)) (f' ++ c.args.map ρ').toList := by
          rw [appQ_eq, Array.toList_append]
          exact hvf.append hargs
        rw [h3] at hall
        obtain ⟨r', rest', h4, hr, hrest⟩ := hall.split
        have hx : (f' ++ c.args.map ρ') = ⟨r' :: rest'⟩ := by apply Array.ext'; exact h4
        refine Goes.of_run ?_ (goes_method (args' := ⟨rest'⟩) hT hc hg hlow e2 hr hrest hp)
        simp only [Sem.run_bind, resolve, hcc, Sem.run_pure, Result.andThen_ok, hfe', Deferred.ofValue, invoke, hx]
        have h0 : (⟨r' :: rest'⟩ : Array Value)[0]? = some r' := by simp
        have h1 : (⟨r' :: rest'⟩ : Array Value).extract 1 (⟨r' :: rest'⟩ : Array Value).size = ⟨rest'⟩ := by
          apply Array.ext'; simp
        rw [h0]
        simp only [h1]
end
end Go.Abs

/- THE TEMPORARIES OF THE ABSTRACT MACHINE AND THE MODEL's; a region in the text's order. -/
namespace Go.Abs

/-! ### constants -/

def const1 : Value → Bool
  | .bool _ | .int _ _ | .float _ _ | .complex _ _ _ | .string _ | .nilFunc | .nilIface | .pointer none | .map none => true
  | .slice none n c => Nat.ble n c
  | .func _ a b => and a.isEmpty b.isEmpty
  | _ => false
def constV : Value → Bool
  | .agg cs => cs.toList.all const1
  | .tuple vs => vs.toList.all const1
  | .iface _ v => const1 v
  | v => const1 v

theorem const1_ok {v : Value} (h : const1 v = true) : Const v ∧ v.oneCell' = true := by
  cases v <;> simp only [const1, reduceCtorEq] at h
  case bool b => exact ⟨fun _ _ => .bool b, rfl⟩
  case int k n => exact ⟨fun _ _ => .int k n, rfl⟩
  case float k n => exact ⟨fun _ _ => .float k n, rfl⟩
  case complex k x y => exact ⟨fun _ _ => .complex k x y, rfl⟩
  case string s => exact ⟨fun _ _ => .string s, rfl⟩
  case nilFunc => exact ⟨fun _ _ => .nilFunc, rfl⟩
  case nilIface => exact ⟨fun _ _ => .nilIface, rfl⟩
  case pointer a => cases a <;> simp only [reduceCtorEq] at h; exact ⟨fun _ _ => .ptr0, rfl⟩
  case map a => cases a <;> simp only [reduceCtorEq] at h; exact ⟨fun _ _ => .map0, rfl⟩
  case slice a n c =>
    cases a <;> simp only [reduceCtorEq] at h
    exact ⟨fun _ _ => .sl0 n c ((ble_iff _ _).1 h), rfl⟩
  case func fn a b =>
    obtain ⟨a⟩ := a
    obtain ⟨b⟩ := b
    rw [Bool.and_eq_true] at h
    obtain ⟨h1, h2⟩ := h
    have ha : a = [] := by simpa using h1
    have hb : b = [] := by simpa using h2
    subst ha; subst hb
    exact ⟨fun _ _ => .func fn rfl (fun i v v' h => by simp at h) rfl (fun i v v' h => by simp at h), rfl⟩

theorem consts_VRs {π : PMap} {D : Nat → Prop} : ∀ (l : List Value), l.all const1 = true → VRs π D l l
  | [], _ => .nil
  | v :: l, h => by
    simp only [List.all_cons, Bool.and_eq_true] at h
    exact .cons ((const1_ok h.1).1 π D) (consts_VRs l h.2)

theorem consts_dat : ∀ {l : List Value}, l.all const1 = true → isDatL l = false
  | [], _ => rfl
  | [v], h => by
    simp only [List.all_cons, Bool.and_eq_true] at h
    show isD1 v = false
    cases v <;> first | rfl | (cases h.1; done)
  | _ :: _ :: _, _ => rfl
theorem constV_ok {v : Value} (h : constV v = true) : Const v := by
  intro π D
  cases v
  case agg cs =>
    obtain ⟨cs⟩ := cs
    exact (consts_VRs cs h).agg fun u hu => oneA_of (const1_ok (List.all_eq_true.1 h u hu)).2
  case tuple cs =>
    obtain ⟨cs⟩ := cs
    exact VRs.tuple (consts_dat h) (consts_VRs cs h)
  case iface t u => exact .iface t ((const1_ok h).1 π D)
  all_goals (simp only [constV] at h; exact (const1_ok h).1 π D)

/-! ### operands -/

def opndOk (G : Globs) : Operand → Bool
  | .tmp _ => true
  | .const v => constV v
  | .global g => G g
  | .func _ => true

structure EnvD (ds : List Deferred) (N : Nat) (π : PMap) (D : Nat → Prop) (e : Env) (a : Act) : Prop where
  size : a.tmps.size = N
  tmp : ∀ t, VR π D (orUndef (e.get t)) (a.tmps.getD t undef)
  defers : a.defers = ds
/-- with nothing deferred -/
abbrev EnvR := EnvD []

theorem EnvD.mono {ds : List Deferred} {N : Nat} {π π' : PMap} {D D' : Nat → Prop} {e : Env} {a : Act} (hs : PStep π D π' D') (h : EnvD ds N π D e a) : EnvD ds N π' D' e a := ⟨h.size, fun t => (h.tmp t).mono hs, h.defers⟩

theorem EnvD.eval {ds : List Deferred} {N : Nat} {G : Globs} {π : PMap} {D : Nat → Prop} {e : Env} {a : Act} (h : EnvD ds N π D e a) (hg : GlobR G π D) {x : Operand} (hx : opndOk G x = true) : VR π D (env e x) (a.eval x) := by
  cases x with
  | tmp t => exact h.tmp t
  | const v => exact constV_ok hx π D
  | global g => exact .ptr rfl (hg g hx)
  | func f => exact .func _ rfl (fun i v v' h => by simp at h) rfl (fun i v v' h => by simp at h)

theorem EnvD.put {ds : List Deferred} {N : Nat} {π : PMap} {D : Nat → Prop} {e : Env} {a : Act} (h : EnvD ds N π D e a) {v v' : Value} (hv : VR π D v v') {dst : Option Tmp} (hd : ∀ d, dst = some d → d < N) : EnvD ds N π D (put e v dst) (a.put dst v') := by
  cases dst with
  | none => exact h
  | some d =>
    have hdn := hd d rfl
    refine ⟨by show (a.tmps.setIfInBounds d v').size = N; rw [Array.size_setIfInBounds]; exact h.size, fun t => ?_, h.defers⟩
    show VR π D (orUndef ((e.set d v).get t)) ((a.tmps.setIfInBounds d v').getD t undef)
    rw [Tr.get_set, Array.getD_eq_getD_getElem?]
    by_cases ht : t = d
    · subst ht
      rw [if_pos rfl, Array.getElem?_setIfInBounds_self_of_lt (by rw [h.size]; exact hdn)]
      exact hv
    · rw [if_neg ht, Array.getElem?_setIfInBounds_ne (Ne.symm ht), ← Array.getD_eq_getD_getElem?]
      exact h.tmp t

theorem undef_VR (π : PMap) (D : Nat → Prop) : VR π D undef undef := VRs.tuple rfl .nil

/-! ### guards -/

theorem guardOf_VR {π : PMap} {D : Nat → Prop} {v v' : Value} {want b : Bool} (h : VR π D v v') (hg : guardOf want v = some b) : (asB v' == some want) = b := by
  cases h
  case any => cases (show none = some b from hg)
  case data => cases (show none = some b from hg)
  case dataP => cases (show none = some b from hg)
  all_goals simp only [guardOf, reduceCtorEq] at hg
  case bool b' => cases hg; rfl
  case tuple c c' h1 hc hcs =>
    cases c with
    | nil => cases hg; rfl
    | cons a c => cases hg

theorem yields_eq {ds : List Deferred} {N : Nat} {π : PMap} {D : Nat → Prop} {e : Env} {a : Act} (h : EnvD ds N π D e a) {ops : Array Oper} {j : Nat} {o : Oper} (ho : ops[j]? = some o) (hd : ∀ d, o.dst = some d → d < N) {want b : Bool} (hb : yields e want o = some b) :
    (yielded ops a.tmps j == some want) = b := by
  unfold yields at hb
  unfold yielded
  rw [ho]
  simp only [Option.bind_some]
  cases hdst : o.dst with
  | none => rw [hdst] at hb; cases hb; rfl
  | some d =>
    rw [hdst] at hb
    have hdn := hd d hdst
    have ht := h.tmp d
    have hget : a.tmps[d]? = some (a.tmps.getD d undef) := by
      rw [Array.getD_eq_getD_getElem?]
      rw [Array.getElem?_eq_getElem (by rw [h.size]; exact hdn)]; rfl
    simp only [Option.bind_some, hget]
    obtain ⟨v, h1, h2⟩ := andThen_eq (show andThen (e.get d) (guardOf want) = some b from hb)
    rw [h1] at ht
    have h3 := guardOf_VR (show VR π D v _ from ht) h2
    rw [← h3]
    generalize a.tmps.getD d undef = x
    cases x <;> rfl

/-! ### what is asked of a region's text -/

structure OperOk (G : Globs) (N : Nat) (o : Oper) : Prop where
  opnds : ∀ x ∈ o.op.operands, opndOk G x = true
  dst : ∀ d, o.dst = some d → d < N

def operOk (G : Globs) (N : Nat) (o : Oper) : Bool := and (o.op.operands.toList.all (opndOk G)) (match o.dst with | some d => Nat.blt d N | none => true)
theorem operOk_ok {G : Globs} {N : Nat} {o : Oper} (h : operOk G N o = true) : OperOk G N o := by
  unfold operOk at h
  rw [Bool.and_eq_true] at h
  refine ⟨fun x hx => List.all_eq_true.1 h.1 x (by simpa using hx), fun d hd => ?_⟩
  rw [hd] at h
  exact (blt_iff _ _).1 h.2

theorem wanted_eq {ds : List Deferred} {N : Nat} {G : Globs} {π : PMap} {D : Nat → Prop} {e : Env} {a : Act} (h : EnvD ds N π D e a) {ops : Array Oper} (hops : ∀ o ∈ ops.toList, OperOk G N o) (g : Option (Nat × Bool)) (hg : ∀ j b, g = some (j, b) → j < ops.size) (o : Oper) (hog : o.guard = g) {r : Bool} (hw : wanted ops.toList e g = some r) :
    Region.wanted o (yielded ops a.tmps) = r := by
  unfold Region.wanted
  rw [hog]
  cases g with
  | none => cases hw; rfl
  | some p =>
    obtain ⟨j, b⟩ := p
    have hj := hg j b rfl
    simp only [wanted] at hw ⊢
    rw [nthQ_eq] at hw
    have hget : ops.toList[j]? = some ops[j] := by simp [hj]
    have hget' : ops[j]? = some ops[j] := by simp [hj]
    rw [hget] at hw
    exact yields_eq h hget' (hops _ (by simp)).dst hw

section
variable {P : Program} {T : Tab} {call : CallF}

/-! ### a region in the text's order -/

theorem mono_drawn (hm : MonoF call) {bar : Bool} {op : Op} {ρ : Operand → Value} {σ σ' : ASt} {v : Value} (h : drawn T call bar op ρ σ = some (v, σ')) : Mono σ σ' := by
  obtain ⟨u, σ1, h1, h2⟩ := andThen2_eq h
  obtain ⟨_, h3⟩ := iff_some h2
  simp only [Option.some.injEq, Prod.mk.injEq] at h3
  obtain ⟨rfl, rfl⟩ := h3
  have h4 := mono_oper hm h1
  rw [minN_eq]
  exact ⟨h4.next, Nat.min_le_left _ _, h4.klow, h4.wf, fun k hk => .trans (Nat.min_le_right _ _) (Nat.le_refl _) (h4.step k hk) (.refl _ _ _ _)⟩

theorem mono_doOper (hm : MonoF call) {bar draw : Bool} {op : Op} {ρ : Operand → Value} {σ σ' : ASt} {v : Value} (h : doOper T call bar draw op ρ σ = some (v, σ')) : Mono σ σ' := by
  unfold doOper at h
  cases draw with
  | true => exact mono_drawn hm h
  | false => exact mono_oper hm h

theorem runOps_cons (ops : List Oper) (bar : Nat → Bool) (draw : Bool) (o : Oper) (l : List Oper) (i : Nat) (e : Env) (σ : ASt) : runOps T call ops bar draw (o :: l) i e σ =
    andThen (wanted ops e o.guard) fun g => iff g (andThen2 (doOper T call (bar i) draw o.op (env e) σ) fun v σ' => runOps T call ops bar draw l (i + 1) (put e v o.dst) σ') (runOps T call ops bar draw l (i + 1) (put e undef o.dst) σ) := rfl

theorem mono_runOps (hm : MonoF call) {ops : List Oper} {bar : Nat → Bool} {draw : Bool} : ∀ (l : List Oper) (i : Nat) (e : Env) (σ : ASt) (e' : Env) (σ' : ASt), runOps T call ops bar draw l i e σ = some (e', σ') → Mono σ σ'
  | [], i, e, σ, e', σ', h => by cases (show some (e, σ) = some (e', σ') from h); exact .refl σ
  | o :: l, i, e, σ, e', σ', h => by
    rw [runOps_cons] at h
    obtain ⟨g, _, h⟩ := andThen_eq h
    rw [iff_eq] at h
    split at h
    · obtain ⟨v, σ1, h1, h2⟩ := andThen2_eq h
      exact (mono_doOper hm h1).trans (mono_runOps hm l _ _ _ _ _ h2)
    · exact mono_runOps hm l _ _ _ _ _ h

theorem sim_seqOps {G : Globs} {N : Nat} (hT : TyOk P T) (hc : CallSim P G call) (hm : MonoF call) {ops : Array Oper} (hops : ∀ o ∈ ops.toList, OperOk G N o) (hgd : ∀ o ∈ ops.toList, ∀ j b, o.guard = some (j, b) → j < ops.size)
    {Q : Exit → Act → World → Prop} {bar : Nat → Bool} {H : Nat → Option AObj} : ∀ (l : List Oper) (i : Nat) (e : Env) (σ : ASt) (e' : Env) (σ' : ASt) (π : PMap) (δ D : Nat → Prop) (w : World) (a : Act),
    ops.toList.drop i = l → i + l.length = ops.size → runOps T call ops.toList bar false l i e σ = some (e', σ') → σ.low ≤ σ.next → Pre σ σ' π δ D H w → EnvR N π D e a → GlobR G π D →
    (∀ π' D' w' a', EnvR N π' D' e' a' → Post σ σ' π δ D H w π' D' w' → Q .normal a' w') → wpOps P ops Q (List.range' i l.length) a w
  | [], i, e, σ, e', σ', π, δ, D, w, a, hl, hi, h, hlow, hp, he, hg, hq => by
    cases (show some (e, σ) = some (e', σ') from h)
    exact hq π D w a he (.refl hp)
  | o :: l, i, e, σ, e', σ', π, δ, D, w, a, hl, hi, h, hlow, hp, he, hg, hq => by
    have hmem : o ∈ ops.toList := by
      have : o ∈ ops.toList.drop i := by rw [hl]; simp
      exact List.mem_of_mem_drop this
    have hoi : ops[i]? = some o := by
      rw [← Array.getElem?_toList]
      have : (ops.toList.drop i)[0]? = some o := by rw [hl]; rfl
      rw [List.getElem?_drop, Nat.add_zero] at this
      exact this
    have hl2 : ops.toList.drop (i + 1) = l := by
      rw [← List.drop_drop, hl]; rfl
    have hoo := hops o hmem
    rw [List.length_cons, List.range'_succ, wpOps_cons]
    unfold wpOp
    rw [hoi]
    simp only
    rw [runOps_cons] at h
    obtain ⟨g, hg0, h⟩ := andThen_eq h
    rw [iff_eq, ← wanted_eq he hops o.guard (hgd o hmem) o rfl hg0] at h
    simp only [List.length_cons] at hi
    split
    · rename_i hw
      rw [if_pos hw] at h
      obtain ⟨v, σ1, h1, h2⟩ := andThen2_eq h
      have h1' : operV T call o.op (env e) σ = some (v, σ1) := h1
      have m1 := mono_oper hm h1'
      have m2 := mono_runOps hm _ _ _ _ _ _ h2
      refine .inl (Goes.wp (sim_oper hT hc hg hlow h1' (fun x hx => he.eval hg (hoo.opnds x hx)) (hp.first m1 m2)) fun v' π1 D1 w1 hv hpost => ?_)
      have hs := hpost.pstep (hp.first m1 m2)
      refine sim_seqOps hT hc hm hops hgd l (i + 1) _ _ _ _ π1 (grow σ σ1 δ) D1 w1 _ hl2 (by omega) h2 (Nat.le_trans m1.low (Nat.le_trans hlow m1.next)) (hp.second hpost m2) ((he.mono hs).put hv hoo.dst) (hg.mono hs) fun π2 D2 w2 a2 he2 hp2 => ?_
      exact hq π2 D2 w2 a2 he2 (Post.trans hp hpost hp2)
    · rename_i hw
      rw [if_neg hw] at h
      exact sim_seqOps hT hc hm hops hgd l (i + 1) _ _ _ _ π δ D w _ hl2 (by omega) h hlow hp (he.put (undef_VR π D) hoo.dst) hg hq
end
end Go.Abs

/- WHAT COMES BEFORE WHAT IN A REGION, whatever its order. -/
namespace Go.Abs

/-- j is before i, by a chain of edges -/
inductive Reach (ops : List Oper) : Nat → Nat → Prop
  | edge {i : Nat} {o : Oper} {e : Edge} (ho : ops[i]? = some o) (he : e ∈ o.after.toList) (hb : bindsAny e = true) : Reach ops i e.on
  | chain {i j : Nat} {o : Oper} {e : Edge} (ho : ops[i]? = some o) (he : e ∈ o.after.toList) (hb : bindsAny e = true) (h : Reach ops e.on j) : Reach ops i j

theorem befOf_bits {ops : List Oper} {i : Nat} {o : Oper} (ho : ops[i]? = some o) {acc : Tr Nat} (hacc : ∀ i j, (orZero (acc.get i)).testBit j = true → Reach ops i j) : ∀ (es : List Edge), (∀ e ∈ es, e ∈ o.after.toList) → ∀ j, (befOf acc es).testBit j = true → Reach ops i j
  | [], _, j, h => by
    rw [show befOf acc [] = 0 from rfl, Nat.zero_testBit] at h; cases h
  | e :: es, hs, j, h => by
    have h' : (iff (bindsAny e) (Nat.lor (Nat.lor (befOf acc es) (Nat.pow 2 e.on)) (orZero (acc.get e.on))) (befOf acc es)).testBit j = true := h
    rw [iff_eq] at h'
    have ih := befOf_bits ho hacc es (fun e he => hs e (by simp [he])) j
    split at h'
    · rename_i hb
      have h2 : ((befOf acc es ||| 2 ^ e.on) ||| orZero (acc.get e.on)).testBit j = true := h'
      rw [Nat.testBit_or, Nat.testBit_or, Bool.or_eq_true, Bool.or_eq_true] at h2
      rcases h2 with (h2 | h2) | h2
      · exact ih h2
      · rw [Nat.testBit_two_pow] at h2
        have : e.on = j := by simpa using h2
        subst this
        exact .edge ho (hs e (by simp)) hb
      · exact .chain ho (hs e (by simp)) hb (hacc _ _ h2)
    · exact ih h'

theorem befs_reach {ops : List Oper} : ∀ (l : List Oper) (i : Nat) (acc : Tr Nat), ops.drop i = l → (∀ i j, (orZero (acc.get i)).testBit j = true → Reach ops i j) → ∀ k j, (orZero ((befs l i acc).get k)).testBit j = true → Reach ops k j
  | [], i, acc, _, hacc, k, j, h => hacc k j h
  | o :: l, i, acc, hl, hacc, k, j, h => by
    have hoi : ops[i]? = some o := by
      have : (ops.drop i)[0]? = some o := by rw [hl]; rfl
      rw [List.getElem?_drop, Nat.add_zero] at this
      exact this
    have hl2 : ops.drop (i + 1) = l := by rw [← List.drop_drop, hl]; rfl
    refine befs_reach l (i + 1) (acc.set i (befOf acc o.after.toList)) hl2 (fun a b hab => ?_) k j h
    rw [Tr.get_set] at hab
    by_cases e : a = i
    · subst e
      rw [if_pos rfl] at hab
      exact befOf_bits hoi hacc o.after.toList (fun _ h => h) b hab
    · rw [if_neg e] at hab
      exact hacc a b hab

theorem isBef_reach {ops : List Oper} {i j : Nat} (h : isBef (befs ops 0 .leaf) i j = true) : Reach ops i j :=
  befs_reach ops 0 .leaf rfl (fun i j h => by rw [show orZero ((Tr.leaf : Tr Nat).get i) = 0 from rfl, Nat.zero_testBit] at h; cases h) i j h

/-- the edges go back -/
def BackEdges (ops : List Oper) : Prop := ∀ (i : Nat) (o : Oper), ops[i]? = some o → ∀ e ∈ o.after.toList, bindsAny e = true → e.on < i

theorem Reach.lt {ops : List Oper} (hb : BackEdges ops) {i j : Nat} (h : Reach ops i j) : j < i := by
  induction h with
  | edge ho he h => exact hb _ _ ho _ he h
  | chain ho he h _ ih => exact Nat.lt_trans ih (hb _ _ ho _ he h)

/-- what was run is closed under what comes before -/
def Closed (ops : List Oper) (S : Nat → Prop) : Prop := ∀ i, S i → ∀ o, ops[i]? = some o → ∀ e ∈ o.after.toList, bindsAny e = true → S e.on

theorem Reach.mem {ops : List Oper} {S : Nat → Prop} (hS : Closed ops S) {i j : Nat} (h : Reach ops i j) (hi : ∀ o, ops[i]? = some o → ∀ e ∈ o.after.toList, bindsAny e = true → S e.on) : S j := by
  induction h with
  | edge ho he hb => exact hi _ ho _ he hb
  | chain ho he hb _ ih => exact ih fun o ho2 e he2 hb2 => hS _ (hi _ ho _ he hb) o ho2 e he2 hb2

theorem barAll_ok {b : Tr Nat} {i : Nat} : ∀ (l : List Oper) (j : Nat), barAll b i l j = true → ∀ k o, l[k]? = some o → mem o.op = true → j + k = i ∨ comparable b i (j + k) = true
  | [], j, _, k, o, ho, _ => by simp at ho
  | o0 :: l, j, h, k, o, ho, hm => by
    have h' : iff (mem o0.op) (iff (or (Nat.beq j i) (comparable b i j)) (barAll b i l (j + 1)) false) (barAll b i l (j + 1)) = true := h
    rw [iff_eq, iff_eq] at h'
    cases k with
    | zero =>
      simp only [List.getElem?_cons_zero, Option.some.injEq] at ho
      subst ho
      rw [if_pos hm] at h'
      split at h'
      · rename_i h2
        rw [Bool.or_eq_true, beq_iff] at h2
        exact h2
      · cases h'
    | succ k =>
      simp only [List.getElem?_cons_succ] at ho
      have h2 : barAll b i l (j + 1) = true := by
        split at h'
        · split at h'
          · exact h'
          · cases h'
        · exact h'
      have := barAll_ok l (j + 1) h2 k o ho hm
      rwa [show j + 1 + k = j + (k + 1) by omega] at this

/-- a barrier is ordered with what looks at memory -/
theorem barrier_ok {ops : List Oper} {i : Nat} (h : barrier ops i = true) {k : Nat} {o : Oper} (ho : ops[k]? = some o) (hm : mem o.op = true) : k = i ∨ Reach ops i k ∨ Reach ops k i := by
  have := barAll_ok ops 0 h k o ho hm
  rw [Nat.zero_add] at this
  rcases this with h1 | h1
  · exact .inl h1
  · unfold comparable at h1
    rw [Bool.or_eq_true] at h1
    rcases h1 with h1 | h1
    · exact .inr (.inl (isBef_reach h1))
    · exact .inr (.inr (isBef_reach h1))

/-! ### what is asked of a region that draws its order -/

def opTmps (o : Oper) : List Tmp := o.op.operands.toList.filterMap fun | .tmp t => some t | _ => none
noncomputable def guardTmps (ops : List Oper) (o : Oper) : List Tmp :=
  match o.guard with
  | some (j, _) => match nthQ j ops with | some q => q.dst.toList | none => []
  | none => []
noncomputable def namesOf (ops : List Oper) (o : Oper) : List Tmp := o.dst.toList ++ opTmps o ++ guardTmps ops o

/-- the writers of t are ordered with i -/
noncomputable def writersOk (b : Tr Nat) (i : Nat) (t : Tmp) : List Oper → Nat → Bool
  | [], _ => true
  | o :: l, j => and (match o.dst with | some d => or (not (Nat.beq d t)) (or (Nat.beq j i) (comparable b i j)) | none => true) (writersOk b i t l (j + 1))
noncomputable def drawOk (ops : List Oper) (b : Tr Nat) : List Oper → Nat → Bool
  | [], _ => true
  | o :: l, i => and (and (o.after.toList.all fun e => or (not (bindsAny e)) (Nat.blt e.on i)) ((namesOf ops o).all fun t => writersOk b i t ops 0)) (drawOk ops b l (i + 1))

structure DrawOk (ops : List Oper) : Prop where
  back : BackEdges ops
  writers : ∀ (i : Nat) (o : Oper), ops[i]? = some o → ∀ t ∈ namesOf ops o, ∀ (j : Nat) (q : Oper), ops[j]? = some q → q.dst = some t → j = i ∨ Reach ops i j ∨ Reach ops j i

theorem writersOk_ok {ops : List Oper} {i : Nat} {t : Tmp} : ∀ (l : List Oper) (j : Nat), writersOk (befs ops 0 .leaf) i t l j = true → ∀ k q, l[k]? = some q → q.dst = some t → j + k = i ∨ Reach ops i (j + k) ∨ Reach ops (j + k) i
  | [], j, _, k, q, hq, _ => by simp at hq
  | o :: l, j, h, k, q, hq, hd => by
    simp only [writersOk, Bool.and_eq_true] at h
    cases k with
    | zero =>
      simp only [List.getElem?_cons_zero, Option.some.injEq] at hq
      subst hq
      rw [hd] at h
      have h1 := h.1
      simp only [Bool.or_eq_true, Bool.not_eq_true', comparable] at h1
      rcases h1 with h1 | h1 | h1 | h1
      · exact absurd ((beq_iff _ _).2 rfl) (by rw [h1]; simp)
      · exact .inl ((beq_iff _ _).1 h1)
      · exact .inr (.inl (isBef_reach h1))
      · exact .inr (.inr (isBef_reach h1))
    | succ k =>
      simp only [List.getElem?_cons_succ] at hq
      have := writersOk_ok l (j + 1) h.2 k q hq hd
      rwa [show j + 1 + k = j + (k + 1) by omega] at this

theorem drawOk_ok {ops : List Oper} (h : drawOk ops (befs ops 0 .leaf) ops 0 = true) : DrawOk ops := by
  have key : ∀ (l : List Oper) (i : Nat), drawOk ops (befs ops 0 .leaf) l i = true → ∀ k o, l[k]? = some o → (∀ e ∈ o.after.toList, bindsAny e = true → e.on < i + k) ∧ ∀ t ∈ namesOf ops o, writersOk (befs ops 0 .leaf) (i + k) t ops 0 = true := by
    intro l
    induction l with
    | nil => intro i _ k o ho; simp at ho
    | cons o0 l ih =>
      intro i h k o ho
      simp only [drawOk, Bool.and_eq_true] at h
      cases k with
      | zero =>
        simp only [List.getElem?_cons_zero, Option.some.injEq] at ho
        subst ho
        exact ⟨fun e he hb => by
          have := List.all_eq_true.1 h.1.1 e he
          rw [hb] at this
          exact (blt_iff _ _).1 this, fun t ht => List.all_eq_true.1 h.1.2 t ht⟩
      | succ k =>
        simp only [List.getElem?_cons_succ] at ho
        have := ih (i + 1) h.2 k o ho
        rwa [show i + 1 + k = i + (k + 1) by omega] at this
  refine ⟨fun i o ho e he hb => ?_, fun i o ho t ht j q hq hd => ?_⟩
  · have := (key ops 0 h i o ho).1 e he hb; omega
  · have h1 := (key ops 0 h i o ho).2 t ht
    rw [Nat.zero_add] at h1
    have := writersOk_ok ops 0 h1 j q hq hd
    rwa [Nat.zero_add] at this
end Go.Abs

/- A REGION THAT DRAWS ITS ORDER, AS THE ABSTRACT MACHINE RUNS IT: in the text's order, state by state. -/
namespace Go.Abs

def reset (σ : ASt) : ASt := ⟨σ.heap, σ.next, σ.next, σ.klow⟩

@[simp] theorem reset_obj (σ : ASt) (k : Nat) : (reset σ).obj k = σ.obj k := rfl
@[simp] theorem reset_next (σ : ASt) : (reset σ).next = σ.next := rfl
theorem reset_dead (σ : ASt) (k : Nat) : deadIn (reset σ) k ↔ deadIn σ k := Iff.rfl
theorem reset_wf {σ : ASt} (h : WF σ) : WF (reset σ) := h

/-- one operation of the region, in the text's order -/
structure Good (T : Tab) (call : CallF) (ops : List Oper) (st : Nat → ASt) (en : Nat → Env) (val : Nat → Value) (post : Nat → ASt) (k : Nat) (o : Oper) : Prop where
  env : en (k + 1) = put (en k) (val k) o.dst
  heap : (st (k + 1)).heap = (post k).heap
  next : (st (k + 1)).next = (post k).next
  low : (st (k + 1)).low ≤ (post k).low
  mono : Mono (reset (st k)) (post k)
  step : Mono (st k) (st (k + 1))
  run : (wanted ops (en k) o.guard = some true ∧ operV T call o.op (Abs.env (en k)) (reset (st k)) = some (val k, post k) ∧ ((st k).next ≤ (post k).low ∨ barrier ops k = true)) ∨
    (wanted ops (en k) o.guard = some false ∧ post k = reset (st k) ∧ val k = undef)

structure Trace (T : Tab) (call : CallF) (ops : List Oper) (st : Nat → ASt) (en : Nat → Env) (val : Nat → Value) (post : Nat → ASt) (i : Nat) (l : List Oper) : Prop where
  good : ∀ j o, l[j]? = some o → Good T call ops st en val post (i + j) o

theorem Good.congr {T : Tab} {call : CallF} {ops : List Oper} {st st' : Nat → ASt} {en en' : Nat → Env} {val val' : Nat → Value} {post post' : Nat → ASt} {k : Nat} {o : Oper} (h : Good T call ops st en val post k o)
    (h1 : st' k = st k) (h2 : st' (k + 1) = st (k + 1)) (h3 : en' k = en k) (h4 : en' (k + 1) = en (k + 1)) (h5 : val' k = val k) (h6 : post' k = post k) : Good T call ops st' en' val' post' k o := by
  obtain ⟨a, b, c, d, e, f, g⟩ := h
  exact ⟨by rw [h4, h3, h5]; exact a, by rw [h2, h6]; exact b, by rw [h2, h6]; exact c, by rw [h2, h6]; exact d, by rw [h1, h6]; exact e, by rw [h1, h2]; exact f, by rw [h3, h1, h5, h6]; exact g⟩

theorem exists_trace {T : Tab} {call : CallF} (hm : MonoF call) {ops : List Oper} : ∀ (l : List Oper) (i : Nat) (e : Env) (σ : ASt) (e' : Env) (σ' : ASt), σ.low ≤ σ.next → runOps T call ops (barrier ops) true l i e σ = some (e', σ') →
    ∃ st en val post, st i = σ ∧ en i = e ∧ st (i + l.length) = σ' ∧ en (i + l.length) = e' ∧ Trace T call ops st en val post i l
  | [], i, e, σ, e', σ', _, h => by
    cases (show some (e, σ) = some (e', σ') from h)
    exact ⟨fun _ => σ, fun _ => e, fun _ => undef, fun _ => σ, rfl, rfl, rfl, rfl, ⟨fun j o h => by simp at h⟩⟩
  | o :: l, i, e, σ, e', σ', hlow, h => by
    rw [runOps_cons] at h
    obtain ⟨g, hg0, h⟩ := andThen_eq h
    rw [iff_eq] at h
    have key : ∃ (v : Value) (σ1 σ2 : ASt), runOps T call ops (barrier ops) true l (i + 1) (put e v o.dst) σ1 = some (e', σ') ∧ σ1.heap = σ2.heap ∧ σ1.next = σ2.next ∧ σ1.low ≤ σ2.low ∧ Mono (reset σ) σ2 ∧ Mono σ σ1 ∧
        ((wanted ops e o.guard = some true ∧ operV T call o.op (Abs.env e) (reset σ) = some (v, σ2) ∧ (σ.next ≤ σ2.low ∨ barrier ops i = true)) ∨ (wanted ops e o.guard = some false ∧ σ2 = reset σ ∧ v = undef)) := by
      split at h
      · rename_i hw
        subst hw
        obtain ⟨v, σ1, h1, h2⟩ := andThen2_eq h
        have m1 := mono_drawn hm (show drawn T call (barrier ops i) o.op (Abs.env e) σ = some (v, σ1) from h1)
        obtain ⟨u, σ2, h3, h4⟩ := andThen2_eq (show andThen2 (operV T call o.op (Abs.env e) (reset σ)) (fun v σ' => iff (or (Nat.ble σ.next σ'.low) (barrier ops i)) (some (v, ⟨σ'.heap, σ'.next, minN σ.low σ'.low, σ'.klow⟩)) none) = some (v, σ1) from h1)
        obtain ⟨h5, h6⟩ := iff_some h4
        simp only [Option.some.injEq, Prod.mk.injEq] at h6
        obtain ⟨rfl, rfl⟩ := h6
        rw [Bool.or_eq_true, ble_iff] at h5
        exact ⟨u, _, σ2, h2, rfl, rfl, by rw [minN_eq]; exact Nat.min_le_right _ _, mono_oper hm h3, m1, .inl ⟨hg0, h3, h5⟩⟩
      · rename_i hw
        refine ⟨undef, σ, reset σ, h, rfl, rfl, hlow, .refl _, .refl _, .inr ⟨by rw [hg0]; simpa using hw, rfl, rfl⟩⟩
    obtain ⟨v, σ1, σ2, h1, h2, h3, h4, h5, h6, h7⟩ := key
    obtain ⟨st, en, val, post, g1, g2, g3, g4, g5⟩ := exists_trace hm l (i + 1) (put e v o.dst) σ1 e' σ' (Nat.le_trans h6.low (Nat.le_trans hlow h6.next)) h1
    refine ⟨fun k => if k = i then σ else st k, fun k => if k = i then e else en k, fun k => if k = i then v else val k, fun k => if k = i then σ2 else post k, if_pos rfl, if_pos rfl, ?_, ?_, ⟨fun j q hq => ?_⟩⟩
    · show (if i + (o :: l).length = i then σ else st (i + (o :: l).length)) = σ'
      rw [List.length_cons, if_neg (by omega), show i + (l.length + 1) = i + 1 + l.length by omega]; exact g3
    · show (if i + (o :: l).length = i then e else en (i + (o :: l).length)) = e'
      rw [List.length_cons, if_neg (by omega), show i + (l.length + 1) = i + 1 + l.length by omega]; exact g4
    · cases j with
      | zero =>
        simp only [List.getElem?_cons_zero, Option.some.injEq] at hq
        subst hq
        simp only [Nat.add_zero]
        have hi : i + 1 ≠ i := by omega
        refine ⟨?_, ?_, ?_, ?_, ?_, ?_, ?_⟩
        · rw [if_neg hi, if_pos rfl, if_pos rfl, g2]
        · rw [if_neg hi, if_pos rfl, g1]; exact h2
        · rw [if_neg hi, if_pos rfl, g1]; exact h3
        · rw [if_neg hi, if_pos rfl, g1]; exact h4
        · rw [if_pos rfl, if_pos rfl]; exact h5
        · rw [if_pos rfl, if_neg hi, g1]; exact h6
        · rw [if_pos rfl, if_pos rfl, if_pos rfl, if_pos rfl]; exact h7
      | succ j =>
        simp only [List.getElem?_cons_succ] at hq
        have := g5.good j q hq
        rw [show i + 1 + j = i + (j + 1) by omega] at this
        exact this.congr (if_neg (by omega)) (if_neg (by omega)) (if_neg (by omega)) (if_neg (by omega)) (if_neg (by omega)) (if_neg (by omega))

section
variable {T : Tab} {call : CallF} {ops : List Oper} {st : Nat → ASt} {en : Nat → Env} {val : Nat → Value} {post : Nat → ASt}

/-- an operation that does something to memory -/
def Active (ops : List Oper) (en : Nat → Env) (k : Nat) : Prop := ∃ o, ops[k]? = some o ∧ wanted ops (en k) o.guard = some true ∧ mem o.op = true
/-- it writes what was there before -/
def Writes (st : Nat → ASt) (post : Nat → ASt) (k : Nat) : Prop := (post k).low < (st k).next

theorem pure_same {o : Op} {ρ : Operand → Value} {σ σ' : ASt} {v : Value} (hm : mem o = false) (h : operV T call o ρ σ = some (v, σ')) : σ' = σ := by
  unfold operV at h
  cases o <;> simp only [mem, reduceCtorEq] at hm <;> simp only [callOf] at h
  case move => cases (show some _ = some (v, σ') from h); rfl
  case assign => cases (show some _ = some (v, σ') from h); rfl
  case pick c a b => obtain ⟨_, _, e1⟩ := andThen_eq (show andThen (asB (ρ c)) _ = some (v, σ') from h); cases e1; rfl
  case binOp op t x y yt => obtain ⟨_, e1⟩ := iff_some (show iff _ (val σ _) none = some (v, σ') from h); exact (val_eq e1).2
  case makeInterface t x => obtain ⟨_, _, e1⟩ := andThen_eq (show andThen (desc T t) _ = some (v, σ') from h); obtain ⟨_, e2⟩ := iff_else e1; cases e2; rfl
  case makeFunc => cases (show some _ = some (v, σ') from h); rfl
  all_goals exact (val_eq (show Abs.val σ _ = some (v, σ') from h)).2

variable (ht : Trace T call ops st en val post 0 ops)
include ht

theorem Trace.at {k : Nat} {o : Oper} (ho : ops[k]? = some o) : Good T call ops st en val post k o := by
  have := ht.good k o ho
  rwa [Nat.zero_add] at this

theorem Trace.idle {k : Nat} (hk : k < ops.length) (h : ¬ Active ops en k) : post k = reset (st k) := by
  have ho : ops[k]? = some ops[k] := List.getElem?_eq_getElem hk
  rcases (ht.at ho).run with ⟨h1, h2, _⟩ | ⟨_, h2, _⟩
  · have hm : mem ops[k].op = false := by
      cases hmm : mem ops[k].op with
      | false => rfl
      | true => exact absurd ⟨_, ho, h1, hmm⟩ h
    exact pure_same hm h2
  · exact h2

theorem Trace.writes {k : Nat} (hk : k < ops.length) (h : Writes st post k) : Active ops en k ∧ barrier ops k = true := by
  have ho : ops[k]? = some ops[k] := List.getElem?_eq_getElem hk
  by_cases ha : Active ops en k
  · refine ⟨ha, ?_⟩
    rcases (ht.at ho).run with ⟨_, _, h3⟩ | ⟨h1, _, _⟩
    · exact h3.resolve_left (by unfold Writes at h; omega)
    · obtain ⟨o', ho', hw, _⟩ := ha
      rw [ho] at ho'; cases ho'
      rw [h1] at hw; cases hw
  · exfalso
    have := ht.idle hk ha
    unfold Writes at h
    rw [this] at h
    exact Nat.lt_irrefl _ h

theorem Trace.mono {i j : Nat} (hij : i ≤ j) (hj : j ≤ ops.length) : Mono (st i) (st j) := by
  induction j with
  | zero => have : i = 0 := by omega
            subst this; exact .refl _
  | succ j ih =>
    rcases Nat.lt_or_ge i (j + 1) with h | h
    · exact (ih (by omega) (by omega)).trans (ht.at (List.getElem?_eq_getElem (by omega : j < ops.length))).step
    · have : i = j + 1 := by omega
      subst this; exact .refl _

/-- what does not write is ordered by the text alone; what writes is ordered with what looks at memory -/
theorem Trace.order {S : Nat → Prop} (hS : Closed ops S) (hb : BackEdges ops) {i c : Nat} (hi : i < ops.length) (hc : c < ops.length) (ai : Active ops en i) (ac : Active ops en c)
    (hni : ¬ S i) (hpre : ∀ o, ops[i]? = some o → ∀ e ∈ o.after.toList, bindsAny e = true → S e.on) (hw : Writes st post i ∨ Writes st post c) : (c < i → S c) ∧ (i < c → ¬ S c) := by
  have hcmp : c = i ∨ Reach ops i c ∨ Reach ops c i := by
    rcases hw with hw | hw
    · obtain ⟨o, ho, _, hm⟩ := ac
      exact barrier_ok (ht.writes hi hw).2 ho hm
    · obtain ⟨o, ho, _, hm⟩ := ai
      rcases barrier_ok (ht.writes hc hw).2 ho hm with h | h | h
      · exact .inl h.symm
      · exact .inr (.inr h)
      · exact .inr (.inl h)
  refine ⟨fun h => ?_, fun h hsc => ?_⟩
  · rcases hcmp with h1 | h1 | h1
    · omega
    · exact h1.mem hS hpre
    · have := h1.lt hb; omega
  · rcases hcmp with h1 | h1 | h1
    · omega
    · have := h1.lt hb; omega
    · exact hni (h1.mem hS fun o ho e he hbe => hS c hsc o ho e he hbe)
end
end Go.Abs

/- A REGION THAT DRAWS ITS ORDER, IN ANY ORDER: what has been run, held against the text's order. -/
namespace Go.Abs

/-- it was made by what has been run -/
def Made (n : Nat) (st : Nat → ASt) (S : Nat → Prop) (k : Nat) : Prop := ∃ c, c < n ∧ S c ∧ (st c).next ≤ k ∧ k < (st (c + 1)).next
/-- it ended before, or by what has been run -/
def Killed (n : Nat) (st : Nat → ASt) (S : Nat → Prop) (δ₀ : Nat → Prop) : Nat → Prop := fun k => δ₀ k ∨ ∃ c, c < n ∧ S c ∧ deadIn (st (c + 1)) k ∧ ¬ deadIn (st c) k

structure Part (n : Nat) (st post : Nat → ASt) (S : Nat → Prop) (m : Nat) (π₀ : PMap) (δ₀ D₀ : Nat → Prop) (H : Nat → Option AObj) (w₀ : World) (π : PMap) (D : Nat → Prop) (w : World) : Prop where
  mle : m ≤ n
  upto : ∀ c, c < m → Writes st post c → S c
  stop : m = n ∨ (Writes st post m ∧ ¬ S m)
  rel : Rel π (Killed n st S δ₀) D (ext (st m) H) w
  sub : ∀ k i, π k = some i → π₀ k = some i ∨ (π₀ k = none ∧ Made n st S k)
  kept : ∀ k i, π₀ k = some i → π k = some i ∨ (π k = none ∧ D k ∧ ∃ c, c < n ∧ S c ∧ (post c).low ≤ i.org ∧ i.org < (st (c + 1)).next)
  dmono : ∀ k, D₀ k → D k
  dnew : ∀ k, D k → D₀ k ∨ ∃ c, c < n ∧ S c ∧ deadIn (st (c + 1)) k ∧ (post c).low ≤ k
  kin : ∀ k i, π k = some i → Made n st S i.org ∨ ∃ k₀ i₀, π₀ k₀ = some i₀ ∧ i₀.org = i.org
  blk : ∀ k i, π k = some i → i.ro = false → (∃ k₀ i₀, π₀ k₀ = some i₀ ∧ i₀.ro = false ∧ i₀.blk = i.blk) ∨ w₀.heap.size ≤ i.blk
  fr : Fr π₀ w₀ w
  kld : ∀ c, c < n → S c → ∀ k, k < (st c).next → deadIn (st (c + 1)) k → ¬ deadIn (st c) k → (∃ i, π₀ k = some i) ∨ Made n st S k
  frs : FrStep π₀ π w₀

section
variable {T : Tab} {call : CallF} {ops : List Oper} {st : Nat → ASt} {en : Nat → Env} {val : Nat → Value} {post : Nat → ASt}
variable {π₀ : PMap} {δ₀ D₀ : Nat → Prop} {H : Nat → Option AObj} {w₀ : World} {π : PMap} {D : Nat → Prop} {w : World} {S : Nat → Prop} {m : Nat}

theorem Trace.obj (ht : Trace T call ops st en val post 0 ops) {c : Nat} (hc : c < ops.length) (k : Nat) : (st (c + 1)).obj k = (post c).obj k := by
  unfold ASt.obj
  rw [(ht.at (List.getElem?_eq_getElem hc)).heap]
theorem Trace.nxt (ht : Trace T call ops st en val post 0 ops) {c : Nat} (hc : c < ops.length) : (st (c + 1)).next = (post c).next := (ht.at (List.getElem?_eq_getElem hc)).next
theorem Trace.dead (ht : Trace T call ops st en val post 0 ops) {c : Nat} (hc : c < ops.length) (k : Nat) : deadIn (st (c + 1)) k ↔ deadIn (post c) k := by
  unfold deadIn
  rw [ht.obj hc]

theorem Trace.grew (ht : Trace T call ops st en val post 0 ops) {c k : Nat} (hc : c < ops.length) (h1 : (st c).next ≤ k) (h2 : k < (st (c + 1)).next) : Active ops en c := by
  by_cases ha : Active ops en c
  · exact ha
  · have := ht.idle hc ha
    rw [ht.nxt hc, this] at h2
    exact absurd h2 (by show ¬ k < (st c).next; omega)
theorem Trace.kills (ht : Trace T call ops st en val post 0 ops) {c k : Nat} (hc : c < ops.length) (h1 : deadIn (st (c + 1)) k) (h2 : ¬ deadIn (st c) k) : Active ops en c := by
  by_cases ha : Active ops en c
  · exact ha
  · have := ht.idle hc ha
    rw [ht.dead hc, this] at h1
    exact absurd h1 h2

theorem ObjR.orgs {p : PI} {c : List Value} {e : Option Nat} {org : Nat} {ro d : Bool} (h : ObjR π D p w (.cells c e org ro d)) : p.org = org := by
  obtain ⟨_, _, _, _, _, _, _, _, _, _, h, _⟩ := h
  exact h

/-- where nothing old is written, what a block holds stays -/
theorem Trace.forth (ht : Trace T call ops st en val post 0 ops) {c k : Nat} (hc : c < ops.length) (hw : ¬ Writes st post c) (hk : k < (st c).next) {p : PI} {o : AObj} (ho : (st c).obj k = some o) (hr : ObjR π D p w o) (hp : p.org ≤ k) :
    ∃ o', (st (c + 1)).obj k = some o' ∧ ObjR π D p w o' := by
  have hs := (ht.at (List.getElem?_eq_getElem hc)).mono.step k hk
  have hlow : (st c).next ≤ (post c).low := by unfold Writes at hw; omega
  rw [ht.obj hc]
  rw [reset_obj, ho] at hs
  generalize (post c).obj k = q at hs
  cases hs with
  | cells hl hd hr2 hlow2 hk2 =>
    have horg := ObjR.orgs hr
    rcases hlow2 with h1 | h1
    · omega
    · subst h1; exact ⟨_, rfl, hr⟩
  | other h h0 hlow2 =>
    rcases hlow2 with h1 | h1
    · omega
    · subst h1; exact ⟨_, rfl, hr⟩
theorem Trace.backw (ht : Trace T call ops st en val post 0 ops) {c k : Nat} (hc : c < ops.length) (hw : ¬ Writes st post c) (hk : k < (st c).next) {p : PI} {o : AObj} (ho : (st (c + 1)).obj k = some o) (hr : ObjR π D p w o) (hp : p.org ≤ k) :
    ∃ o', (st c).obj k = some o' ∧ ObjR π D p w o' := by
  have hs := (ht.at (List.getElem?_eq_getElem hc)).mono.step k hk
  have hlow : (st c).next ≤ (post c).low := by unfold Writes at hw; omega
  rw [ht.obj hc] at ho
  rw [reset_obj, ho] at hs
  generalize (st c).obj k = q at hs
  cases hs with
  | cells hl hd hr2 hlow2 hk2 =>
    have horg := ObjR.orgs hr
    rcases hlow2 with h1 | h1
    · omega
    · subst h1; exact ⟨_, rfl, hr⟩
  | other h h0 hlow2 =>
    rcases hlow2 with h1 | h1
    · omega
    · subst h1; exact ⟨_, rfl, hr⟩

theorem Trace.nexts (ht : Trace T call ops st en val post 0 ops) {i j : Nat} (hij : i ≤ j) (hj : j ≤ ops.length) : (st i).next ≤ (st j).next := (ht.mono hij hj).next

theorem Trace.forths (ht : Trace T call ops st en val post 0 ops) {i k : Nat} (hk : k < (st i).next) {p : PI} (hp : p.org ≤ k) : ∀ (j : Nat), i ≤ j → j ≤ ops.length → (∀ c, i ≤ c → c < j → ¬ Writes st post c) → ∀ {o : AObj}, (st i).obj k = some o → ObjR π D p w o → ∃ o', (st j).obj k = some o' ∧ ObjR π D p w o' := by
  intro j
  induction j with
  | zero => intro hij _ _ o ho hr; have : i = 0 := by omega
            subst this; exact ⟨o, ho, hr⟩
  | succ j ih =>
    intro hij hj hw o ho hr
    rcases Nat.lt_or_ge i (j + 1) with h | h
    · obtain ⟨o1, h1, h2⟩ := ih (by omega) (by omega) (fun c hc1 hc2 => hw c hc1 (by omega)) ho hr
      exact ht.forth (by omega) (hw j (by omega) (by omega)) (Nat.lt_of_lt_of_le hk (ht.nexts (by omega) (by omega))) h1 h2 hp
    · have : i = j + 1 := by omega
      subst this; exact ⟨o, ho, hr⟩
theorem Trace.backs (ht : Trace T call ops st en val post 0 ops) {i k : Nat} (hk : k < (st i).next) {p : PI} (hp : p.org ≤ k) : ∀ (j : Nat), i ≤ j → j ≤ ops.length → (∀ c, i ≤ c → c < j → ¬ Writes st post c) → ∀ {o : AObj}, (st j).obj k = some o → ObjR π D p w o → ∃ o', (st i).obj k = some o' ∧ ObjR π D p w o' := by
  intro j
  induction j with
  | zero => intro hij _ _ o ho hr; have : i = 0 := by omega
            subst this; exact ⟨o, ho, hr⟩
  | succ j ih =>
    intro hij hj hw o ho hr
    rcases Nat.lt_or_ge i (j + 1) with h | h
    · obtain ⟨o1, h1, h2⟩ := ht.backw (by omega) (hw j (by omega) (by omega)) (Nat.lt_of_lt_of_le hk (ht.nexts (by omega) (by omega))) ho hr hp
      exact ih (by omega) (by omega) (fun c hc1 hc2 => hw c hc1 (by omega)) h1 h2
    · have : i = j + 1 := by omega
      subst this; exact ⟨o, ho, hr⟩

/-- an operation that is to be run, and does something to memory -/
structure Turn (ops : List Oper) (en : Nat → Env) (S : Nat → Prop) (i : Nat) : Prop where
  lt : i < ops.length
  act : Active ops en i
  new : ¬ S i
  pre : ∀ o, ops[i]? = some o → ∀ e ∈ o.after.toList, bindsAny e = true → S e.on

section
variable (ht : Trace T call ops st en val post 0 ops) (hS : Closed ops S) (hb : BackEdges ops) {i : Nat} (hi : Turn ops en S i)
include ht hS hb hi

theorem Turn.later {c : Nat} (h : i < c) (hc : c < ops.length) (ac : Active ops en c) (hs : S c) : ¬ Writes st post c ∧ ¬ Writes st post i :=
  ⟨fun hw => (ht.order hS hb hi.lt hc hi.act ac hi.new hi.pre (.inr hw)).2 h hs, fun hw => (ht.order hS hb hi.lt hc hi.act ac hi.new hi.pre (.inl hw)).2 h hs⟩
theorem Turn.earlier {c : Nat} (h : c < i) (hw : Writes st post c) : S c := by
  have hc : c < ops.length := by have := hi.lt; omega
  exact (ht.order hS hb hi.lt hc hi.act (ht.writes hc hw).1 hi.new hi.pre (.inr hw)).1 h
theorem Turn.le (hp : Part ops.length st post S m π₀ δ₀ D₀ H w₀ π D w) : i ≤ m := by
  rcases Nat.lt_or_ge m i with h | h
  · exfalso
    rcases hp.stop with h1 | ⟨h1, h2⟩
    · have := hi.lt; omega
    · exact h2 (hi.earlier ht hS hb h h1)
  · exact h
theorem Turn.quiet (hp : Part ops.length st post S m π₀ δ₀ D₀ H w₀ π D w) {c : Nat} (h1 : i ≤ c) (h2 : c < m) : ¬ Writes st post c := by
  intro hw
  have hs := hp.upto c h2 hw
  have hc : c < ops.length := Nat.lt_of_lt_of_le h2 hp.mle
  rcases Nat.lt_or_ge i c with h | h
  · exact (hi.later ht hS hb h hc (ht.writes hc hw).1 hs).1 hw
  · have : c = i := by omega
    subst this; exact hi.new hs

theorem Turn.notMade {k : Nat} (h1 : (st i).next ≤ k) (h2 : k < (st (i + 1)).next) : ¬ Made ops.length st S k := by
  rintro ⟨c, hc, hs, h3, h4⟩
  have _h1 := hS
  have _h2 := hb
  have hil := hi.lt
  rcases Nat.lt_trichotomy c i with h | h | h
  · have := ht.nexts (i := c + 1) (j := i) (by omega) (by omega); omega
  · subst h; exact hi.new hs
  · have := ht.nexts (i := i + 1) (j := c) (by omega) (by omega); omega

/-- **it may be run as the text would** -/
theorem Turn.pre_ (hp : Part ops.length st post S m π₀ δ₀ D₀ H w₀ π D w) (h0 : Pre (st 0) (st ops.length) π₀ δ₀ D₀ H w₀) : Pre (reset (st i)) (post i) π (Killed ops.length st S δ₀) D (ext (st m) H) w := by
  have hil := hi.lt
  have hlem := hi.le ht hS hb hp
  have hml := hp.mle
  have hn0 := ht.nexts (i := 0) (j := i) (by omega) (by omega)
  have hn1 := ht.nexts (i := i) (j := i + 1) (by omega) (by omega)
  have hn2 := ht.nexts (i := i + 1) (j := ops.length) (by omega) (by omega)
  have hnm := ht.nexts (i := i) (j := m) (by omega) (by omega)
  have hnx := ht.nxt hi.lt
  have hlow : (st ops.length).low ≤ (post i).low := Nat.le_trans (ht.mono (i := i + 1) (j := ops.length) (by omega) (by omega)).low (ht.at (List.getElem?_eq_getElem hi.lt)).low
  have hfresh : ∀ k, (st i).next ≤ k → k < (st (i + 1)).next → π k = none ∧ π₀ k = none := fun k h1 h2 => by
    have h3 := h0.fresh k (by omega) (by omega)
    refine ⟨?_, h3⟩
    cases hk : π k with
    | none => rfl
    | some p =>
      rcases hp.sub k p hk with h4 | ⟨_, h4⟩
      · rw [h3] at h4; cases h4
      · exact absurd h4 (hi.notMade ht hS hb h1 h2)
  have hokf : ∀ k, Killed ops.length st S δ₀ k → k < (st i).next ∨ (st (i + 1)).next ≤ k := fun k hk => by
    rcases Nat.lt_or_ge k (st i).next with h1 | h1
    · exact .inl h1
    · rcases Nat.lt_or_ge k (st (i + 1)).next with h2 | h2
      · exfalso
        rcases hk with hk | ⟨c, hc, hs, hd1, hd2⟩
        · rcases h0.okf k hk with h3 | h3 <;> omega
        · rcases Nat.lt_or_ge k (st c).next with h3 | h3
          · rcases hp.kld c hc hs k h3 hd1 hd2 with ⟨p, h4⟩ | h4
            · rw [(hfresh k h1 h2).2] at h4; cases h4
            · exact hi.notMade ht hS hb h1 h2 h4
          · have hw : WF (st (c + 1)) := (ht.mono (i := 0) (j := c + 1) (by omega) (by omega)).wf h0.wf
            exact hi.notMade ht hS hb h1 h2 ⟨c, hc, hs, h3, deadIn_lt hw hd1⟩
      · exact .inr h2
  refine ⟨⟨fun k p hk => ?_, hp.rel.kin, hp.rel.frz, hp.rel.fro, hp.rel.sep, hp.rel.typ⟩, (ht.mono (i := 0) (j := i) (by omega) (by omega)).wf h0.wf, by show (st i).next ≤ (post i).next; omega, fun k h1 h2 => (hfresh k h1 (by omega)).1, fun k hk => by rw [← hnx]; exact hokf k hk, fun k p hd hk => ?_, fun k p hk h1 => ?_, fun k hk => ?_⟩
  · obtain ⟨o, h1, h2⟩ := hp.rel.obj k p hk
    have hkin := (hp.rel.kin k p hk).1
    by_cases hlt : k < (st i).next
    · unfold ext at h1
      rw [if_pos (by omega)] at h1
      obtain ⟨o', h3, h4⟩ := ht.backs hlt hkin m hlem hp.mle (fun c hc1 hc2 => hi.quiet ht hS hb hp hc1 hc2) h1 h2
      exact ⟨o', (if_pos hlt).trans h3, h4⟩
    · refine ⟨o, ?_, h2⟩
      show (if k < (st i).next then _ else ext (st m) H k) = some o
      rw [if_neg hlt]; exact h1
  · rw [← hnx]
    rcases hokf k hd with h1 | h1
    · refine .inr ⟨h1, ?_⟩
      have hnd : ∀ c, i < c → c < ops.length → ¬ deadIn (st c) k → ¬ deadIn (post i) k := fun c hc1 hc2 hc3 hc4 => by
        refine hc3 ((ht.mono (i := i + 1) (j := c) (by omega) (by omega)).dead ((ht.mono (i := 0) (j := i + 1) (by omega) (by omega)).wf h0.wf) ?_)
        rw [ht.dead hi.lt]; exact hc4
      rcases hd with hd | ⟨c, hc, hs, hd1, hd2⟩
      · rcases hp.sub k p hk with h2 | ⟨_, c, hc, hs, h3, h4⟩
        · rcases h0.okd k p hd h2 with h3 | ⟨_, h3 | ⟨h3, h4⟩⟩
          · omega
          · exact .inl ((ht.mono (i := 0) (j := i) (by omega) (by omega)).dead h0.wf h3)
          · refine .inr ⟨fun h5 => h3 ?_, by omega⟩
            refine (ht.mono (i := i + 1) (j := ops.length) (by omega) (by omega)).dead ((ht.mono (i := 0) (j := i + 1) (by omega) (by omega)).wf h0.wf) ?_
            rw [ht.dead hi.lt]; exact h5
        · exfalso
          have := ht.nexts (i := 0) (j := c) (by omega) (by omega)
          have := ht.nexts (i := c + 1) (j := ops.length) (by omega) (by omega)
          rcases h0.okf k hd with h5 | h5 <;> omega
      · rcases Nat.lt_trichotomy c i with h | h | h
        · exact .inl ((ht.mono (i := c + 1) (j := i) (by omega) (by omega)).dead ((ht.mono (i := 0) (j := c + 1) (by omega) (by omega)).wf h0.wf) hd1)
        · subst h; exact absurd hs hi.new
        · have hq := (hi.later ht hS hb h hc (ht.kills hc hd1 hd2) hs).2
          exact .inr ⟨hnd c h hc hd2, by unfold Writes at hq; omega⟩
    · exact .inl h1
  · rw [← hnx] at h1 ⊢
    rcases hp.sub k p hk with h2 | ⟨_, c, hc, hs, h3, h4⟩
    · rcases Nat.lt_or_ge k (st ops.length).next with h3 | h3
      · rw [h0.fresh k (by omega) h3] at h2; cases h2
      · rcases h0.far k p h2 h3 with h4 | h4
        · exact .inl (by omega)
        · exact .inr (by omega)
    · have hci : i < c := by
        rcases Nat.lt_trichotomy c i with h | h | h
        · have := ht.nexts (i := c + 1) (j := i) (by omega) (by omega); omega
        · subst h; exact absurd hs hi.new
        · exact h
      have hq := (hi.later ht hS hb hci hc (ht.grew hc h3 h4) hs).2
      have hlow2 : (st i).next ≤ (post i).low := by unfold Writes at hq; omega
      rcases hp.kin k p hk with ⟨c', hc', hs', h5, h6⟩ | ⟨k₀, i₀, h5, h6⟩
      · rcases Nat.lt_trichotomy c' i with h | h | h
        · have := ht.nexts (i := c' + 1) (j := i) (by omega) (by omega)
          exact .inl (by omega)
        · subst h; exact absurd hs' hi.new
        · have := ht.nexts (i := i + 1) (j := c') (by omega) (by omega)
          exact .inr (by omega)
      · have hk0 := (h0.rel.kin k₀ i₀ h5).1
        rcases Nat.lt_or_ge k₀ (st 0).next with h7 | h7
        · exact .inl (by omega)
        · rcases Nat.lt_or_ge k₀ (st ops.length).next with h8 | h8
          · rw [h0.fresh k₀ h7 h8] at h5; cases h5
          · rcases h0.far k₀ i₀ h5 h8 with h9 | h9
            · exact .inl (by omega)
            · exact .inr (by omega)
  · rw [← hnx]
    rcases hp.dnew k hk with h1 | ⟨c, hc, hs, h1, h2⟩
    · rcases h0.dead k h1 with h3 | h3
      · exact .inl ((ht.mono (i := 0) (j := i) (by omega) (by omega)).dead h0.wf h3)
      · exact .inr (by omega)
    · rcases Nat.lt_trichotomy c i with h | h | h
      · exact .inl ((ht.mono (i := c + 1) (j := i) (by omega) (by omega)).dead ((ht.mono (i := 0) (j := c + 1) (by omega) (by omega)).wf h0.wf) h1)
      · subst h; exact absurd hs hi.new
      · have hnw : ¬ Writes st post c := fun hw => (hi.later ht hS hb h hc (ht.writes hc hw).1 hs).1 hw
        have := ht.nexts (i := i + 1) (j := c) (by omega) (by omega)
        exact .inr (by unfold Writes at hnw; omega)
end

theorem exists_stop (n : Nat) (W S' : Nat → Prop) : ∀ (f a : Nat), a + f = n → ∃ m', a ≤ m' ∧ m' ≤ n ∧ (∀ c, a ≤ c → c < m' → W c → S' c) ∧ (m' = n ∨ (W m' ∧ ¬ S' m'))
  | 0, a, h => ⟨a, Nat.le_refl _, by omega, fun c h1 h2 => by omega, .inl (by omega)⟩
  | f + 1, a, h => by
    by_cases hw : W a ∧ ¬ S' a
    · exact ⟨a, Nat.le_refl _, by omega, fun c h1 h2 => by omega, .inr hw⟩
    · obtain ⟨m', h1, h2, h3, h4⟩ := exists_stop n W S' f (a + 1) (by omega)
      refine ⟨m', by omega, h2, fun c hc1 hc2 hc3 => ?_, h4⟩
      by_cases e : c = a
      · subst e
        exact Classical.byContradiction fun hn => hw ⟨hc3, hn⟩
      · exact h3 c (by omega) hc2 hc3

theorem Part.actLt (ht : Trace T call ops st en val post 0 ops) (hS : Closed ops S) (hb : BackEdges ops) (hp : Part ops.length st post S m π₀ δ₀ D₀ H w₀ π D w) {c : Nat} (hc : c < ops.length) (ac : Active ops en c) (hs : S c) : c < m := by
  rcases Nat.lt_or_ge c m with h | h
  · exact h
  · exfalso
    rcases hp.stop with h1 | ⟨h1, h2⟩
    · omega
    · obtain ⟨o, ho, _, hm⟩ := ac
      rcases barrier_ok (ht.writes (by omega) h1).2 ho hm with h3 | h3 | h3
      · subst h3; exact h2 hs
      · have := h3.lt hb; omega
      · exact h2 (h3.mem hS fun o ho e he hbe => hS c hs o ho e he hbe)

theorem Made.mono {n k : Nat} {S' : Nat → Prop} (h : Made n st S k) (hs : ∀ c, S c → S' c) : Made n st S' k := by
  obtain ⟨c, h1, h2, h3⟩ := h
  exact ⟨c, h1, hs c h2, h3⟩

/-- **what has been run, and one more** -/
theorem Turn.next_ (ht : Trace T call ops st en val post 0 ops) (hS : Closed ops S) (hb : BackEdges ops) {i : Nat} (hi : Turn ops en S i) (hp : Part ops.length st post S m π₀ δ₀ D₀ H w₀ π D w) (h0 : Pre (st 0) (st ops.length) π₀ δ₀ D₀ H w₀)
    {π' : PMap} {D' : Nat → Prop} {w' : World} (hq : Post (reset (st i)) (post i) π (Killed ops.length st S δ₀) D (ext (st m) H) w π' D' w') : ∃ m', Part ops.length st post (fun c => S c ∨ c = i) m' π₀ δ₀ D₀ H w₀ π' D' w' := by
  have hil := hi.lt
  have hlem := hi.le ht hS hb hp
  have hml := hp.mle
  have hnx := ht.nxt hi.lt
  have hn0 := ht.nexts (i := 0) (j := i) (by omega) (by omega)
  have hn1 := ht.nexts (i := i) (j := i + 1) (by omega) (by omega)
  have hn2 := ht.nexts (i := i + 1) (j := ops.length) (by omega) (by omega)
  have hpre := hi.pre_ ht hS hb hp h0
  have hst := hq.pstep hpre
  obtain ⟨m', h1, h2, h3, h4⟩ := exists_stop ops.length (Writes st post) (fun c => S c ∨ c = i) (ops.length - m) m (by omega)
  have hupto : ∀ c, c < m' → Writes st post c → S c ∨ c = i := fun c hc hw => by
    rcases Nat.lt_or_ge c m with h | h
    · exact .inl (hp.upto c h hw)
    · exact h3 c h hc hw
  have hquiet : ∀ c, i < c → c < m' → ¬ Writes st post c := fun c hc1 hc2 hw => by
    rcases hupto c hc2 hw with h | h
    · have hcn : c < ops.length := by omega
      exact (hi.later ht hS hb hc1 hcn (ht.writes hcn hw).1 h).1 hw
    · omega
  have hnew0 : ∀ k, (st i).next ≤ k → k < (st (i + 1)).next → π₀ k = none := fun k h1 h2 => h0.fresh k (by omega) (by omega)
  have hmadei : ∀ k, (st i).next ≤ k → k < (st (i + 1)).next → Made ops.length st (fun c => S c ∨ c = i) k := fun k h1 h2 => ⟨i, hil, .inr rfl, h1, h2⟩
  have hdead : ∀ k, deadIn (post i) k ↔ deadIn (st (i + 1)) k := fun k => (ht.dead hil k).symm
  refine ⟨m', h2, hupto, h4, ⟨fun k p hk => ?_, hq.rel.kin, hq.rel.frz, hq.rel.fro, (hq.rel.weaken fun k hk => ?_).sep, hq.rel.typ⟩, fun k p hk => ?_, fun k p hk => ?_, fun k hk => hq.dmono k (hp.dmono k hk), fun k hk => ?_, fun k p hk => ?_, fun k p hk hro => ?_, ?_, fun c hc hs k hk hd1 hd2 => ?_, hp.frs.trans hq.frs hp.fr.size⟩
  · obtain ⟨o, g1, g2⟩ := hq.rel.obj k p hk
    have hkin := (hq.rel.kin k p hk).1
    unfold ext at g1
    by_cases hlt : k < (st (i + 1)).next
    · rw [if_pos (by omega)] at g1
      rw [← ht.obj hil] at g1
      rcases Nat.lt_or_ge i m' with hm' | hm'
      · obtain ⟨o', g3, g4⟩ := ht.forths hlt hkin m' (by omega) h2 (fun c hc1 hc2 => hquiet c (by omega) hc2) g1 g2
        have := ht.nexts (i := i + 1) (j := m') (by omega) (by omega)
        exact ⟨o', by unfold ext; rw [if_pos (by omega)]; exact g3, g4⟩
      · exfalso
        have e1 : m' = i := by omega
        rcases h4 with h5 | ⟨_, h5⟩
        · omega
        · exact h5 (.inr e1)
    · rw [if_neg (by omega)] at g1
      have hkπ : π k = some p := by
        rcases hq.sub k p hk with h | ⟨_, _, h⟩
        · exact h
        · omega
      by_cases hkm : k < (st m).next
      · rw [if_pos hkm] at g1
        have him : i < m := by
          rcases Nat.lt_or_ge i m with h | h
          · exact h
          · have : m = i := by omega
            subst this; omega
        obtain ⟨o', g3, g4⟩ := ht.forths hkm hkin m' h1 h2 (fun c hc1 hc2 => hquiet c (by omega) hc2) g1 g2
        have := ht.nexts (i := m) (j := m') h1 h2
        exact ⟨o', by unfold ext; rw [if_pos (by omega)]; exact g3, g4⟩
      · rw [if_neg hkm] at g1
        refine ⟨o, ?_, g2⟩
        have hnm : ¬ k < (st m').next := by
          intro h5
          have := ht.nexts (i := m') (j := ops.length) h2 (Nat.le_refl _)
          have h0m := ht.nexts (i := 0) (j := m) (by omega) (by omega)
          rcases hp.sub k p hkπ with h6 | ⟨_, c, hc, hs, h6, h7⟩
          · rw [h0.fresh k (by omega) (by omega)] at h6; cases h6
          · have hcm := hp.actLt ht hS hb hc (ht.grew hc h6 h7) hs
            have := ht.nexts (i := c + 1) (j := m) (by omega) (by omega)
            omega
        unfold ext
        rw [if_neg hnm]; exact g1
  · rcases hk with (hk | ⟨c, hc, hs, hd⟩) | ⟨hd1, hd2⟩
    · exact .inl hk
    · exact .inr ⟨c, hc, .inl hs, hd⟩
    · exact .inr ⟨i, hil, .inr rfl, (hdead k).1 hd1, hd2⟩
  · rcases hq.sub k p hk with h5 | ⟨_, h5, h6⟩
    · rcases hp.sub k p h5 with h7 | ⟨h7, h8⟩
      · exact .inl h7
      · exact .inr ⟨h7, h8.mono fun c h => .inl h⟩
    · exact .inr ⟨hnew0 k h5 (by omega), hmadei k h5 (by omega)⟩
  · rcases hp.kept k p hk with h5 | ⟨h5, h6, c, hc, hs, h7⟩
    · rcases hq.kept k p h5 with h8 | ⟨h8, h9, h10, h11⟩
      · exact .inl h8
      · exact .inr ⟨h8, h9, i, hil, .inr rfl, h10, by omega⟩
    · obtain ⟨h8, h9⟩ := hst.2 k h5 h6
      exact .inr ⟨h8, h9, c, hc, .inl hs, h7⟩
  · rcases hq.dnew k hk with h5 | ⟨h5, h6⟩
    · rcases hp.dnew k h5 with h7 | ⟨c, hc, hs, h7⟩
      · exact .inl h7
      · exact .inr ⟨c, hc, .inl hs, h7⟩
    · exact .inr ⟨i, hil, .inr rfl, (hdead k).1 h5, h6⟩
  · have hkin := (hq.rel.kin k p hk).1
    have old : ∀ k p, π k = some p → Made ops.length st (fun c => S c ∨ c = i) p.org ∨ ∃ k₀ i₀, π₀ k₀ = some i₀ ∧ i₀.org = p.org := fun k p h => by
      rcases hp.kin k p h with h7 | h7
      · exact .inl (h7.mono fun c h => .inl h)
      · exact .inr h7
    rcases hq.sub k p hk with h5 | ⟨_, h5, h6⟩
    · exact old k p h5
    · rcases hq.kin k p hk with h7 | ⟨k₀, i₀, h7, h8⟩
      · exact .inl (hmadei _ h7 (by omega))
      · rw [← h8]; exact old k₀ i₀ h7
  · rcases hq.blk k p hk hro with ⟨k₀, i₀, h5, h6, h7⟩ | h5
    · rcases hp.blk k₀ i₀ h5 h6 with ⟨k₁, i₁, h8, h9, h10⟩ | h8
      · exact .inl ⟨k₁, i₁, h8, h9, h10.trans h7⟩
      · exact .inr (by omega)
    · exact .inr (Nat.le_trans hp.fr.size h5)
  · refine ⟨hq.fr.os.trans hp.fr.os, hq.fr.tape.trans hp.fr.tape, hq.fr.output.trans hp.fr.output, Nat.le_trans hp.fr.size hq.fr.size, fun B hB hu => ?_⟩
    rw [hq.fr.keep B (Nat.lt_of_lt_of_le hB hp.fr.size) fun k p hk hro hbB => ?_, hp.fr.keep B hB hu]
    rcases hp.blk k p hk hro with ⟨k₀, i₀, h5, h6, h7⟩ | h5
    · exact hu k₀ i₀ h5 h6 (h7.trans hbB)
    · omega
  · rcases hs with hs | rfl
    · rcases hp.kld c hc hs k hk hd1 hd2 with h5 | h5
      · exact .inl h5
      · exact .inr (h5.mono fun c h => .inl h)
    · obtain ⟨p, h5⟩ := hq.kld k hk ((hdead k).2 hd1) hd2
      rcases hp.sub k p h5 with h6 | ⟨_, h6⟩
      · exact .inl ⟨p, h6⟩
      · exact .inr (h6.mono fun c h => .inl h)
end
end Go.Abs

/- A REGION THAT DRAWS ITS ORDER: the beginning, what does nothing to memory, the end; and the temporaries. -/
namespace Go.Abs

section
variable {T : Tab} {call : CallF} {ops : List Oper} {st : Nat → ASt} {en : Nat → Env} {val : Nat → Value} {post : Nat → ASt}
variable {π₀ : PMap} {δ₀ D₀ : Nat → Prop} {H : Nat → Option AObj} {w₀ : World} {π : PMap} {D : Nat → Prop} {w : World} {S : Nat → Prop} {m : Nat}

theorem Part.start (ht : Trace T call ops st en val post 0 ops) (h0 : Pre (st 0) (st ops.length) π₀ δ₀ D₀ H w₀) : ∃ m, Part ops.length st post (fun _ => False) m π₀ δ₀ D₀ H w₀ π₀ D₀ w₀ := by
  obtain ⟨m, h1, h2, h3, h4⟩ := exists_stop ops.length (Writes st post) (fun _ => False) ops.length 0 (by omega)
  refine ⟨m, h2, fun c hc hw => h3 c (by omega) hc hw, h4, ⟨fun k p hk => ?_, h0.rel.kin, h0.rel.frz, h0.rel.fro, (h0.rel.weaken fun _ h => .inl h).sep, h0.rel.typ⟩, fun k p hk => .inl hk, fun k p hk => .inl hk, fun _ h => h, fun _ h => .inl h, fun k p hk => .inr ⟨k, p, hk, rfl⟩, fun k p hk hr => .inl ⟨k, p, hk, hr, rfl⟩, .refl _ _, fun c _ hs => hs.elim, FrStep.same rfl⟩
  obtain ⟨o, g1, g2⟩ := h0.rel.obj k p hk
  have hkin := (h0.rel.kin k p hk).1
  have hn := ht.nexts (i := 0) (j := m) (by omega) h2
  have hn2 := ht.nexts (i := m) (j := ops.length) h2 (Nat.le_refl _)
  unfold ext at g1
  by_cases hlt : k < (st 0).next
  · rw [if_pos hlt] at g1
    obtain ⟨o', g3, g4⟩ := ht.forths hlt hkin m (by omega) h2 (fun c hc1 hc2 hw => h3 c hc1 hc2 hw) g1 g2
    exact ⟨o', by unfold ext; rw [if_pos (by omega)]; exact g3, g4⟩
  · rw [if_neg hlt] at g1
    refine ⟨o, ?_, g2⟩
    unfold ext
    rw [if_neg fun h => by rw [h0.fresh k (by omega) (by omega)] at hk; cases hk]
    exact g1

theorem Part.idle (ht : Trace T call ops st en val post 0 ops) (hp : Part ops.length st post S m π₀ δ₀ D₀ H w₀ π D w) {i : Nat} (hi : i < ops.length) (hna : ¬ Active ops en i) : Part ops.length st post (fun c => S c ∨ c = i) m π₀ δ₀ D₀ H w₀ π D w := by
  refine ⟨hp.mle, fun c hc hw => .inl (hp.upto c hc hw), ?_, hp.rel.weaken fun k hk => ?_, fun k p hk => ?_, fun k p hk => ?_, hp.dmono, fun k hk => ?_, fun k p hk => ?_, hp.blk, hp.fr, fun c hc hs k hk hd1 hd2 => ?_, hp.frs⟩
  · rcases hp.stop with h | ⟨h1, h2⟩
    · exact .inl h
    · refine .inr ⟨h1, fun h => ?_⟩
      rcases h with h | rfl
      · exact h2 h
      · exact hna (ht.writes hi h1).1
  · rcases hk with hk | ⟨c, hc, hs, hd⟩
    · exact .inl hk
    · exact .inr ⟨c, hc, .inl hs, hd⟩
  · rcases hp.sub k p hk with h | ⟨h1, h2⟩
    · exact .inl h
    · exact .inr ⟨h1, h2.mono fun c h => .inl h⟩
  · rcases hp.kept k p hk with h | ⟨h1, h2, c, hc, hs, h3⟩
    · exact .inl h
    · exact .inr ⟨h1, h2, c, hc, .inl hs, h3⟩
  · rcases hp.dnew k hk with h | ⟨c, hc, hs, h3⟩
    · exact .inl h
    · exact .inr ⟨c, hc, .inl hs, h3⟩
  · rcases hp.kin k p hk with h | h
    · exact .inl (h.mono fun c h => .inl h)
    · exact .inr h
  · rcases hs with hs | rfl
    · rcases hp.kld c hc hs k hk hd1 hd2 with h5 | h5
      · exact .inl h5
      · exact .inr (h5.mono fun c h => .inl h)
    · exact absurd (ht.kills hc hd1 hd2) hna

theorem exists_turn {Q : Nat → Prop} : ∀ n, ¬ Q 0 → Q n → ∃ c, c < n ∧ ¬ Q c ∧ Q (c + 1)
  | 0, h0, hn => absurd hn h0
  | n + 1, h0, hn => by
    by_cases h : Q n
    · obtain ⟨c, h1, h2⟩ := exists_turn n h0 h
      exact ⟨c, by omega, h2⟩
    · exact ⟨n, by omega, h, hn⟩

theorem Part.whole (ht : Trace T call ops st en val post 0 ops) (hp : Part ops.length st post S m π₀ δ₀ D₀ H w₀ π D w) (h0 : Pre (st 0) (st ops.length) π₀ δ₀ D₀ H w₀) (hall : ∀ c, c < ops.length → S c) : Post (st 0) (st ops.length) π₀ δ₀ D₀ H w₀ π D w := by
  have hm : m = ops.length := by
    rcases hp.stop with h | ⟨_, h⟩
    · exact h
    · rcases Nat.lt_or_ge m ops.length with h2 | h2
      · exact absurd (hall m h2) h
      · have := hp.mle; omega
  subst hm
  have hmade : ∀ k, Made ops.length st S k → (st 0).next ≤ k ∧ k < (st ops.length).next := fun k ⟨c, hc, _, h1, h2⟩ => by
    have := ht.nexts (i := 0) (j := c) (by omega) (by omega)
    have := ht.nexts (i := c + 1) (j := ops.length) (by omega) (by omega)
    omega
  have hlow : ∀ c, c < ops.length → (st ops.length).low ≤ (post c).low ∧ (st (c + 1)).next ≤ (st ops.length).next := fun c hc =>
    ⟨Nat.le_trans (ht.mono (i := c + 1) (j := ops.length) (by omega) (by omega)).low (ht.at (List.getElem?_eq_getElem hc)).low, ht.nexts (by omega) (by omega)⟩
  have hwf : ∀ c, c ≤ ops.length → WF (st c) := fun c hc => (ht.mono (i := 0) (j := c) (by omega) hc).wf h0.wf
  refine ⟨ht.mono (by omega) (by omega), hp.rel.weaken fun k hk => ?_, fun k p hk => ?_, fun k p hk => ?_, hp.dmono, fun k hk => ?_, fun k hk h1 h2 => ?_, fun k p hk => ?_, hp.blk, hp.frs, hp.fr⟩
  · rcases hk with hk | ⟨c, hc, hs, hd1, hd2⟩
    · exact .inl hk
    · exact .inr ⟨(ht.mono (i := c + 1) (j := ops.length) (by omega) (by omega)).dead (hwf _ (by omega)) hd1, fun h => hd2 ((ht.mono (i := 0) (j := c) (by omega) (by omega)).dead h0.wf h)⟩
  · rcases hp.sub k p hk with h | ⟨h1, h2⟩
    · exact .inl h
    · exact .inr ⟨h1, (hmade k h2).1, (hmade k h2).2⟩
  · rcases hp.kept k p hk with h | ⟨h1, h2, c, hc, hs, h3, h4⟩
    · exact .inl h
    · have := hlow c hc
      exact .inr ⟨h1, h2, by omega, by omega⟩
  · rcases hp.dnew k hk with h | ⟨c, hc, hs, h3, h4⟩
    · exact .inl h
    · have := hlow c hc
      exact .inr ⟨(ht.mono (i := c + 1) (j := ops.length) (by omega) (by omega)).dead (hwf _ (by omega)) h3, by omega⟩
  · obtain ⟨c, hc, h3, h4⟩ := exists_turn (Q := fun c => deadIn (st c) k) ops.length h2 h1
    have hn := ht.nexts (i := 0) (j := c) (by omega) (by omega)
    rcases hp.kld c hc (hall c hc) k (by omega) h4 h3 with h5 | h5
    · exact h5
    · have := (hmade k h5).1; omega
  · rcases hp.kin k p hk with h | h
    · exact .inl (hmade _ h).1
    · exact .inr h
end

/-! ### the temporaries -/

open Classical in
/-- the temporaries behind what has been run, of the first k -/
noncomputable def envF (ops : List Oper) (en0 : Env) (val : Nat → Value) (S : Nat → Prop) : Nat → Env
  | 0 => en0
  | k + 1 => if S k then (match ops[k]? with | some o => put (envF ops en0 val S k) (val k) o.dst | none => envF ops en0 val S k) else envF ops en0 val S k

section
variable {ops : List Oper} {en0 : Env} {val : Nat → Value} {S : Nat → Prop}

theorem envF_succ (k : Nat) : envF ops en0 val S (k + 1) = @ite _ (S k) (Classical.propDecidable _) (match ops[k]? with | some o => put (envF ops en0 val S k) (val k) o.dst | none => envF ops en0 val S k) (envF ops en0 val S k) := rfl

theorem put_get (e : Env) (v : Value) (d : Option Tmp) (t : Tmp) : (put e v d).get t = if d = some t then some v else e.get t := by
  cases d with
  | none => simp [put]
  | some d =>
    show (e.set d v).get t = _
    rw [Tr.get_set]
    by_cases h : t = d
    · subst h; simp
    · rw [if_neg h, if_neg (by simp; exact fun e => h e.symm)]

theorem envF_skip {k : Nat} {t : Tmp} (h : S k → ∀ o, ops[k]? = some o → o.dst ≠ some t) : (envF ops en0 val S (k + 1)).get t = (envF ops en0 val S k).get t := by
  rw [envF_succ]
  split
  · rename_i hs
    cases ho : ops[k]? with
    | none => rfl
    | some o =>
      simp only
      rw [put_get, if_neg (h hs o ho)]
  · rfl
theorem envF_take {k : Nat} {t : Tmp} {o : Oper} (hs : S k) (ho : ops[k]? = some o) (hd : o.dst = some t) : (envF ops en0 val S (k + 1)).get t = some (val k) := by
  rw [envF_succ, if_pos hs, ho]
  simp only
  rw [put_get, if_pos hd]

theorem envF_stay {a : Nat} {t : Tmp} : ∀ (b : Nat), a ≤ b → (∀ k, a ≤ k → k < b → S k → ∀ o, ops[k]? = some o → o.dst ≠ some t) → (envF ops en0 val S b).get t = (envF ops en0 val S a).get t := by
  intro b
  induction b with
  | zero => intro h _; have : a = 0 := by omega
            subst this; rfl
  | succ b ih =>
    intro h hw
    rcases Nat.lt_or_ge a (b + 1) with h1 | h1
    · rw [envF_skip (hw b (by omega) (by omega)), ih (by omega) fun k hk1 hk2 => hw k hk1 (by omega)]
    · have : a = b + 1 := by omega
      subst this; rfl

theorem envF_before {en : Nat → Env} {t : Tmp} (hen : ∀ k o, ops[k]? = some o → en (k + 1) = put (en k) (val k) o.dst) {i : Nat} (hi : i ≤ ops.length) (hw : ∀ k o, k < i → ops[k]? = some o → o.dst = some t → S k) : ∀ k, k ≤ i → (envF ops (en 0) val S k).get t = (en k).get t
  | 0, _ => rfl
  | k + 1, hk => by
    have ih := envF_before hen hi hw k (by omega)
    have ho : ops[k]? = some ops[k] := List.getElem?_eq_getElem (by omega)
    rw [hen k _ ho, put_get]
    by_cases hd : ops[k].dst = some t
    · rw [if_pos hd, envF_take (hw k _ (by omega) ho hd) ho hd]
    · rw [if_neg hd, envF_skip (fun _ o ho2 => by rw [ho] at ho2; cases ho2; exact hd), ih]

theorem envF_add {i : Nat} {o : Oper} (ho : ops[i]? = some o) (hni : ¬ S i) (hlater : ∀ t, o.dst = some t → ∀ k q, i < k → ops[k]? = some q → q.dst = some t → ¬ S k) (t : Tmp) :
    (envF ops en0 val (fun c => S c ∨ c = i) ops.length).get t = if o.dst = some t then some (val i) else (envF ops en0 val S ops.length).get t := by
  have hil : i < ops.length := (List.getElem?_eq_some_iff.1 ho).1
  split
  · rename_i hd
    rw [envF_stay (a := i + 1) ops.length (by omega) fun k hk1 hk2 hs q hq hqd => ?_, envF_take (.inr rfl) ho hd]
    rcases hs with hs | rfl
    · exact hlater t hd k q (by omega) hq hqd hs
    · omega
  · rename_i hd
    have key : ∀ k, (envF ops en0 val (fun c => S c ∨ c = i) k).get t = (envF ops en0 val S k).get t := by
      intro k
      induction k with
      | zero => rfl
      | succ k ih =>
        by_cases hki : k = i
        · subst hki
          rw [envF_skip (fun _ q hq => by rw [ho] at hq; cases hq; exact hd), envF_skip (fun hs => absurd hs hni), ih]
        · by_cases hs : S k
          · cases hq : ops[k]? with
            | none => rw [envF_skip (fun _ q h => by rw [hq] at h; cases h), envF_skip (fun _ q h => by rw [hq] at h; cases h), ih]
            | some q =>
              by_cases hqd : q.dst = some t
              · rw [envF_take (.inl hs) hq hqd, envF_take hs hq hqd]
              · rw [envF_skip (fun _ q' h => by rw [hq] at h; cases h; exact hqd), envF_skip (fun _ q' h => by rw [hq] at h; cases h; exact hqd), ih]
          · rw [envF_skip (fun h => by rcases h with h | h <;> contradiction), envF_skip (fun h => absurd h hs), ih]
    exact key ops.length

theorem EnvD.congr {ds : List Deferred} {N : Nat} {π : PMap} {D : Nat → Prop} {e e' : Env} {a : Act} (h : EnvD ds N π D e a) (he : ∀ t, e'.get t = e.get t) : EnvD ds N π D e' a := ⟨h.size, fun t => by rw [he]; exact h.tmp t, h.defers⟩

/-- the temporaries that an operation names are those of the text's order -/
theorem named_eq {en : Nat → Env} (hen : ∀ k o, ops[k]? = some o → en (k + 1) = put (en k) (val k) o.dst) (hok : DrawOk ops) (hS : Closed ops S) {i : Nat} {o : Oper} (ho : ops[i]? = some o) (hni : ¬ S i)
    (hpre : ∀ o, ops[i]? = some o → ∀ e ∈ o.after.toList, bindsAny e = true → S e.on) {t : Tmp} (ht : t ∈ namesOf ops o) : (envF ops (en 0) val S ops.length).get t = (en i).get t ∧ ∀ k q, i < k → ops[k]? = some q → q.dst = some t → ¬ S k := by
  have hil : i < ops.length := (List.getElem?_eq_some_iff.1 ho).1
  have hlater : ∀ k q, i < k → ops[k]? = some q → q.dst = some t → ¬ S k := fun k q hk hq hqd hs => by
    rcases hok.writers i o ho t ht k q hq hqd with h | h | h
    · omega
    · have := h.lt hok.back; omega
    · exact hni (h.mem hS fun o ho e he hb => hS k hs o ho e he hb)
  have hearly : ∀ k q, k < i → ops[k]? = some q → q.dst = some t → S k := fun k q hk hq hqd => by
    rcases hok.writers i o ho t ht k q hq hqd with h | h | h
    · omega
    · exact h.mem hS hpre
    · have := h.lt hok.back; omega
  refine ⟨?_, hlater⟩
  rw [envF_stay (a := i) ops.length (by omega) fun k hk1 hk2 hs q hq hqd => ?_]
  · exact envF_before hen (by omega) hearly i (Nat.le_refl _)
  · rcases Nat.lt_or_ge i k with h | h
    · exact hlater k q h hq hqd hs
    · have : k = i := by omega
      subst this; exact hni hs
end
end Go.Abs

/- REGIONS OF THE ABSTRACT MACHINE, HELD AGAINST THE MODEL's. -/
namespace Go.Abs

theorem binds_any_iff (e : Edge) : Region.binds .any e = bindsAny e := by
  unfold bindsAny Region.binds
  cases e.ground <;> rfl
theorem binds_any {e : Edge} (h : bindsAny e = true) (md : Region.Mode) : Region.binds md e = true := by
  unfold bindsAny at h
  unfold Region.binds
  cases hg : e.ground <;> rw [hg] at h <;> first | rfl | cases h

theorem countP_lt {α : Type} {p q : α → Bool} : ∀ (l : List α), (∀ x ∈ l, q x = true → p x = true) → (∃ x ∈ l, p x = true ∧ q x = false) → l.countP q < l.countP p
  | [], _, ⟨x, hx, _⟩ => by simp at hx
  | a :: l, h, ⟨x, hx, hp, hq⟩ => by
    have hle : l.countP q ≤ l.countP p := List.countP_mono_left fun y hy => h y (by simp [hy])
    rw [List.countP_cons, List.countP_cons]
    rcases List.mem_cons.1 hx with rfl | hx
    · rw [if_pos hp, if_neg (by rw [hq]; simp)]; omega
    · have := countP_lt l (fun y hy => h y (by simp [hy])) ⟨x, hx, hp, hq⟩
      by_cases hqa : q a = true
      · rw [if_pos hqa, if_pos (h a (by simp) hqa)]; omega
      · rw [if_neg hqa]; split <;> omega

section
variable {T : Tab} {call : CallF} {st : Nat → ASt} {en : Nat → Env} {val : Nat → Value} {post : Nat → ASt}
variable {π₀ : PMap} {δ₀ D₀ : Nat → Prop} {H : Nat → Option AObj} {w₀ : World} {π : PMap} {D : Nat → Prop} {w : World} {S : Nat → Prop} {m : Nat}

theorem Part.pstep {ops : List Oper} (ht : Trace T call ops st en val post 0 ops) (h0 : Pre (st 0) (st ops.length) π₀ δ₀ D₀ H w₀) (hp : Part ops.length st post S m π₀ δ₀ D₀ H w₀ π D w) : PStep π₀ D₀ π D :=
  ⟨fun k i hk => (hp.kept k i hk).imp id fun h => ⟨h.1, h.2.1⟩, fun k hk hd => by
    refine ⟨?_, hp.dmono k hd⟩
    cases h1 : π k with
    | none => rfl
    | some p =>
      rcases hp.sub k p h1 with h2 | ⟨_, c, hc, _, h2, h3⟩
      · rw [hk] at h2; cases h2
      · have := ht.nexts (i := 0) (j := c) (by omega) (by omega)
        have := ht.nexts (i := c + 1) (j := ops.length) (by omega) (by omega)
        rcases h0.dead k hd with h4 | h4
        · have := deadIn_lt h0.wf h4; omega
        · omega, hp.frs.1⟩

theorem wanted_congr {ops : List Oper} {o : Oper} {e e' : Env} (h : ∀ t ∈ guardTmps ops o, e.get t = e'.get t) : wanted ops e o.guard = wanted ops e' o.guard := by
  unfold wanted
  unfold guardTmps at h
  cases hg : o.guard with
  | none => rfl
  | some p =>
    obtain ⟨j, b⟩ := p
    rw [hg] at h
    simp only at h ⊢
    cases hq : nthQ j ops with
    | none => rfl
    | some q =>
      rw [hq] at h
      simp only at h ⊢
      unfold yields
      cases hd : q.dst with
      | none => rfl
      | some d =>
        rw [hd] at h
        simp only
        rw [h d (by simp)]

def listedS (n : Nat) (listed : Array Bool) : Nat → Prop := fun c => c < n ∧ listed.getD c false = true

theorem listedS_set {n : Nat} {listed : Array Bool} (hs : listed.size = n) {i : Nat} (hi : i < n) : listedS n (listed.setIfInBounds i true) = fun c => listedS n listed c ∨ c = i := by
  funext c
  apply propext
  unfold listedS
  by_cases h : i = c
  · subst h
    constructor
    · intro _; exact .inr rfl
    · intro _
      refine ⟨hi, ?_⟩
      simp [hs, hi]
  · rw [getD_set_ne false h]
    constructor
    · intro h2; exact .inl h2
    · intro h2; exact h2.resolve_right (Ne.symm h)

variable {P : Program} {G : Globs} {N : Nat} {ops : Array Oper}

theorem sim_anyOps (hT : TyOk P T) (hc : CallSim P G call) (hops : ∀ o ∈ ops.toList, OperOk G N o) (hgd : ∀ o ∈ ops.toList, ∀ j b, o.guard = some (j, b) → j < ops.size) (hok : DrawOk ops.toList)
    (ht : Trace T call ops.toList st en val post 0 ops.toList) (h0 : Pre (st 0) (st ops.toList.length) π₀ δ₀ D₀ H w₀) (hg : GlobR G π₀ D₀) {Q : Exit → Act → World → Prop}
    (hq : ∀ π D w a, EnvR N π D (en ops.toList.length) a → Post (st 0) (st ops.toList.length) π₀ δ₀ D₀ H w₀ π D w → Q .normal a w) :
    ∀ (fuel : Nat) (listed : Array Bool) (m : Nat) (π : PMap) (D : Nat → Prop) (w : World) (a : Act), listed.size = ops.size → (List.range ops.size).countP (fun c => !listed.getD c true) ≤ fuel → Closed ops.toList (listedS ops.size listed) →
      Part ops.toList.length st post (listedS ops.size listed) m π₀ δ₀ D₀ H w₀ π D w → EnvR N π D (envF ops.toList (en 0) val (listedS ops.size listed) ops.toList.length) a → wpAny P .any ops Q fuel listed a w := by
  have hen : ∀ k o, ops.toList[k]? = some o → en (k + 1) = put (en k) (val k) o.dst := fun k o ho => (ht.at ho).env
  have hlen : ops.toList.length = ops.size := rfl
  -- when all has been run
  have done : ∀ (listed : Array Bool) (m : Nat) (π : PMap) (D : Nat → Prop) (w : World) (a : Act), (∀ c, c < ops.size → listedS ops.size listed c) → Part ops.toList.length st post (listedS ops.size listed) m π₀ δ₀ D₀ H w₀ π D w →
      EnvR N π D (envF ops.toList (en 0) val (listedS ops.size listed) ops.toList.length) a → Q .normal a w := fun listed m π D w a hall hp he => by
    refine hq π D w a (he.congr fun t => ?_) (hp.whole ht h0 hall)
    exact (envF_before hen (Nat.le_refl _) (fun k o hk _ _ => hall k hk) _ (Nat.le_refl _)).symm
  have whole : ∀ (listed : Array Bool), listed.size = ops.size → Region.ready .any ops listed = [] → ∀ c, c < ops.size → listedS ops.size listed c := fun listed hs hr c => by
    induction c using Nat.strongRecOn with
    | _ c ih =>
      intro hcn
      refine ⟨hcn, Classical.byContradiction fun hn => ?_⟩
      have ho : ops[c]? = some ops[c] := by simp [hcn]
      have ho' : ops.toList[c]? = some ops[c] := by rw [Array.getElem?_toList]; exact ho
      have : c ∈ Region.ready .any ops listed := by
        rw [mem_ready]
        refine ⟨?_, ops[c], ho, fun e he hbd => ?_⟩
        · have hcl : c < listed.size := by omega
          simp only [Array.getD_eq_getD_getElem?, Array.getElem?_eq_getElem hcl, Option.getD_some] at hn ⊢
          simpa using hn
        · have hlt := hok.back c _ ho' e (by simpa using he) (by rw [← binds_any_iff]; exact hbd)
          exact (ih e.on hlt (by omega)).2
      rw [hr] at this
      cases this
  intro fuel
  induction fuel with
  | zero =>
    intro listed m π D w a hs hf hcl hp he
    have hall : ∀ c, c < ops.size → listedS ops.size listed c := fun c hcn => by
      refine ⟨hcn, ?_⟩
      have h1 : (List.range ops.size).countP (fun c => !listed.getD c true) = 0 := by omega
      rw [List.countP_eq_zero] at h1
      have h2 := h1 c (List.mem_range.2 hcn)
      have hcl : c < listed.size := by omega
      simp only [Array.getD_eq_getD_getElem?, Array.getElem?_eq_getElem hcl, Option.getD_some] at h2 ⊢
      simpa using h2
    refine ⟨?_, done listed m π D w a hall hp he⟩
    rw [List.eq_nil_iff_forall_not_mem]
    intro c hcm
    rw [mem_ready] at hcm
    obtain ⟨h1, o, ho, _⟩ := hcm
    have hcn : c < ops.size := (Array.getElem?_eq_some_iff.1 ho).1
    have h2 := (hall c hcn).2
    have hcl : c < listed.size := by omega
    simp only [Array.getD_eq_getD_getElem?, Array.getElem?_eq_getElem hcl, Option.getD_some] at h1 h2
    rw [h2] at h1; cases h1
  | succ fuel ih =>
    intro listed m π D w a hs hf hcl hp he
    refine ⟨fun hr => done listed m π D w a (whole listed hs hr) hp he, fun i hir => ?_⟩
    rw [mem_ready] at hir
    obtain ⟨hni0, o, ho, hedges⟩ := hir
    have hin : i < ops.size := (Array.getElem?_eq_some_iff.1 ho).1
    have ho' : ops.toList[i]? = some o := by rw [Array.getElem?_toList]; exact ho
    have hmem : o ∈ ops.toList := List.mem_of_getElem? ho'
    have hoo := hops o hmem
    have hil : i < listed.size := by omega
    have hni : ¬ listedS ops.size listed i := fun h => by
      have h2 := h.2
      simp only [Array.getD_eq_getD_getElem?, Array.getElem?_eq_getElem hil, Option.getD_some] at h2 hni0
      rw [h2] at hni0; cases hni0
    have hpre : ∀ o, ops.toList[i]? = some o → ∀ e ∈ o.after.toList, bindsAny e = true → listedS ops.size listed e.on := fun o2 ho2 e hee hb => by
      rw [ho'] at ho2; cases ho2
      have hlt := hok.back i o ho' e hee hb
      exact ⟨by omega, hedges e (by simpa using hee) (binds_any hb .any)⟩
    have hnamed : ∀ t ∈ namesOf ops.toList o, _ := fun t htn => named_eq (val := val) hen hok hcl ho' hni hpre htn
    -- the next stage
    have hset := listedS_set hs hin
    have hs' : (listed.setIfInBounds i true).size = ops.size := by rw [Array.size_setIfInBounds]; exact hs
    have hf' : (List.range ops.size).countP (fun c => !(listed.setIfInBounds i true).getD c true) ≤ fuel := by
      have := countP_lt (p := fun c => !listed.getD c true) (q := fun c => !(listed.setIfInBounds i true).getD c true) (List.range ops.size) (fun c _ h => by
        by_cases e : i = c
        · subst e; simp [hil] at h
        · rw [getD_set_ne true e] at h; exact h) ⟨i, List.mem_range.2 hin, by simp only [hni0]; rfl, by simp [hil]⟩
      omega
    have hcl' : Closed ops.toList (listedS ops.size (listed.setIfInBounds i true)) := by
      rw [hset]
      intro c hcs o2 ho2 e hee hb
      rcases hcs with hcs | rfl
      · exact .inl (hcl c hcs o2 ho2 e hee hb)
      · exact .inl (hpre o2 ho2 e hee hb)
    have henv : ∀ {π' : PMap} {D' : Nat → Prop} {v' : Value}, PStep π D π' D' → VR π' D' (val i) v' → EnvR N π' D' (envF ops.toList (en 0) val (listedS ops.size (listed.setIfInBounds i true)) ops.toList.length) (a.put o.dst v') := fun hst hv => by
      refine EnvD.congr ((he.mono hst).put hv hoo.dst) fun t => ?_
      rw [hset, envF_add ho' hni (fun t htd => (hnamed t (by simp [namesOf, htd])).2) t, put_get]
    have hglob : GlobR G π D := hg.mono (hp.pstep ht h0)
    have hguard : ∀ {r : Bool}, wanted ops.toList (en i) o.guard = some r → Region.wanted o (yielded ops a.tmps) = r := fun hr =>
      wanted_eq he hops o.guard (hgd o hmem) o rfl ((wanted_congr fun t htg => (hnamed t (by simp [namesOf, htg])).1).trans hr)
    have hopnd : ∀ x ∈ o.op.operands, VR π D (env (en i) x) (a.eval x) := fun x hx => by
      have h1 := he.eval hglob (hoo.opnds x hx)
      have h2 : env (en i) x = env (envF ops.toList (en 0) val (listedS ops.size listed) ops.toList.length) x := by
        cases x with
        | tmp t =>
          have htn : t ∈ namesOf ops.toList o := by
            simp only [namesOf, List.mem_append, opTmps, List.mem_filterMap]
            exact .inl (.inr ⟨.tmp t, by simpa using hx, rfl⟩)
          show orUndef _ = orUndef _
          rw [(hnamed t htn).1]
        | _ => rfl
      rw [h2]; exact h1
    have hgood := ht.at ho'
    unfold wpOp
    rw [ho]
    simp only
    rcases hgood.run with ⟨hw, hrun, _⟩ | ⟨hw, hpost, hval⟩
    · rw [if_pos (hguard hw)]
      refine .inl ?_
      cases hmm : mem o.op with
      | false =>
        have hna : ¬ Active ops.toList en i := fun ⟨o2, ho2, _, hm2⟩ => by rw [ho'] at ho2; cases ho2; rw [hmm] at hm2; cases hm2
        have hop : opV o.op T (env (en i)) (reset (st i)) = some (val i, post i) := by
          have h1 : operV T call o.op (env (en i)) (reset (st i)) = opV o.op T (env (en i)) (reset (st i)) := by
            unfold operV
            cases hoc : o.op <;> rw [hoc] at hmm <;> first | rfl | cases hmm
          rw [← h1]; exact hrun
        obtain ⟨_, h2⟩ := sim_pure hT hmm hop hopnd
        obtain ⟨v', h3, h4⟩ := h2 w
        unfold Oper.wp
        rw [h3]
        refine ih _ m π D w _ hs' hf' hcl' ?_ (henv (.refl π D) h4)
        rw [hset]
        exact hp.idle ht hin hna
      | true =>
        have hact : Active ops.toList en i := ⟨o, ho', hw, hmm⟩
        have hturn : Turn ops.toList en (listedS ops.size listed) i := ⟨hin, hact, hni, hpre⟩
        have hpr := hturn.pre_ ht hcl hok.back hp h0
        refine Goes.wp (sim_oper hT hc hglob (Nat.le_refl _) hrun hopnd hpr) fun v' π' D' w' hv hpo => ?_
        obtain ⟨m', hp'⟩ := hturn.next_ ht hcl hok.back hp h0 hpo
        refine ih _ m' π' D' w' _ hs' hf' hcl' ?_ (henv (hpo.pstep hpr) hv)
        rw [hset]
        exact hp'
    · have hna : ¬ Active ops.toList en i := fun ⟨o2, ho2, hw2, _⟩ => by rw [ho'] at ho2; cases ho2; rw [hw] at hw2; cases hw2
      rw [if_neg (by rw [hguard hw]; simp)]
      refine ih _ m π D w _ hs' hf' hcl' ?_ (henv (.refl π D) (by rw [hval]; exact undef_VR π D))
      rw [hset]
      exact hp.idle ht hin hna
end
end Go.Abs

/- THE ABSTRACT MACHINE's CODE, HELD AGAINST THE MODEL's. -/
namespace Go.Abs

/-! ### what is asked of the text -/

noncomputable def guardsOk (ops : Array Oper) : Bool := ops.toList.all fun o => match o.guard with | some (j, _) => Nat.blt j ops.size | none => true
noncomputable def regionOk (G : Globs) (N : Nat) (ops : Array Oper) (draw : Bool) : Bool :=
  and (and (ops.toList.all (operOk G N)) (guardsOk ops)) (iff draw (drawOk ops.toList (befs ops.toList (nat_lit 0) .leaf) ops.toList 0) true)

/-- code without scopes -/
def noScope : Code → Bool
  | .seq a b => and (noScope a) (noScope b)
  | .cond _ a b => and (noScope a) (noScope b)
  | .block _ c => noScope c
  | .loop c => noScope c
  | .scope _ => false
  | _ => true
noncomputable def codeOk (G : Globs) (N : Nat) : Code → Bool
  | .rangeFunc g ps a c => and (and (opndOk G g) (ps.toList.all fun t => Nat.blt t N)) (and (and (noScope a) (noScope c)) (and (codeOk G N a) (codeOk G N c)))
  | .region _ ops draw => regionOk G N ops draw
  | .seq a b => and (codeOk G N a) (codeOk G N b)
  | .cond c a b => and (opndOk G c) (and (codeOk G N a) (codeOk G N b))
  | .block _ c => codeOk G N c
  | .loop c => codeOk G N c
  | .scope c => codeOk G N c
  | _ => true

theorem regionOk_ok {G : Globs} {N : Nat} {ops : Array Oper} {draw : Bool} (h : regionOk G N ops draw = true) :
    (∀ o ∈ ops.toList, OperOk G N o) ∧ (∀ o ∈ ops.toList, ∀ j b, o.guard = some (j, b) → j < ops.size) ∧ (draw = true → DrawOk ops.toList) := by
  unfold regionOk at h
  rw [Bool.and_eq_true, Bool.and_eq_true] at h
  obtain ⟨⟨h1, h2⟩, h3⟩ := h
  refine ⟨fun o ho => operOk_ok (List.all_eq_true.1 h1 o ho), fun o ho j b hg => ?_, fun hd => ?_⟩
  · have := List.all_eq_true.1 h2 o ho
    rw [hg] at this
    exact (blt_iff _ _).1 this
  · rw [hd, iff_true] at h3
    exact drawOk_ok h3

/-! ### a loop that ends -/

theorem wp_iter {P : Program} {c : Code} {Q : Exit → Act → World → Prop} (In : Nat → Act → World → Prop) (h0 : ∀ a w, ¬ In 0 a w) (round : ∀ n a w, In (n + 1) a w → c.wp P (Exit.then (In n) Q) a w) : ∀ n a w, In n a w → (Code.loop c).wp P Q a w := by
  intro n a w h b k cs
  have key : ∀ n a w, In n a w → ∃ e a' w', Q e a' w' ∧ Arrives P (lone (b.at a (.code c :: .inLoop c :: k)) cs w) b k cs e a' w' := by
    intro n
    induction n with
    | zero => intro a w h; exact absurd h (h0 a w)
    | succ n ih =>
      intro a w hI
      obtain ⟨e, a₁, w₁, hq, harr⟩ := round n a w hI b (.inLoop c :: k) cs
      cases e with
      | normal =>
        obtain ⟨e₂, a₂, w₂, hq₂, harr₂⟩ := ih a₁ w₁ hq
        exact ⟨e₂, a₂, w₂, hq₂, .of_steps (Steps.trans harr (.one step_inLoop)) harr₂⟩
      | exit id => exact ⟨_, a₁, w₁, hq, .pass (x := .inLoop c) rfl (fun _ _ => .inl (by simp)) harr⟩
      | goto l => exact ⟨_, a₁, w₁, hq, .pass (x := .inLoop c) rfl (fun _ _ => .inl (by simp)) harr⟩
      | ret => exact ⟨_, a₁, w₁, hq, .pass (x := .inLoop c) rfl (fun _ _ => .inl (by simp)) harr⟩
      | panic ch => exact ⟨_, a₁, w₁, hq, .pass (x := .inLoop c) rfl (fun _ _ => .inl (by simp)) harr⟩
      | outgrown => exact ⟨_, a₁, w₁, hq, .pass (x := .inLoop c) rfl (fun _ _ => .inl (by simp)) harr⟩
  obtain ⟨e, a', w', hq, harr⟩ := key n a w h
  exact ⟨e, a', w', hq, .of_steps (.one step_loop) harr⟩

def exitOf : AEx → Exit
  | .normal => .normal
  | .exit id => .exit id
  | .ret => .ret

section
variable {P : Program} {T : Tab} {call : CallF} {lf : Nat}

/-! ### numbers only grow -/

theorem onNormal_eq {x : AEx} {a b : Out} {r : AEx × Env × ASt} (h : onNormal x a b = some r) : (x = .normal ∧ a = some r) ∨ (x ≠ .normal ∧ b = some r) := by
  cases x with
  | normal => exact .inl ⟨rfl, h⟩
  | exit id => exact .inr ⟨by simp, h⟩
  | ret => exact .inr ⟨by simp, h⟩

theorem mono_iter {body : Env → ASt → Out} (hb : ∀ e σ x e' σ', body e σ = some (x, e', σ') → Mono σ σ') : ∀ (n : Nat) (e : Env) (σ : ASt) (x : AEx) (e' : Env) (σ' : ASt), iter body n e σ = some (x, e', σ') → Mono σ σ'
  | 0, e, σ, x, e', σ', h => by cases (show none = some (x, e', σ') from h)
  | n + 1, e, σ, x, e', σ', h => by
    obtain ⟨y, e1, σ1, h1, h2⟩ := andThen3_eq (show andThen3 (body e σ) (fun x e' σ' => onNormal x (iter body n e' σ') (some (x, e', σ'))) = some (x, e', σ') from h)
    have m1 := hb _ _ _ _ _ h1
    rcases onNormal_eq h2 with ⟨_, h3⟩ | ⟨_, h3⟩
    · exact m1.trans (mono_iter hb n _ _ _ _ _ h3)
    · cases h3; exact m1

theorem mono_code (hm : MonoF call) : ∀ (c : Code) (e : Env) (σ : ASt) (x : AEx) (e' : Env) (σ' : ASt), runCode c T call lf e σ = some (x, e', σ') → Mono σ σ' := by
  intro c
  induction c with
  | skip => intro e σ x e' σ' h; cases (show some (AEx.normal, e, σ) = some (x, e', σ') from h); exact .refl σ
  | region id ops draw =>
    intro e σ x e' σ' h
    obtain ⟨e1, σ1, h1, h2⟩ := andThen2_eq (show andThen2 (runOps T call ops.toList (barrier ops.toList) draw ops.toList 0 e σ) (fun e' σ' => some (AEx.normal, e', σ')) = some (x, e', σ') from h)
    cases h2
    exact mono_runOps hm _ _ _ _ _ _ h1
  | seq a b iha ihb =>
    intro e σ x e' σ' h
    obtain ⟨y, e1, σ1, h1, h2⟩ := andThen3_eq (show andThen3 (runCode a T call lf e σ) (fun x e' σ' => onNormal x (runCode b T call lf e' σ') (some (x, e', σ'))) = some (x, e', σ') from h)
    have m1 := iha _ _ _ _ _ h1
    rcases onNormal_eq h2 with ⟨_, h3⟩ | ⟨_, h3⟩
    · exact m1.trans (ihb _ _ _ _ _ h3)
    · cases h3; exact m1
  | cond c a b iha ihb =>
    intro e σ x e' σ' h
    obtain ⟨t, h1, h2⟩ := andThen_eq (show andThen (asB (env e c)) (fun t => iff t (runCode a T call lf e σ) (runCode b T call lf e σ)) = some (x, e', σ') from h)
    cases t with
    | true => exact iha _ _ _ _ _ h2
    | false => exact ihb _ _ _ _ _ h2
  | block id c ih =>
    intro e σ x e' σ' h
    obtain ⟨y, e1, σ1, h1, h2⟩ := andThen3_eq (show andThen3 (runCode c T call lf e σ) (fun x e' σ' => some (leaves id x, e', σ')) = some (x, e', σ') from h)
    cases h2
    exact ih _ _ _ _ _ h1
  | loop c ih =>
    intro e σ x e' σ' h
    exact mono_iter (fun e σ x e' σ' h => ih e σ x e' σ' h) lf e σ x e' σ' (show iter (runCode c T call lf) lf e σ = some (x, e', σ') from h)
  | rangeFunc => intro e σ x e' σ' h; cases (show none = some (x, e', σ') from h)
  | exit id => intro e σ x e' σ' h; cases (show some (AEx.exit id, e, σ) = some (x, e', σ') from h); exact .refl σ
  | scope c ih => intro e σ x e' σ' h; exact ih e σ x e' σ' h
  | label => intro e σ x e' σ' h; cases (show some (AEx.normal, e, σ) = some (x, e', σ') from h); exact .refl σ
  | goto => intro e σ x e' σ' h; cases (show none = some (x, e', σ') from h)
  | ret => intro e σ x e' σ' h; cases (show some (AEx.ret, e, σ) = some (x, e', σ') from h); exact .refl σ
  | refuse => intro e σ x e' σ' h; cases (show none = some (x, e', σ') from h)

/-! ### the code -/

/-- what the model's code does where the abstract machine's goes to x, e', σ' -/
def CodeSim (P : Program) (G : Globs) (N : Nat) (c : Code) (run : Env → ASt → Out) : Prop :=
  ∀ e σ x e' σ', run e σ = some (x, e', σ') → σ.low ≤ σ.next → ∀ π δ D H w a, Pre σ σ' π δ D H w → EnvR N π D e a → GlobR G π D → ∀ Q : Exit → Act → World → Prop,
    (∀ π' D' w' a', EnvR N π' D' e' a' → Post σ σ' π δ D H w π' D' w' → Q (exitOf x) a' w') → c.wp P Q a w

theorem sim_region {G : Globs} {N : Nat} (hx : P.follows .mixedOrders = true) (hT : TyOk P T) (hc : CallSim P G call) (hm : MonoF call) {id : Nat} {ops : Array Oper} {draw : Bool} (hok : regionOk G N ops draw = true) :
    CodeSim P G N (.region id ops draw) (runCode (.region id ops draw) T call lf) := by
  intro e σ x e' σ' h hlow π δ D H w a hp he hg Q hq
  obtain ⟨hops, hgd, hdr⟩ := regionOk_ok hok
  obtain ⟨e1, σ1, h1, h2⟩ := andThen2_eq (show andThen2 (runOps T call ops.toList (barrier ops.toList) draw ops.toList 0 e σ) (fun e' σ' => some (AEx.normal, e', σ')) = some (x, e', σ') from h)
  cases h2
  cases draw with
  | false =>
    apply wp_region
    have := sim_seqOps hT hc hm hops hgd (Q := Q) ops.toList 0 e σ e' σ' π δ D w a rfl (by simp) h1 hlow hp he hg hq
    rw [← List.range_eq_range'] at this
    exact this
  | true =>
    have hd := hdr rfl
    obtain ⟨st, en, val, post, g1, g2, g3, g4, g5⟩ := exists_trace hm ops.toList 0 e σ e' σ' hlow h1
    rw [Nat.zero_add] at g3 g4
    have h0 : Pre (st 0) (st ops.toList.length) π δ D H w.drew := by rw [g1, g3]; exact hp.drew
    have any : wpAny P .any ops Q ops.size (Array.replicate ops.size false) a w.drew := by
      have hnone : listedS ops.size (Array.replicate ops.size false) = fun _ => False := by
        funext c
        apply propext
        refine ⟨fun h => ?_, fun h => h.elim⟩
        obtain ⟨h5, h6⟩ := h
        simp [h5] at h6
      obtain ⟨m, hpart⟩ := Part.start g5 h0
      refine sim_anyOps hT hc hops hgd hd g5 h0 hg (fun π' D' w' a' he' hpo => ?_) ops.size _ m π D w.drew a (by simp) (Nat.le_trans List.countP_le_length (by simp)) ?_ ?_ ?_
      · rw [g4] at he'
        rw [g1, g3] at hpo
        exact hq π' D' w' a' he' hpo.drew
      · rw [hnone]; exact fun i hi => hi.elim
      · rw [hnone]; exact hpart
      · rw [hnone]
        refine he.congr fun t => ?_
        rw [envF_stay (a := 0) _ (by omega) fun k _ _ hs => hs.elim]
        show (en 0).get t = _
        rw [g2]
    refine wp_region_draw fun t => ?_
    show wpOps P ops Q _ a w.drew
    unfold Region.schedule
    rw [hx, Bool.true_or, if_pos rfl]
    exact wpAny_sound ops.size t _ a _ any

theorem sim_code {G : Globs} {N : Nat} (hx : P.follows .mixedOrders = true) (hT : TyOk P T) (hc : CallSim P G call) (hm : MonoF call) : ∀ (c : Code), codeOk G N c = true → CodeSim P G N c (runCode c T call lf) := by
  intro c
  induction c with
  | skip =>
    intro _ e σ x e' σ' h hlow π δ D H w a hp he hg Q hq
    cases (show some (AEx.normal, e, σ) = some (x, e', σ') from h)
    exact wp_skip (hq π D w a he (.refl hp))
  | region id ops draw => intro hok; exact sim_region hx hT hc hm hok
  | seq a b iha ihb =>
    intro hok e σ x e' σ' h hlow π δ D H w act hp he hg Q hq
    simp only [codeOk, Bool.and_eq_true] at hok
    obtain ⟨y, e1, σ1, h1, h2⟩ := andThen3_eq (show andThen3 (runCode a T call lf e σ) (fun x e' σ' => onNormal x (runCode b T call lf e' σ') (some (x, e', σ'))) = some (x, e', σ') from h)
    have m1 := mono_code hm _ _ _ _ _ _ h1
    apply wp_seq
    rcases onNormal_eq h2 with ⟨rfl, h3⟩ | ⟨hne, h3⟩
    · have m2 := mono_code hm _ _ _ _ _ _ h3
      refine iha hok.1 e σ .normal e1 σ1 h1 hlow π δ D H w act (hp.first m1 m2) he hg _ fun π' D' w' a' he' hpo => ?_
      have hs := hpo.pstep (hp.first m1 m2)
      refine ihb hok.2 e1 σ1 x e' σ' h3 (Nat.le_trans m1.low (Nat.le_trans hlow m1.next)) π' _ D' H w' a' (hp.second hpo m2) he' (hg.mono hs) Q fun π2 D2 w2 a2 he2 hpo2 => ?_
      exact hq π2 D2 w2 a2 he2 (Post.trans hp hpo hpo2)
    · cases h3
      refine iha hok.1 e σ x e' σ' h1 hlow π δ D H w act hp he hg _ fun π' D' w' a' he' hpo => ?_
      cases x with
      | normal => exact absurd rfl hne
      | exit id => exact hq π' D' w' a' he' hpo
      | ret => exact hq π' D' w' a' he' hpo
  | cond c a b iha ihb =>
    intro hok e σ x e' σ' h hlow π δ D H w act hp he hg Q hq
    simp only [codeOk, Bool.and_eq_true] at hok
    obtain ⟨t, h1, h2⟩ := andThen_eq (show andThen (asB (env e c)) (fun t => iff t (runCode a T call lf e σ) (runCode b T call lf e σ)) = some (x, e', σ') from h)
    have hcv := he.eval hg hok.1
    rw [asB_eq h1] at hcv
    refine wp_cond hcv.bool_inv ?_
    cases t with
    | true => exact iha hok.2.1 e σ x e' σ' h2 hlow π δ D H w act hp he hg Q hq
    | false => exact ihb hok.2.2 e σ x e' σ' h2 hlow π δ D H w act hp he hg Q hq
  | block id c ih =>
    intro hok e σ x e' σ' h hlow π δ D H w act hp he hg Q hq
    obtain ⟨y, e1, σ1, h1, h2⟩ := andThen3_eq (show andThen3 (runCode c T call lf e σ) (fun x e' σ' => some (leaves id x, e', σ')) = some (x, e', σ') from h)
    cases h2
    apply wp_block
    refine ih hok e σ y e' σ' h1 hlow π δ D H w act hp he hg _ fun π' D' w' a' he' hpo => ?_
    have hq' := hq π' D' w' a' he' hpo
    cases y with
    | normal => exact hq'
    | ret => exact hq'
    | exit id' =>
      show (if id' = id then Q .normal a' w' else Q (.exit id') a' w')
      have hq2 : Q (exitOf (iff (Nat.beq id' id) .normal (.exit id'))) a' w' := hq'
      rw [iff_eq] at hq2
      by_cases hid : id' = id
      · rw [if_pos ((beq_iff _ _).2 hid)] at hq2
        rw [if_pos hid]; exact hq2
      · rw [if_neg fun h => hid ((beq_iff _ _).1 h)] at hq2
        rw [if_neg hid]; exact hq2
  | loop c ih =>
    intro hok e σ x e' σ' h hlow π δ D H w act hp he hg Q hq
    have h' : iter (runCode c T call lf) lf e σ = some (x, e', σ') := h
    refine wp_iter (fun n a w => ∃ e σ π δ D, iter (runCode c T call lf) n e σ = some (x, e', σ') ∧ σ.low ≤ σ.next ∧ Pre σ σ' π δ D H w ∧ EnvR N π D e a ∧ GlobR G π D ∧
      ∀ π' D' w' a', EnvR N π' D' e' a' → Post σ σ' π δ D H w π' D' w' → Q (exitOf x) a' w') ?_ ?_ lf act w ⟨e, σ, π, δ, D, h', hlow, hp, he, hg, hq⟩
    · rintro a w ⟨e, σ, π, δ, D, h, _⟩
      cases (show none = some (x, e', σ') from h)
    · rintro n a w ⟨e, σ, π, δ, D, h, hlow, hp, he, hg, hq⟩
      obtain ⟨y, e1, σ1, h1, h2⟩ := andThen3_eq (show andThen3 (runCode c T call lf e σ) (fun x e' σ' => onNormal x (iter (runCode c T call lf) n e' σ') (some (x, e', σ'))) = some (x, e', σ') from h)
      have m1 := mono_code hm _ _ _ _ _ _ h1
      rcases onNormal_eq h2 with ⟨rfl, h3⟩ | ⟨hne, h3⟩
      · have m2 := mono_iter (fun e σ x e' σ' h => mono_code hm c e σ x e' σ' h) n _ _ _ _ _ h3
        refine ih hok e σ .normal e1 σ1 h1 hlow π δ D H w a (hp.first m1 m2) he hg _ fun π' D' w' a' he' hpo => ?_
        have hs := hpo.pstep (hp.first m1 m2)
        exact ⟨e1, σ1, π', _, D', h3, Nat.le_trans m1.low (Nat.le_trans hlow m1.next), hp.second hpo m2, he', hg.mono hs, fun π2 D2 w2 a2 he2 hpo2 => hq π2 D2 w2 a2 he2 (Post.trans hp hpo hpo2)⟩
      · cases h3
        refine ih hok e σ x e' σ' h1 hlow π δ D H w a hp he hg _ fun π' D' w' a' he' hpo => ?_
        cases x with
        | normal => exact absurd rfl hne
        | exit id => exact hq π' D' w' a' he' hpo
        | ret => exact hq π' D' w' a' he' hpo
  | rangeFunc => intro _ e σ x e' σ' h; cases (show none = some (x, e', σ') from h)
  | exit id =>
    intro _ e σ x e' σ' h hlow π δ D H w a hp he hg Q hq
    cases (show some (AEx.exit id, e, σ) = some (x, e', σ') from h)
    exact wp_exit (hq π D w a he (.refl hp))
  | scope c ih =>
    intro hok e σ x e' σ' h hlow π δ D H w a hp he hg Q hq
    apply wp_scope_straight
    refine ih hok e σ x e' σ' h hlow π δ D H w a hp he hg _ fun π' D' w' a' he' hpo => ?_
    have hq' := hq π' D' w' a' he' hpo
    cases x <;> exact hq'
  | label =>
    intro _ e σ x e' σ' h hlow π δ D H w a hp he hg Q hq
    cases (show some (AEx.normal, e, σ) = some (x, e', σ') from h)
    exact wp_label (hq π D w a he (.refl hp))
  | goto => intro _ e σ x e' σ' h; cases (show none = some (x, e', σ') from h)
  | ret =>
    intro _ e σ x e' σ' h hlow π δ D H w a hp he hg Q hq
    cases (show some (AEx.ret, e, σ) = some (x, e', σ') from h)
    exact wp_ret (hq π D w a he (.refl hp))
  | refuse => intro _ e σ x e' σ' h; cases (show none = some (x, e', σ') from h)
end
end Go.Abs
