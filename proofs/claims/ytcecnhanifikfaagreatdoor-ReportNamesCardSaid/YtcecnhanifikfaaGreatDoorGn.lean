/- What the listed variables hold, out of the row's list. Conditions: none. -/
import Derived.Test.YtcecnhanifikfaaGreatDoorGl
set_option maxRecDepth 100000
namespace Go.Proofs.YtcecnhanifikfaaGreatDoor
open Go Go.Abs
/-! ### out of the row's list -/
theorem laid_one {P : Program} {W : World} {y : String × DataW Unit} {s r : List (String × DataW Unit)} {q : List MemPlace} (h : laidMet P (y :: s) W) (hr : DataW.LaidVars P W r q) : ∃ q', DataW.LaidVars P W (y :: r) q' := by
  obtain ⟨ps, ⟨g, t, cs, f, p, q0, h1, h2, h3, h4, _, _⟩, _⟩ := h
  exact ⟨_, g, t, cs, f, p, q, h1, h2, h3, h4, hr, rfl⟩
/-- those that hold data -/
def list : List (String × DataW Unit) := [("internal/strconv.uint64pow10", Rows.laid_internal_strconv_uint64pow10), ("math/bits.deBruijn32tab", Rows.laid_math_bits_deBruijn32tab), ("math/bits.deBruijn64tab", Rows.laid_math_bits_deBruijn64tab), ("unicode/utf8.first", Rows.laid_unicode_utf8_first), ("unicode/utf8.acceptRanges", Rows.laid_unicode_utf8_acceptRanges), ("braid/digest.constants", Rows.laid_braid_digest_constants), ("braid/quota.rows", Rows.laid_braid_quota_rows)]
theorem nm0 : Tryz.prog.globalNamed "internal/strconv.uint64pow10" = some 0 := by kernel_rfl
theorem ty0 : (Tryz.prog.globals[0]?).map (·.type) = some 347 := by kernel_rfl
theorem nm5 : Tryz.prog.globalNamed "math/bits.deBruijn32tab" = some 5 := by kernel_rfl
theorem ty5 : (Tryz.prog.globals[5]?).map (·.type) = some 30 := by kernel_rfl
theorem nm6 : Tryz.prog.globalNamed "math/bits.deBruijn64tab" = some 6 := by kernel_rfl
theorem ty6 : (Tryz.prog.globals[6]?).map (·.type) = some 564 := by kernel_rfl
theorem nm7 : Tryz.prog.globalNamed "unicode/utf8.first" = some 7 := by kernel_rfl
theorem ty7 : (Tryz.prog.globals[7]?).map (·.type) = some 358 := by kernel_rfl
theorem nm8 : Tryz.prog.globalNamed "unicode/utf8.acceptRanges" = some 8 := by kernel_rfl
theorem ty8 : (Tryz.prog.globals[8]?).map (·.type) = some 576 := by kernel_rfl
theorem nm9 : Tryz.prog.globalNamed "braid/digest.constants" = some 9 := by kernel_rfl
theorem ty9 : (Tryz.prog.globals[9]?).map (·.type) = some 711 := by kernel_rfl
theorem nm4 : Tryz.prog.globalNamed "braid/quota.rows" = some 4 := by kernel_rfl
theorem ty4 : (Tryz.prog.globals[4]?).map (·.type) = some 549 := by kernel_rfl
theorem nm1 : Tryz.prog.globalNamed "strconv.ErrSyntax" = some 1 := by kernel_rfl
theorem ty1 : (Tryz.prog.globals[1]?).map (·.type) = some 111 := by kernel_rfl
theorem nm2 : Tryz.prog.globalNamed "strconv.ErrRange" = some 2 := by kernel_rfl
theorem ty2 : (Tryz.prog.globals[2]?).map (·.type) = some 111 := by kernel_rfl
theorem vars0 : VarsAre Tryz.prog xs0 list := ⟨nm0, ty0, rfl, ⟨nm5, ty5, rfl, ⟨nm6, ty6, rfl, ⟨nm7, ty7, rfl, ⟨nm8, ty8, rfl, ⟨nm9, ty9, rfl, ⟨nm4, ty4, rfl, trivial⟩⟩⟩⟩⟩⟩⟩
theorem star : "*" ++ "errors.errorString" = "*errors.errorString" := by decide
theorem all_chunks {p : Nat → Bool} (m : Nat) (hm : 0 < m) (h : ∀ k, k < 16 → ((List.range m).all fun i => p (k * m + i)) = true) {n : Nat} (hn : n ≤ 16 * m) : (List.range n).all p = true := by
  refine List.all_eq_true.2 fun u hu => ?_
  have hu := List.mem_range.1 hu
  have h1 := List.all_eq_true.1 (h (u / m) (Nat.div_lt_of_lt_mul (by rw [Nat.mul_comm]; omega))) (u % m) (List.mem_range.2 (Nat.mod_lt _ hm))
  rw [Nat.mul_comm, Nat.div_add_mod] at h1
  exact h1
noncomputable def pRow (u : Nat) : Bool := Tryz.prog.typeName? 3 u != some "*errors.errorString" || u == 561
noncomputable def pNam (e : Nat) : Bool := Tryz.prog.typeName? 2 e != some "errors.errorString" || (match (Tryz.prog.info? e).map (·.desc) with | some (TypeDesc.named _ _) => true | _ => false)
theorem pr0 : ((List.range 48).all fun i => pRow (0 * 48 + i)) = true := by kernel_rfl
theorem pn0 : ((List.range 48).all fun i => pNam (0 * 48 + i)) = true := by kernel_rfl
theorem pr1 : ((List.range 48).all fun i => pRow (1 * 48 + i)) = true := by kernel_rfl
theorem pn1 : ((List.range 48).all fun i => pNam (1 * 48 + i)) = true := by kernel_rfl
theorem pr2 : ((List.range 48).all fun i => pRow (2 * 48 + i)) = true := by kernel_rfl
theorem pn2 : ((List.range 48).all fun i => pNam (2 * 48 + i)) = true := by kernel_rfl
theorem pr3 : ((List.range 48).all fun i => pRow (3 * 48 + i)) = true := by kernel_rfl
theorem pn3 : ((List.range 48).all fun i => pNam (3 * 48 + i)) = true := by kernel_rfl
theorem pr4 : ((List.range 48).all fun i => pRow (4 * 48 + i)) = true := by kernel_rfl
theorem pn4 : ((List.range 48).all fun i => pNam (4 * 48 + i)) = true := by kernel_rfl
theorem pr5 : ((List.range 48).all fun i => pRow (5 * 48 + i)) = true := by kernel_rfl
theorem pn5 : ((List.range 48).all fun i => pNam (5 * 48 + i)) = true := by kernel_rfl
theorem pr6 : ((List.range 48).all fun i => pRow (6 * 48 + i)) = true := by kernel_rfl
theorem pn6 : ((List.range 48).all fun i => pNam (6 * 48 + i)) = true := by kernel_rfl
theorem pr7 : ((List.range 48).all fun i => pRow (7 * 48 + i)) = true := by kernel_rfl
theorem pn7 : ((List.range 48).all fun i => pNam (7 * 48 + i)) = true := by kernel_rfl
theorem pr8 : ((List.range 48).all fun i => pRow (8 * 48 + i)) = true := by kernel_rfl
theorem pn8 : ((List.range 48).all fun i => pNam (8 * 48 + i)) = true := by kernel_rfl
theorem pr9 : ((List.range 48).all fun i => pRow (9 * 48 + i)) = true := by kernel_rfl
theorem pn9 : ((List.range 48).all fun i => pNam (9 * 48 + i)) = true := by kernel_rfl
theorem pr10 : ((List.range 48).all fun i => pRow (10 * 48 + i)) = true := by kernel_rfl
theorem pn10 : ((List.range 48).all fun i => pNam (10 * 48 + i)) = true := by kernel_rfl
theorem pr11 : ((List.range 48).all fun i => pRow (11 * 48 + i)) = true := by kernel_rfl
theorem pn11 : ((List.range 48).all fun i => pNam (11 * 48 + i)) = true := by kernel_rfl
theorem pr12 : ((List.range 48).all fun i => pRow (12 * 48 + i)) = true := by kernel_rfl
theorem pn12 : ((List.range 48).all fun i => pNam (12 * 48 + i)) = true := by kernel_rfl
theorem pr13 : ((List.range 48).all fun i => pRow (13 * 48 + i)) = true := by kernel_rfl
theorem pn13 : ((List.range 48).all fun i => pNam (13 * 48 + i)) = true := by kernel_rfl
theorem pr14 : ((List.range 48).all fun i => pRow (14 * 48 + i)) = true := by kernel_rfl
theorem pn14 : ((List.range 48).all fun i => pNam (14 * 48 + i)) = true := by kernel_rfl
theorem pr15 : ((List.range 48).all fun i => pRow (15 * 48 + i)) = true := by kernel_rfl
theorem pn15 : ((List.range 48).all fun i => pNam (15 * 48 + i)) = true := by kernel_rfl
theorem size_le : Tryz.prog.types.size ≤ 16 * 48 := Nat.le_of_ble_eq_true (by kernel_rfl)
theorem errRows : ((List.range Tryz.prog.types.size).all fun u => Tryz.prog.typeName? 3 u != some ("*" ++ "errors.errorString") || u == 561) = true := by
  rw [star]
  exact all_chunks (p := pRow) 48 (by decide) (fun k hk => match k, hk with | 0, _ => pr0 | 1, _ => pr1 | 2, _ => pr2 | 3, _ => pr3 | 4, _ => pr4 | 5, _ => pr5 | 6, _ => pr6 | 7, _ => pr7 | 8, _ => pr8 | 9, _ => pr9 | 10, _ => pr10 | 11, _ => pr11 | 12, _ => pr12 | 13, _ => pr13 | 14, _ => pr14 | 15, _ => pr15 | n + 16, h => absurd h (by omega)) size_le
theorem errNamed : ((List.range Tryz.prog.types.size).all fun e => Tryz.prog.typeName? 2 e != some "errors.errorString" || (match (Tryz.prog.info? e).map (·.desc) with | some (TypeDesc.named _ _) => true | _ => false)) = true :=
  all_chunks (p := pNam) 48 (by decide) (fun k hk => match k, hk with | 0, _ => pn0 | 1, _ => pn1 | 2, _ => pn2 | 3, _ => pn3 | 4, _ => pn4 | 5, _ => pn5 | 6, _ => pn6 | 7, _ => pn7 | 8, _ => pn8 | 9, _ => pn9 | 10, _ => pn10 | 11, _ => pn11 | 12, _ => pn12 | 13, _ => pn13 | 14, _ => pn14 | 15, _ => pn15 | n + 16, h => absurd h (by omega)) size_le
theorem rowErr (u : TypeId) (h : Tryz.prog.typeName? 3 u = some "*errors.errorString") : u = 561 :=
  typeName_ptr_named (nm := "errors.errorString") errRows errNamed (by decide) u (by rw [star]; exact h)
theorem heap_of_var {W : World} {n : String} {g : Nat} {c : Array Value} (hg : Tryz.prog.globalNamed n = some g) (h : W.var? Tryz.prog n = some c) : ∃ e fz, W.heap[g]? = some (.cells c e fz) := by
  unfold World.var? at h
  rw [hg] at h
  simp only [Option.bind_some] at h
  split at h
  · rename_i cs e fz hB
    cases h
    exact ⟨e, fz, hB⟩
  · cases h
theorem cs563 : Tryz.prog.cellsOf 563 = 1 := by kernel_rfl
theorem cs9 : Tryz.prog.cellsOf 9 = 1 := by kernel_rfl
theorem lt3 : 3 < Tryz.prog.globals.size := of_decide_eq_true (by kernel_rfl)
theorem row3 : ((begin Tryz.prog (fun _ _ => 0) default).world.heap[3]?).bind Obj.row? = some (#[.int .i64 0], 3) := by kernel_rfl
theorem globs {W : World} (h : laidMet Tryz.prog Rows.reportNamesRow.laid W) (hsh : W.ShapedOpen Tryz.prog) : GlobsAre W gs0 := by
  have h : laidMet Tryz.prog [("internal/strconv.uint64pow10", Rows.laid_internal_strconv_uint64pow10), ("math/bits.deBruijn32tab", Rows.laid_math_bits_deBruijn32tab), ("math/bits.deBruijn64tab", Rows.laid_math_bits_deBruijn64tab), ("strconv.ErrSyntax", Rows.laid_strconv_ErrSyntax), ("strconv.ErrRange", Rows.laid_strconv_ErrRange), ("unicode/utf8.first", Rows.laid_unicode_utf8_first), ("unicode/utf8.acceptRanges", Rows.laid_unicode_utf8_acceptRanges), ("braid/digest.constants", Rows.laid_braid_digest_constants), ("braid/quota.rows", Rows.laid_braid_quota_rows)] W := h
  have h3 := h.tail.tail.tail
  have h4 := h3.tail
  have h5 := h4.tail
  obtain ⟨a1, s1, e1, _⟩ := laid_sentinel (g := 1) (ti := 111) (tp := 561) (te := 563) (ts := 9) h3 nm1 ty1 Tryz.underlying111 rowErr Tryz.underlying561 Tryz.underlying563 rfl rfl Tryz.underlying9 cs563 cs9
  obtain ⟨a2, s2, e2, _⟩ := laid_sentinel (g := 2) (ti := 111) (tp := 561) (te := 563) (ts := 9) h4 nm2 ty2 Tryz.underlying111 rowErr Tryz.underlying561 Tryz.underlying563 rfl rfl Tryz.underlying9 cs563 cs9
  obtain ⟨_, l1⟩ := laid_one h5.tail.tail.tail (r := []) (q := []) rfl
  obtain ⟨_, l2⟩ := laid_one h5.tail.tail l1
  obtain ⟨_, l3⟩ := laid_one h5.tail l2
  obtain ⟨_, l4⟩ := laid_one h5 l3
  obtain ⟨_, l5⟩ := laid_one h.tail.tail l4
  obtain ⟨_, l6⟩ := laid_one h.tail l5
  obtain ⟨q, l7⟩ := laid_one h l6
  obtain ⟨f, hf⟩ := vars_ok (D := No) Tb.tys xs0 list 0 gd0 [] q vars0 l7 lay0
  obtain ⟨c3, e3, _⟩ := hsh.1 3 #[.int .i64 0] 3 lt3 row3
  have hd : ∀ π, ∀ g c, lookG gd0 g = some c → ∃ cc elem fz, W.heap[g]? = some (.cells cc elem fz) ∧ VRs π No c cc.toList ∧ ∀ v ∈ c, oneA v = true := fun π => (hf π fun k _ h => absurd h (by simp)).2
  intro g c hg
  unfold gs0 lookG at hg
  by_cases g1 : 1 = g
  · rw [if_pos g1] at hg
    cases hg
    obtain ⟨e, fz, hh⟩ := heap_of_var (g := 1) nm1 e1
    exact ⟨_, e, fz, by rw [← g1]; exact hh, fun π => .cons (.iface 561 (.any _)) .nil, by intro v hv; simp at hv; subst hv; rfl⟩
  · rw [if_neg g1] at hg
    unfold lookG at hg
    by_cases g2 : 2 = g
    · rw [if_pos g2] at hg
      cases hg
      obtain ⟨e, fz, hh⟩ := heap_of_var (g := 2) nm2 e2
      exact ⟨_, e, fz, by rw [← g2]; exact hh, fun π => .cons (.iface 561 (.any _)) .nil, by intro v hv; simp at hv; subst hv; rfl⟩
    · rw [if_neg g2] at hg
      unfold lookG at hg
      by_cases g3 : 3 = g
      · rw [if_pos g3] at hg
        cases hg
        exact ⟨c3, 3, (0, 0), by rw [← g3]; exact e3, fun π => .nil, by intro v hv; cases hv⟩
      · rw [if_neg g3] at hg
        obtain ⟨cc, e, fz, a, b1, b⟩ := hd ⟨fun _ => none, frAll W⟩ g c hg
        refine ⟨cc, e, fz, a, fun π => ?_, b⟩
        obtain ⟨cc', e', fz', a', b', _⟩ := hd π g c hg
        rw [a] at a'
        cases a'
        rw [b'.1, List.take_length]
        exact b'
end Go.Proofs.YtcecnhanifikfaaGreatDoor
