/- A quota, a usage and moves that came in: how they lie. -/
import Derived.Test.YtkadjjicakinbaaDoorWm
import Derived.Test.YtkadjjicakinbaaDoorWd
set_option maxRecDepth 100000
namespace Go.Proofs.YtkadjjicakinbaaDoor
open Go Go.Abs
theorem rows_moves : ∀ rows : List (List Value), (∀ r ∈ rows, Are [.int .u8, .int .i64] r) → ∃ ms : List (Int × Int), rows.flatten = flatM ms ∧ ms.length = rows.length
  | [], _ => ⟨[], rfl, rfl⟩
  | r :: rows, h => by
    obtain ⟨ms, h1, h2⟩ := rows_moves rows fun x hx => h x (by simp [hx])
    obtain ⟨_, t0, rfl, ⟨a, rfl, _⟩, k0⟩ := Are.cons_inv (h r (by simp))
    obtain ⟨_, t1, rfl, ⟨b, rfl, _⟩, k1⟩ := Are.cons_inv k0
    obtain rfl := Are.nil_inv k1
    exact ⟨(a, b) :: ms, by rw [List.flatten_cons, h1]; rfl, by simp [h2]⟩
theorem are5 {cs : List Value} (h : Are [.int .i64, .int .i64, .int .i64, .int .i64, .int .i64] cs) : ∃ u : U5, cs = rowU u := by
  obtain ⟨_, t0_0, rfl, ⟨a, rfl, _⟩, k0_1⟩ := Are.cons_inv h
  obtain ⟨_, t0_1, rfl, ⟨b, rfl, _⟩, k0_2⟩ := Are.cons_inv k0_1
  obtain ⟨_, t0_2, rfl, ⟨c, rfl, _⟩, k0_3⟩ := Are.cons_inv k0_2
  obtain ⟨_, t0_3, rfl, ⟨d, rfl, _⟩, k0_4⟩ := Are.cons_inv k0_3
  obtain ⟨_, t0_4, rfl, ⟨f, rfl, _⟩, k0_5⟩ := Are.cons_inv k0_4
  obtain rfl := Are.nil_inv k0_5
  exact ⟨(a, b, c, d, f), rfl⟩
/-- what a law of a quota, a usage and moves is given -/
def Good3 (args : List Value) (σ : ASt) : Prop := ∃ q u bs len cap, args = [aggU q, aggU u, .slice bs len cap] ∧ Given [⟨0, 0, rowsC⟩] σ ∧ Moves bs len σ
theorem trod_cons {H : Type} {enc : TypeId × Value → H} {w : World} {base : Nat} {held : Bool} {t : TypeId} {ts : List TypeId} {vs' : List Value} {ds : List (DataW H)} {ps : List MemPlace} (h : DataW.TrodAll enc Tryd.prog w base (fun _ => true) held (t :: ts) vs' ds ps) :
    ∃ v vs d ds' fl p q, vs' = v :: vs ∧ ds = d :: ds' ∧ DataW.trod enc Tryd.prog w base (fun _ => true) held fl t v.cells.toList = some (d, p) ∧ DataW.TrodAll enc Tryd.prog w base (fun _ => true) held ts vs ds' q := by
  match vs', ds, h with
  | v :: vs, d :: ds', h =>
    obtain ⟨p, q, ⟨fl, t1⟩, h2, _⟩ := h
    exact ⟨v, vs, d, ds', fl, p, q, rfl, rfl, t1, h2⟩
theorem trod_nil {H : Type} {enc : TypeId × Value → H} {w : World} {base : Nat} {held : Bool} {vs' : List Value} {ds : List (DataW H)} {ps : List MemPlace} (h : DataW.TrodAll enc Tryd.prog w base (fun _ => true) held [] vs' ds ps) : ds = [] := by
  match vs', ds, h with
  | [], [], _ => rfl
theorem lay_one {H : Type} {t : TypeId} {ts : List TypeId} {d : DataW H} {ds : List (DataW H)} {n m : Nat} {c : List Value} {b b' : List (List Value)} {v : Value} {vs : List Value} (h1 : lay Tb.T 8 t d n = some (c, b)) (h2 : valueOf Tb.T t c = some v) (hm : m = n + b.length) (h3 : layArgs Tb.T 8 ts ds m = some (vs, b')) :
    layArgs Tb.T 8 (t :: ts) (d :: ds) n = some (v :: vs, b ++ b') := by
  show andThen2 (lay Tb.T 8 t d n) (fun c b => andThen (valueOf Tb.T t c) fun v => andThen2 (layArgs Tb.T 8 ts ds (n + b.length)) fun vs b' => some (v :: vs, b ++ b')) = _
  subst hm
  rw [h1, andThen2_some, h2, andThen_some, h3, andThen2_some]
theorem args3 {H : Type} {enc : TypeId × Value → H} {w : World} {base : Nat} {held : Bool} {vs' : List Value} {ds : List (DataW H)} {ps : List MemPlace} (h : DataW.TrodAll enc Tryd.prog w base (fun _ => true) held [23, 24, 25] vs' ds ps) :
    ∃ vs bs', layArgs Tb.T 8 [23, 24, 25] ds 1 = some (vs, bs') ∧ Good3 vs (Abs.start gs0 1 ([] ++ bs')) := by
  obtain ⟨v1, _, d1, _, f1, p1, _, rfl, rfl, t1, h⟩ := trod_cons h
  obtain ⟨v2, _, d2, _, f2, p2, _, rfl, rfl, t2, h⟩ := trod_cons h
  obtain ⟨v3, _, d3, _, f3, p3, _, rfl, rfl, t3, h⟩ := trod_cons h
  obtain rfl := trod_nil h
  obtain ⟨c1, l1, a1⟩ := flat_lay Tb.tys 8 23 [.int .i64, .int .i64, .int .i64, .int .i64, .int .i64] d1 _ (by kernel_rfl) ⟨f1, p1, t1⟩ 1
  obtain ⟨c2, l2, a2⟩ := flat_lay Tb.tys 8 24 [.int .i64, .int .i64, .int .i64, .int .i64, .int .i64] d2 _ (by kernel_rfl) ⟨f2, p2, t2⟩ 1
  obtain ⟨q, rfl⟩ := are5 a1
  obtain ⟨u, rfl⟩ := are5 a2
  have g0 : ∀ bs : List (List Value), bs = [] ∨ (∃ c, bs = [c]) → Given [⟨0, 0, rowsC⟩] (Abs.start gs0 1 ([] ++ bs)) := fun bs hb x hx => by
    simp only [List.mem_cons, List.not_mem_nil, or_false] at hx
    subst hx
    rcases hb with rfl | ⟨c, rfl⟩
    · exact ⟨0, true, by kernel_rfl⟩
    · exact ⟨0, true, by kernel_rfl⟩
  have hl : ∀ (v : Value) (bs : List (List Value)), lay Tb.T 8 25 d3 1 = some ([v], bs) → layArgs Tb.T 8 [23, 24, 25] [d1, d2, d3] 1 = some ([aggU q, aggU u, v], bs) := fun v bs h3 => by
    refine lay_one (b := []) (b' := bs) l1 (by kernel_rfl) rfl (lay_one (b := []) (b' := bs) l2 (by kernel_rfl) rfl ?_)
    have := lay_one (b := bs) (b' := []) (ts := []) (ds := ([] : List (DataW H))) (vs := []) h3 (show valueOf Tb.T 25 [v] = some v by kernel_rfl) rfl rfl
    rw [List.append_nil] at this
    exact this
  rcases slice_lay (fuel := 7) (z := 2) (ss := [.int .u8, .int .i64]) (e := 40) (t := 25) (d := d3) Tb.tys (by kernel_rfl) (by kernel_rfl) (by kernel_rfl) (by decide) ⟨f3, p3, t3⟩ 1 with h3 | h3 | ⟨rows, len, cap, h3, hrl, _, _, hr⟩
  · exact ⟨_, _, hl _ _ h3, q, u, _, _, _, rfl, g0 _ (.inl rfl), .inl ⟨rfl, .inl rfl⟩⟩
  · refine ⟨_, _, hl _ _ h3, q, u, _, _, _, rfl, g0 _ (.inl rfl), .inl ⟨rfl, .inr ⟨0, rowsC, rfl, fun x hx => ?_, bareAll_mem (by kernel_rfl)⟩⟩⟩
    simp only [List.mem_cons, List.not_mem_nil, or_false] at hx
    subst hx
    exact ⟨0, true, by kernel_rfl⟩
  · obtain ⟨ms, e1, e2⟩ := rows_moves rows hr
    rw [e1] at h3
    have g1 : Given [⟨1, 1, flatM ms⟩] (Abs.start gs0 1 ([] ++ [flatM ms])) := fun x hx => by
      simp only [List.mem_cons, List.not_mem_nil, or_false] at hx
      subst hx
      exact ⟨1, true, by kernel_rfl⟩
    refine ⟨_, _, hl _ _ h3, q, u, _, _, _, rfl, g0 _ (.inr ⟨_, rfl⟩), ?_⟩
    by_cases h0 : len = 0
    · exact .inl ⟨h0, .inr ⟨1, flatM ms, rfl, g1, flatM_bare ms⟩⟩
    · exact .inr ⟨1, ms, rfl, g1, by omega, by omega⟩
end Go.Proofs.YtkadjjicakinbaaDoor
