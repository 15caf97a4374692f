/- The reference's Run: the same loop, the same contract. -/
import Derived.Test.YtkadjjicakinbaaDoorRu
import Derived.Test.YtkadjjicakinbaaDoorSm
set_option maxRecDepth 100000
namespace Go.Proofs.YtkadjjicakinbaaDoor
open Go Go.Abs
namespace Ref
noncomputable def call : CallF := callL [(14, s13), (16, s15)]
theorem call_ok : CallSim Tryd.prog Tb.glob call ∧ MonoF call := callL_ok fun p hp => by
  simp only [List.mem_cons, List.not_mem_nil, or_false] at hp
  rcases hp with rfl | rfl
  · exact sim14.mono fun g hg => by cases hg
  · exact sim16
noncomputable def code : Code := codeOf Tryd.f10
noncomputable def hint : Hint := ⟨[(90004, 1), (90005, 4), (120003, 5)], []⟩
noncomputable def sb : List Nat := [0, 1]
noncomputable def so (cc : List Value) : List AObj := [tabRo 0 rowsC, .cells cc none 1 true false]
noncomputable def Lt (N : Nat) := loopT Tryd.prog Tb.glob (fun k => memN k [0, 1]) N
noncomputable def inner : Code := subC [1, 1, 1, 1, 0, 1, 0, 0] code
theorem inner_ok : codeOk Tb.glob Tryd.f10.ntmps inner = true := by kernel_rfl
noncomputable def sl : List Nat := [2, 3, 4, 6, 9, 10]
noncomputable def outV : Nat → Value
  | 0 => .slice none 0 0
  | n + 1 => .slice (some ⟨5, 0, some 1⟩) (n + 1) (n + 1)
noncomputable def vs (len cap x : Nat) : List Value := [.slice (some ⟨1, 0, none⟩) len cap, .pointer (some ⟨2, 0, none⟩), .pointer (some ⟨3, 0, none⟩), .pointer (some ⟨4, 0, none⟩), outV x, .int .i64 (Int.ofNat x)]
noncomputable def outO (es : List Int) : Nat → List AObj
  | 0 => []
  | _ + 1 => [.cells (es.map (.int .i64)) (some 1) 5 false false]
noncomputable def os (q u : U5) (ms : List (Int × Int)) (x : Nat) : List AObj :=
  .cells (rowU q) none 2 false false :: .cells (rowU (usQ q u (ms.take x))) none 3 false false :: .cells (rowU (0, 0, 0, 0, 0)) none 4 false false :: outO (esQ q u (ms.take x)) x
def kb : Nat → List Nat
  | 0 => [0, 1, 2, 3, 4]
  | _ + 1 => [0, 1, 2, 3, 4, 5]
def Iv (len x : Nat) : Prop := x ≤ len
def mu (len x : Nat) : Nat := len - x
variable {q u : U5} {ms : List (Int × Int)} {len cap : Nat} {cc : List Value}

/-- behind a round -/
theorem next (hcc : ∀ v ∈ cc, Abs.bare v = true) (hl : ms.length = len) (hlen : len ≤ 120) {x : Nat} (hx : x < len) {m : Int × Int} (hm : ms[x]? = some m) {u' : U5} (hu : u' = stQ q (usQ q u (ms.take x)) m) {es : List Value} (hes : es = (esQ q u (ms.take x)).map (.int .i64) ++ [.int .i64 (erQ q (usQ q u (ms.take x)) m)])
    {σ : ASt} (h0 : σ.obj 0 = some (tabRo 0 rowsC)) (h1 : σ.obj 1 = some (.cells cc none 1 true false)) (h2 : σ.obj 2 = some (.cells (rowU q) none 2 false false)) (h3 : σ.obj 3 = some (.cells (rowU u') none 3 false false)) (h4 : σ.obj 4 = some (.cells (rowU (0, 0, 0, 0, 0)) none 4 false false))
    {org : Nat} (h9 : σ.obj 8 = some (.cells es (some 1) org false false)) {xs : List Value} (hxs : xs = [.slice (some ⟨1, 0, none⟩) len cap, .pointer (some ⟨2, 0, none⟩), .pointer (some ⟨3, 0, none⟩), .pointer (some ⟨4, 0, none⟩), .slice (some ⟨8, 0, some 1⟩) (x + 1) (x + 1), .int .i64 (Int.ofNat (x + 1))]) :
    CutC sb kb 6 (so cc) (Iv len) (mu len) (vs len cap) (os q u ms) (mu len x) xs σ := by
  have ht : ms.take (x + 1) = ms.take x ++ [m] := by rw [List.take_add_one, hm]; rfl
  refine ⟨x + 1, [0, 1, 2, 3, 4, 8], by unfold mu; omega, by unfold Iv; omega, by kernel_rfl, ?_⟩
  have hob : obsL σ.obj [0, 1, 2, 3, 4, 8] = some [tabRo 0 rowsC, .cells cc none 1 true false, .cells (rowU q) none 2 false false, .cells (rowU u') none 3 false false, .cells (rowU (0, 0, 0, 0, 0)) none 4 false false, .cells es (some 1) org false false] := by
    show andThen (σ.obj 0) (fun a => andThen (andThen (σ.obj 1) fun a => andThen (andThen (σ.obj 2) fun a => andThen (andThen (σ.obj 3) fun a => andThen (andThen (σ.obj 4) fun a => andThen (andThen (σ.obj 8) fun a => andThen (some []) fun r => some (a :: r)) fun r => some (a :: r)) fun r => some (a :: r)) fun r => some (a :: r)) fun r => some (a :: r)) fun r => some (a :: r)) = _
    rw [h0, h1, h2, h3, h4, h9]
    rfl
  rw [hob]
  have hU : usQ q u (ms.take (x + 1)) = u' := by rw [ht, usQ_snoc, hu]
  have hE : (esQ q u (ms.take (x + 1))).map (Value.int .i64) = es := by rw [ht, esQ_snoc, List.map_append, hes]; rfl
  have hos : so cc ++ os q u ms (x + 1) = [tabRo 0 rowsC, .cells cc none 1 true false, .cells (rowU q) none 2 false false, .cells (rowU u') none 3 false false, .cells (rowU (0, 0, 0, 0, 0)) none 4 false false, .cells es (some 1) 5 false false] := by
    show [_, _, _, _, _, _] = _
    rw [hU, hE]
  have hbe : ∀ v ∈ es, Abs.bare v = true := by rw [← hE]; exact bare_ints _
  refine ⟨?_, ?_, rfl⟩
  · rw [hxs]
    exact .cons (.sl _ _ (by kernel_rfl) (Nat.zero_add 0).symm) (.cons (.ptr (by kernel_rfl) (Nat.zero_add 0).symm) (.cons (.ptr (by kernel_rfl) (Nat.zero_add 0).symm) (.cons (.ptr (by kernel_rfl) (Nat.zero_add 0).symm) (.cons (.sl _ _ (by kernel_rfl) (Nat.zero_add 0).symm) (.cons (.int _ _) .nil)))))
  · have : ObjAs (renL [0, 1, 2, 3, 4, 5] [0, 1, 2, 3, 4, 8]) [0, 1, 2, 3, 4, 5] (so cc ++ os q u ms (x + 1)) [tabRo 0 rowsC, .cells cc none 1 true false, .cells (rowU q) none 2 false false, .cells (rowU u') none 3 false false, .cells (rowU (0, 0, 0, 0, 0)) none 4 false false, .cells es (some 1) org false false] := by
      rw [hos]
      exact ⟨objA_lit (by kernel_rfl), objA_bare hcc, objA_lit (by rfl), objA_lit (by rfl), objA_lit (by kernel_rfl), objA_bare hbe, trivial⟩
    exact this

/-- how a run ends, under the function's own numbers -/
def Ends (q u : U5) (ms : List (Int × Int)) (len : Nat) (v : Value) (σ : ASt) : Prop :=
  v = .tuple ⟨[aggU (usQ q u ms), outV len, .int .i64 0]⟩ ∧ (len = 0 ∨ σ.obj 5 = some (.cells ((esQ q u ms).map (.int .i64)) (some 1) 5 false false))
noncomputable def Kend (q u : U5) (ms : List (Int × Int)) (len : Nat) := vcEnd Tb.T Tryd.f10 (Ends q u ms len)
noncomputable def K0 (q u : U5) (ms : List (Int × Int)) (len N : Nat) := vcCtx (Lt N) Tb.T call hint [1, 1, 1, 1, 0, 1, 0] code (Kend q u ms len)
theorem take_get {x : Nat} (hx : x < ms.length) : ∃ m, ms[x]? = some m := ⟨_, List.getElem?_eq_getElem hx⟩
theorem inRange_lt {x len : Nat} (h : x < len) : inRange (Int.ofNat x) len = some x := by
  show Abs.iff (Nat.blt x len) (some x) none = _
  rw [(blt_iff x len).2 h]; rfl

theorem body0 (hcc : ∀ v ∈ cc, Abs.bare v = true) (hM : MovesAt cc ms) (hl : ms.length = len) (hlen : len ≤ 120) (N : Nat) :
    ∃ t, vcC (Lt N) Tb.T call hint inner t (cutE sl (vs len cap 0)) (cutS (kb 0) (so cc ++ os q u ms 0) 6) (cutQ sl (CutC sb kb 6 (so cc) (Iv len) (mu len) (vs len cap) (os q u ms) (mu len 0)) (K0 q u ms len N)) := by
  obtain ⟨a, b, c, d, f⟩ := q
  obtain ⟨g, i, j, k, l⟩ := u
  refine ⟨(.split (.split .done .done) .done), of_eq (b := (fun (R : Value → ASt → Prop) (C : List Value → ASt → Prop) => ((!leQ (Int.ofNat len) (Int.ofNat 0)) = true → ∃ (j0 : Nat), inRange (Int.ofNat 0) len = some j0 ∧ ∃ (x1 : Int), ∃ (x2 : Int), Abs.part Tb.T 40 cc (Nat.add 0 (Nat.mul j0 2)) = some (Value.agg (Array.mk [Value.int IntKind.u8 x1, Value.int IntKind.i64 x2])) ∧ (eqQ (r15_5 a b c d f g i j k l x1 x2) (Int.ofNat 0) = true → C [Value.slice (some (Addr.mk 1 0 none)) len cap, Value.pointer (some (Addr.mk 2 0 none)), Value.pointer (some (Addr.mk 3 0 none)), Value.pointer (some (Addr.mk 4 0 none)), Value.slice (some (Addr.mk 8 0 (some 1))) 1 1, Value.int IntKind.i64 (Int.ofNat 1)] (ASt.mk (Tr.node (Tr.node (Tr.node (Tr.node Tr.leaf (some (AObj.cells [Value.int IntKind.i64 (r15_5 a b c d f g i j k l x1 x2)] none 7 false false)) Tr.leaf) (some (AObj.cells [Value.int IntKind.i64 (r15_0 a b c d f g i j k l x1 x2), Value.int IntKind.i64 (r15_1 a b c d f g i j k l x1 x2), Value.int IntKind.i64 (r15_2 a b c d f g i j k l x1 x2), Value.int IntKind.i64 (r15_3 a b c d f g i j k l x1 x2), Value.int IntKind.i64 (r15_4 a b c d f g i j k l x1 x2)] none 3 false false)) Tr.leaf) (some (AObj.cells cc none 1 true false)) Tr.leaf) (some (AObj.cells rowsC none 0 true false)) (Tr.node (Tr.node (Tr.node Tr.leaf (some (AObj.cells (appQ [] [Value.int IntKind.i64 (r15_5 a b c d f g i j k l x1 x2)]) (some 1) 8 false false)) Tr.leaf) (some (AObj.cells [Value.int IntKind.i64 (Int.ofNat 0), Value.int IntKind.i64 (Int.ofNat 0), Value.int IntKind.i64 (Int.ofNat 0), Value.int IntKind.i64 (Int.ofNat 0), Value.int IntKind.i64 (Int.ofNat 0)] none 4 false false)) Tr.leaf) (some (AObj.cells [Value.int IntKind.i64 a, Value.int IntKind.i64 b, Value.int IntKind.i64 c, Value.int IntKind.i64 d, Value.int IntKind.i64 f] none 2 false false)) (Tr.node Tr.leaf (some (AObj.cells [Value.int IntKind.i64 (r15_0 a b c d f g i j k l x1 x2), Value.int IntKind.i64 (r15_1 a b c d f g i j k l x1 x2), Value.int IntKind.i64 (r15_2 a b c d f g i j k l x1 x2), Value.int IntKind.i64 (r15_3 a b c d f g i j k l x1 x2), Value.int IntKind.i64 (r15_4 a b c d f g i j k l x1 x2)] none 6 false false)) Tr.leaf))) 9 9 9)) ∧ (eqQ (r15_5 a b c d f g i j k l x1 x2) (Int.ofNat 0) = false → C [Value.slice (some (Addr.mk 1 0 none)) len cap, Value.pointer (some (Addr.mk 2 0 none)), Value.pointer (some (Addr.mk 3 0 none)), Value.pointer (some (Addr.mk 4 0 none)), Value.slice (some (Addr.mk 8 0 (some 1))) 1 1, Value.int IntKind.i64 (Int.ofNat 1)] (ASt.mk (Tr.node (Tr.node (Tr.node (Tr.node Tr.leaf (some (AObj.cells [Value.int IntKind.i64 (r15_5 a b c d f g i j k l x1 x2)] none 7 false false)) Tr.leaf) (some (AObj.cells [Value.int IntKind.i64 g, Value.int IntKind.i64 i, Value.int IntKind.i64 j, Value.int IntKind.i64 k, Value.int IntKind.i64 l] none 3 false false)) Tr.leaf) (some (AObj.cells cc none 1 true false)) Tr.leaf) (some (AObj.cells rowsC none 0 true false)) (Tr.node (Tr.node (Tr.node Tr.leaf (some (AObj.cells (appQ [] [Value.int IntKind.i64 (r15_5 a b c d f g i j k l x1 x2)]) (some 1) 8 false false)) Tr.leaf) (some (AObj.cells [Value.int IntKind.i64 (Int.ofNat 0), Value.int IntKind.i64 (Int.ofNat 0), Value.int IntKind.i64 (Int.ofNat 0), Value.int IntKind.i64 (Int.ofNat 0), Value.int IntKind.i64 (Int.ofNat 0)] none 4 false false)) Tr.leaf) (some (AObj.cells [Value.int IntKind.i64 a, Value.int IntKind.i64 b, Value.int IntKind.i64 c, Value.int IntKind.i64 d, Value.int IntKind.i64 f] none 2 false false)) (Tr.node Tr.leaf (some (AObj.cells [Value.int IntKind.i64 (r15_0 a b c d f g i j k l x1 x2), Value.int IntKind.i64 (r15_1 a b c d f g i j k l x1 x2), Value.int IntKind.i64 (r15_2 a b c d f g i j k l x1 x2), Value.int IntKind.i64 (r15_3 a b c d f g i j k l x1 x2), Value.int IntKind.i64 (r15_4 a b c d f g i j k l x1 x2)] none 6 false false)) Tr.leaf))) 9 9 9))) ∧ ((!leQ (Int.ofNat len) (Int.ofNat 0)) = false → R (Value.tuple (Array.mk [Value.agg (Array.mk [Value.int IntKind.i64 g, Value.int IntKind.i64 i, Value.int IntKind.i64 j, Value.int IntKind.i64 k, Value.int IntKind.i64 l]), Value.slice none 0 0, Value.int IntKind.i64 (Int.ofNat 0)])) (ASt.mk (Tr.node (Tr.node (Tr.node Tr.leaf (some (AObj.cells [Value.int IntKind.i64 g, Value.int IntKind.i64 i, Value.int IntKind.i64 j, Value.int IntKind.i64 k, Value.int IntKind.i64 l] none 3 false false)) Tr.leaf) (some (AObj.cells cc none 1 true false)) Tr.leaf) (some (AObj.cells rowsC none 0 true false)) (Tr.node (Tr.node Tr.leaf (some (AObj.cells [Value.int IntKind.i64 g, Value.int IntKind.i64 i, Value.int IntKind.i64 j, Value.int IntKind.i64 k, Value.int IntKind.i64 l] none 4 false false)) Tr.leaf) (some (AObj.cells [Value.int IntKind.i64 a, Value.int IntKind.i64 b, Value.int IntKind.i64 c, Value.int IntKind.i64 d, Value.int IntKind.i64 f] none 2 false false)) Tr.leaf)) 6 6 6))) (Ends (a, b, c, d, f) (g, i, j, k, l) ms len) (CutC sb kb 6 (so cc) (Iv len) (mu len) (vs len cap) (os (a, b, c, d, f) (g, i, j, k, l) ms) (mu len 0))) (by kernel_rfl) ?_⟩
  dsimp only
  refine ⟨fun hlt => ?_, fun hge => ?_⟩
  · have hx : 0 < len := by
      rw [leQ_eq] at hlt
      have : ¬ (Int.ofNat len ≤ Int.ofNat 0) := by simpa using hlt
      have : ¬ ((len : Int) ≤ 0) := this
      omega
    obtain ⟨m, hm⟩ := take_get (ms := ms) (x := 0) (by omega)
    refine ⟨0, inRange_lt hx, m.1, m.2, hM 0 m hm, fun he => ?_, fun he => ?_⟩
    · refine next hcc hl hlen hx hm (u' := nxQ (a, b, c, d, f) (g, i, j, k, l) m) ?_ (es := [.int .i64 (erQ (a, b, c, d, f) (g, i, j, k, l) m)]) rfl rfl rfl rfl rfl rfl rfl rfl
      show nxQ (a, b, c, d, f) (g, i, j, k, l) m = stQ (a, b, c, d, f) (g, i, j, k, l) m
      rw [eqQ_eq, beq_iff_eq] at he
      unfold stQ
      rw [if_pos (show erQ (a, b, c, d, f) (g, i, j, k, l) m = 0 from he)]
    · refine next hcc hl hlen hx hm (u' := (g, i, j, k, l)) ?_ (es := [.int .i64 (erQ (a, b, c, d, f) (g, i, j, k, l) m)]) rfl rfl rfl rfl rfl rfl rfl rfl
      show (g, i, j, k, l) = stQ (a, b, c, d, f) (g, i, j, k, l) m
      rw [eqQ_eq] at he
      unfold stQ
      rw [if_neg (show ¬ erQ (a, b, c, d, f) (g, i, j, k, l) m = 0 from fun h => by rw [show r15_5 a b c d f g i j k l m.1 m.2 = 0 from h] at he; exact absurd he (by decide))]
  · have hx : len = 0 := by
      rw [leQ_eq] at hge
      have : Int.ofNat len ≤ Int.ofNat 0 := by simpa using hge
      have : (len : Int) ≤ 0 := this
      omega
    subst hx
    have : ms = [] := List.length_eq_zero_iff.1 hl
    subst this
    exact ⟨rfl, .inl rfl⟩

theorem body1 (hcc : ∀ v ∈ cc, Abs.bare v = true) (hM : MovesAt cc ms) (hl : ms.length = len) (hlen : len ≤ 120) (N n : Nat) (hn : n + 1 ≤ len) :
    ∃ t, vcC (Lt N) Tb.T call hint inner t (cutE sl (vs len cap (n + 1))) (cutS (kb (n + 1)) (so cc ++ os q u ms (n + 1)) 6) (cutQ sl (CutC sb kb 6 (so cc) (Iv len) (mu len) (vs len cap) (os q u ms) (mu len (n + 1))) (K0 q u ms len N)) := by
  generalize hw : usQ q u (ms.take (n + 1)) = w
  have hes := esQ_length q u (ms.take (n + 1))
  rw [List.length_take, hl, Nat.min_eq_left hn] at hes
  have hnext := next (cap := cap) (q := q) (u := u) hcc hl hlen (x := n + 1)
  rw [hw] at hnext
  have hos : os q u ms (n + 1) = [.cells (rowU q) none 2 false false, .cells (rowU w) none 3 false false, .cells (rowU (0, 0, 0, 0, 0)) none 4 false false, .cells ((esQ q u (ms.take (n + 1))).map (.int .i64)) (some 1) 5 false false] := by
    unfold os
    rw [hw]
    rfl
  rw [hos]
  have hend : n + 1 = len → w = usQ q u ms ∧ esQ q u (ms.take (n + 1)) = esQ q u ms := fun h => by
    have : ms.take (n + 1) = ms := List.take_of_length_le (by omega)
    rw [this] at hw
    exact ⟨hw.symm, by rw [this]⟩
  generalize hE : esQ q u (ms.take (n + 1)) = E at *
  obtain ⟨a, b, c, d, f⟩ := q
  obtain ⟨g, i, j, k, l⟩ := w
  refine ⟨(.split (.split .done .done) .done), of_eq (b := (fun (R : Value → ASt → Prop) (C : List Value → ASt → Prop) (x : Nat) (es : List Value) => ((!leQ (Int.ofNat len) (Int.ofNat x)) = true → ∃ (j0 : Nat), inRange (Int.ofNat x) len = some j0 ∧ ∃ (x1 : Int), ∃ (x2 : Int), Abs.part Tb.T 40 cc (Nat.add 0 (Nat.mul j0 2)) = some (Value.agg (Array.mk [Value.int IntKind.u8 x1, Value.int IntKind.i64 x2])) ∧ (eqQ (r15_5 a b c d f g i j k l x1 x2) (Int.ofNat 0) = true → Nat.ble (Nat.add x 1) x = false ∧ Nat.ble (Nat.mul (Nat.add x 1) 9) 1000000000 = true ∧ true = true ∧ true = true ∧ true = true ∧ true = true ∧ true = true ∧ lenQ es = Nat.mul x 1 ∧ C [Value.slice (some (Addr.mk 1 0 none)) len cap, Value.pointer (some (Addr.mk 2 0 none)), Value.pointer (some (Addr.mk 3 0 none)), Value.pointer (some (Addr.mk 4 0 none)), Value.slice (some (Addr.mk 8 0 (some 1))) (Nat.add x 1) (Nat.add x 1), Value.int IntKind.i64 (wrapQ IntKind.i64 (Int.add (Int.ofNat x) (Int.ofNat 1)))] (ASt.mk (Tr.node (Tr.node (Tr.node (Tr.node Tr.leaf (some (AObj.cells [Value.int IntKind.i64 (r15_5 a b c d f g i j k l x1 x2)] none 7 false false)) Tr.leaf) (some (AObj.cells [Value.int IntKind.i64 (r15_0 a b c d f g i j k l x1 x2), Value.int IntKind.i64 (r15_1 a b c d f g i j k l x1 x2), Value.int IntKind.i64 (r15_2 a b c d f g i j k l x1 x2), Value.int IntKind.i64 (r15_3 a b c d f g i j k l x1 x2), Value.int IntKind.i64 (r15_4 a b c d f g i j k l x1 x2)] none 3 false false)) Tr.leaf) (some (AObj.cells cc none 1 true false)) (Tr.node Tr.leaf (some (AObj.cells es (some 1) 5 false true)) Tr.leaf)) (some (AObj.cells rowsC none 0 true false)) (Tr.node (Tr.node (Tr.node Tr.leaf (some (AObj.cells (appQ es [Value.int IntKind.i64 (r15_5 a b c d f g i j k l x1 x2)]) (some 1) 5 false false)) Tr.leaf) (some (AObj.cells [Value.int IntKind.i64 (Int.ofNat 0), Value.int IntKind.i64 (Int.ofNat 0), Value.int IntKind.i64 (Int.ofNat 0), Value.int IntKind.i64 (Int.ofNat 0), Value.int IntKind.i64 (Int.ofNat 0)] none 4 false false)) Tr.leaf) (some (AObj.cells [Value.int IntKind.i64 a, Value.int IntKind.i64 b, Value.int IntKind.i64 c, Value.int IntKind.i64 d, Value.int IntKind.i64 f] none 2 false false)) (Tr.node Tr.leaf (some (AObj.cells [Value.int IntKind.i64 (r15_0 a b c d f g i j k l x1 x2), Value.int IntKind.i64 (r15_1 a b c d f g i j k l x1 x2), Value.int IntKind.i64 (r15_2 a b c d f g i j k l x1 x2), Value.int IntKind.i64 (r15_3 a b c d f g i j k l x1 x2), Value.int IntKind.i64 (r15_4 a b c d f g i j k l x1 x2)] none 6 false false)) Tr.leaf))) 9 9 9)) ∧ (eqQ (r15_5 a b c d f g i j k l x1 x2) (Int.ofNat 0) = false → Nat.ble (Nat.add x 1) x = false ∧ Nat.ble (Nat.mul (Nat.add x 1) 9) 1000000000 = true ∧ true = true ∧ true = true ∧ true = true ∧ true = true ∧ true = true ∧ lenQ es = Nat.mul x 1 ∧ C [Value.slice (some (Addr.mk 1 0 none)) len cap, Value.pointer (some (Addr.mk 2 0 none)), Value.pointer (some (Addr.mk 3 0 none)), Value.pointer (some (Addr.mk 4 0 none)), Value.slice (some (Addr.mk 8 0 (some 1))) (Nat.add x 1) (Nat.add x 1), Value.int IntKind.i64 (wrapQ IntKind.i64 (Int.add (Int.ofNat x) (Int.ofNat 1)))] (ASt.mk (Tr.node (Tr.node (Tr.node (Tr.node Tr.leaf (some (AObj.cells [Value.int IntKind.i64 (r15_5 a b c d f g i j k l x1 x2)] none 7 false false)) Tr.leaf) (some (AObj.cells [Value.int IntKind.i64 g, Value.int IntKind.i64 i, Value.int IntKind.i64 j, Value.int IntKind.i64 k, Value.int IntKind.i64 l] none 3 false false)) Tr.leaf) (some (AObj.cells cc none 1 true false)) (Tr.node Tr.leaf (some (AObj.cells es (some 1) 5 false true)) Tr.leaf)) (some (AObj.cells rowsC none 0 true false)) (Tr.node (Tr.node (Tr.node Tr.leaf (some (AObj.cells (appQ es [Value.int IntKind.i64 (r15_5 a b c d f g i j k l x1 x2)]) (some 1) 5 false false)) Tr.leaf) (some (AObj.cells [Value.int IntKind.i64 (Int.ofNat 0), Value.int IntKind.i64 (Int.ofNat 0), Value.int IntKind.i64 (Int.ofNat 0), Value.int IntKind.i64 (Int.ofNat 0), Value.int IntKind.i64 (Int.ofNat 0)] none 4 false false)) Tr.leaf) (some (AObj.cells [Value.int IntKind.i64 a, Value.int IntKind.i64 b, Value.int IntKind.i64 c, Value.int IntKind.i64 d, Value.int IntKind.i64 f] none 2 false false)) (Tr.node Tr.leaf (some (AObj.cells [Value.int IntKind.i64 (r15_0 a b c d f g i j k l x1 x2), Value.int IntKind.i64 (r15_1 a b c d f g i j k l x1 x2), Value.int IntKind.i64 (r15_2 a b c d f g i j k l x1 x2), Value.int IntKind.i64 (r15_3 a b c d f g i j k l x1 x2), Value.int IntKind.i64 (r15_4 a b c d f g i j k l x1 x2)] none 6 false false)) Tr.leaf))) 9 9 9))) ∧ ((!leQ (Int.ofNat len) (Int.ofNat x)) = false → R (Value.tuple (Array.mk [Value.agg (Array.mk [Value.int IntKind.i64 g, Value.int IntKind.i64 i, Value.int IntKind.i64 j, Value.int IntKind.i64 k, Value.int IntKind.i64 l]), Value.slice (some (Addr.mk 5 0 (some 1))) x x, Value.int IntKind.i64 (Int.ofNat 0)])) (ASt.mk (Tr.node (Tr.node (Tr.node Tr.leaf (some (AObj.cells [Value.int IntKind.i64 g, Value.int IntKind.i64 i, Value.int IntKind.i64 j, Value.int IntKind.i64 k, Value.int IntKind.i64 l] none 3 false false)) Tr.leaf) (some (AObj.cells cc none 1 true false)) (Tr.node Tr.leaf (some (AObj.cells es (some 1) 5 false false)) Tr.leaf)) (some (AObj.cells rowsC none 0 true false)) (Tr.node (Tr.node Tr.leaf (some (AObj.cells [Value.int IntKind.i64 g, Value.int IntKind.i64 i, Value.int IntKind.i64 j, Value.int IntKind.i64 k, Value.int IntKind.i64 l] none 4 false false)) Tr.leaf) (some (AObj.cells [Value.int IntKind.i64 a, Value.int IntKind.i64 b, Value.int IntKind.i64 c, Value.int IntKind.i64 d, Value.int IntKind.i64 f] none 2 false false)) Tr.leaf)) 6 6 6))) (Ends (a, b, c, d, f) u ms len) (CutC sb kb 6 (so cc) (Iv len) (mu len) (vs len cap) (os (a, b, c, d, f) u ms) (mu len (n + 1))) (n + 1) (E.map (.int .i64))) (by kernel_rfl) ?_⟩
  dsimp only
  refine ⟨fun hlt => ?_, fun hge => ?_⟩
  · have hx : n + 1 < len := by
      rw [leQ_eq] at hlt
      have : ¬ (Int.ofNat len ≤ Int.ofNat (n + 1)) := by simpa using hlt
      have : ¬ ((len : Int) ≤ ((n + 1 : Nat) : Int)) := this
      omega
    obtain ⟨m, hm⟩ := take_get (ms := ms) (x := n + 1) (by omega)
    have hb1 : Nat.ble (Nat.add (n + 1) 1) (n + 1) = false := by
      rw [Bool.eq_false_iff]
      intro h
      have := (ble_iff _ _).1 h
      exact absurd this (Nat.not_succ_le_self _)
    have hb2 : Nat.ble (Nat.mul (Nat.add (n + 1) 1) 9) 1000000000 = true := (ble_iff _ _).2 (by show (n + 1 + 1) * 9 ≤ 1000000000; omega)
    have hb3 : lenQ (E.map (Value.int .i64)) = Nat.mul (n + 1) 1 := by rw [lenQ_eq, List.length_map, hes]; exact (Nat.mul_one (n + 1)).symm
    have hwr : wrapQ IntKind.i64 (Int.add (Int.ofNat (n + 1)) (Int.ofNat 1)) = Int.ofNat (n + 1 + 1) := by
      have e : Int.add (Int.ofNat (n + 1)) (Int.ofNat 1) = ((n + 1 + 1 : Nat) : Int) := rfl
      rw [e]
      exact wrapQ64 (by omega) (by omega)
    refine ⟨n + 1, inRange_lt hx, m.1, m.2, hM _ m hm, fun he => ⟨hb1, hb2, rfl, rfl, rfl, rfl, rfl, hb3, ?_⟩, fun he => ⟨hb1, hb2, rfl, rfl, rfl, rfl, rfl, hb3, ?_⟩⟩
    · rw [hwr, appQ_eq]
      refine hnext hx hm (u' := nxQ (a, b, c, d, f) (g, i, j, k, l) m) ?_ (es := E.map (.int .i64) ++ [.int .i64 (erQ (a, b, c, d, f) (g, i, j, k, l) m)]) rfl rfl rfl rfl rfl rfl rfl rfl
      show nxQ (a, b, c, d, f) (g, i, j, k, l) m = stQ (a, b, c, d, f) (g, i, j, k, l) m
      rw [eqQ_eq, beq_iff_eq] at he
      unfold stQ
      rw [if_pos (show erQ (a, b, c, d, f) (g, i, j, k, l) m = 0 from he)]
    · rw [hwr, appQ_eq]
      refine hnext hx hm (u' := (g, i, j, k, l)) ?_ (es := E.map (.int .i64) ++ [.int .i64 (erQ (a, b, c, d, f) (g, i, j, k, l) m)]) rfl rfl rfl rfl rfl rfl rfl rfl
      show (g, i, j, k, l) = stQ (a, b, c, d, f) (g, i, j, k, l) m
      rw [eqQ_eq] at he
      unfold stQ
      rw [if_neg (show ¬ erQ (a, b, c, d, f) (g, i, j, k, l) m = 0 from fun h => by rw [show r15_5 a b c d f g i j k l m.1 m.2 = 0 from h] at he; exact absurd he (by decide))]
  · have hx : n + 1 = len := by
      rw [leQ_eq] at hge
      have : Int.ofNat len ≤ Int.ofNat (n + 1) := by simpa using hge
      have : (len : Int) ≤ ((n + 1 : Nat) : Int) := this
      omega
    obtain ⟨e1, e2⟩ := hend hx
    subst hx
    refine ⟨?_, .inr ?_⟩
    · rw [← e1]; rfl
    · rw [← e2]; rfl

theorem walk (hcc : ∀ v ∈ cc, Abs.bare v = true) (hM : MovesAt cc ms) (hl : ms.length = len) (hlen : len ≤ 120) (hQ : Qv q.1 q.2.1 q.2.2.1 q.2.2.2.1 q.2.2.2.2) (hU : Uv q.1 q.2.1 q.2.2.1 q.2.2.2.1 q.2.2.2.2 u.1 u.2.1 u.2.2.1 u.2.2.2.1 u.2.2.2.2) (at_ N : Nat) (hN : Tryd.f10.ntmps ≤ N) :
    ∃ t, vcC (Lt N) Tb.T call hint code t (initEnv [aggU q, aggU u, .slice (some ⟨1, 0, none⟩) len cap] 0 .leaf) (ownS [⟨0, 0, rowsC⟩, ⟨1, at_, cc⟩] 2) (Kend q u ms len) := by
  have hbody : ∀ x, Iv len x → ∃ t, vcC (Lt N) Tb.T call hint inner t (cutE sl (vs len cap x)) (cutS (kb x) (so cc ++ os q u ms x) 6) (cutQ sl (CutC sb kb 6 (so cc) (Iv len) (mu len) (vs len cap) (os q u ms) (mu len x)) (K0 q u ms len N)) := fun x hx => by
    cases x with
    | zero => exact body0 hcc hM hl hlen N
    | succ n => exact body1 hcc hM hl hlen N n hx
  have h13 : r13_0 q.1 q.2.1 q.2.2.1 q.2.2.2.1 q.2.2.2.2 u.1 u.2.1 u.2.2.1 u.2.2.2.1 u.2.2.2.2 = 0 := by rw [val13, if_pos ⟨hQ, hU⟩]
  have hloop := fun (e : Env) (σ : ASt) => loop_rule (e := e) (σ := σ) (X := Nat) mix Tb.tys call_ok.1 call_ok.2 guarded_none (codeOk_mono hN _ inner_ok) sb kb sl 6 (so cc) (Iv len) (mu len) (vs len cap) (os q u ms)
    (fun g h => by
      have : g < 1 := (blt_iff _ _).1 h
      have : g = 0 := by omega
      subst this; exact (show memN 0 sb = true by kernel_rfl)) rfl hbody 0 [0, 1, 2, 3, 4] (Nat.zero_le _) (by kernel_rfl)
  have hfit : Fits sb (kb 0) [0, 1, 2, 3, 4] (so cc) (vs len cap 0) (os q u ms 0) (vs len cap 0) (so cc ++ os q u ms 0) :=
    ⟨goodAll_ok (by kernel_rfl) (by kernel_rfl), (show ObjAs (renL [0, 1, 2, 3, 4] [0, 1, 2, 3, 4]) [0, 1, 2, 3, 4] [_, _, _, _, _] [_, _, _, _, _] from ⟨objA_lit (by kernel_rfl), objA_bare hcc, objA_lit (by rfl), objA_lit (by rfl), objA_lit (by kernel_rfl), trivial⟩), rfl⟩
  have hus : usQ q u (ms.take 0) = u := rfl
  obtain ⟨a, b, c, d, f⟩ := q
  obtain ⟨g, i, j, k, l⟩ := u
  refine ⟨(.split .done (.split .done .done)), of_eq (b := (fun (R : Value → ASt → Prop) (Lp : Nat → Env → ASt → Prop) => ((!eqQ (r13_0 a b c d f g i j k l) (Int.ofNat 0)) = true → R (Value.tuple (Array.mk [Value.agg (Array.mk [Value.int IntKind.i64 (Int.ofNat 0), Value.int IntKind.i64 (Int.ofNat 0), Value.int IntKind.i64 (Int.ofNat 0), Value.int IntKind.i64 (Int.ofNat 0), Value.int IntKind.i64 (Int.ofNat 0)]), Value.slice none 0 0, Value.int IntKind.i64 (r13_0 a b c d f g i j k l)])) (ASt.mk (Tr.node (Tr.node (Tr.node Tr.leaf (some (AObj.cells [Value.int IntKind.i64 g, Value.int IntKind.i64 i, Value.int IntKind.i64 j, Value.int IntKind.i64 k, Value.int IntKind.i64 l] none 3 false false)) Tr.leaf) (some (AObj.cells cc none 1 true false)) Tr.leaf) (some (AObj.cells rowsC none 0 true false)) (Tr.node (Tr.node Tr.leaf (some (AObj.cells [Value.int IntKind.i64 (Int.ofNat 0), Value.int IntKind.i64 (Int.ofNat 0), Value.int IntKind.i64 (Int.ofNat 0), Value.int IntKind.i64 (Int.ofNat 0), Value.int IntKind.i64 (Int.ofNat 0)] none 4 false false)) Tr.leaf) (some (AObj.cells [Value.int IntKind.i64 a, Value.int IntKind.i64 b, Value.int IntKind.i64 c, Value.int IntKind.i64 d, Value.int IntKind.i64 f] none 2 false false)) Tr.leaf)) 5 5 5)) ∧ ((!eqQ (r13_0 a b c d f g i j k l) (Int.ofNat 0)) = false → ((!leQ (Int.ofNat len) (Int.ofNat 120)) = true → R (Value.tuple (Array.mk [Value.agg (Array.mk [Value.int IntKind.i64 (Int.ofNat 0), Value.int IntKind.i64 (Int.ofNat 0), Value.int IntKind.i64 (Int.ofNat 0), Value.int IntKind.i64 (Int.ofNat 0), Value.int IntKind.i64 (Int.ofNat 0)]), Value.slice none 0 0, Value.int IntKind.i64 (Int.ofNat 4)])) (ASt.mk (Tr.node (Tr.node (Tr.node Tr.leaf (some (AObj.cells [Value.int IntKind.i64 g, Value.int IntKind.i64 i, Value.int IntKind.i64 j, Value.int IntKind.i64 k, Value.int IntKind.i64 l] none 3 false false)) Tr.leaf) (some (AObj.cells cc none 1 true false)) Tr.leaf) (some (AObj.cells rowsC none 0 true false)) (Tr.node (Tr.node Tr.leaf (some (AObj.cells [Value.int IntKind.i64 (Int.ofNat 0), Value.int IntKind.i64 (Int.ofNat 0), Value.int IntKind.i64 (Int.ofNat 0), Value.int IntKind.i64 (Int.ofNat 0), Value.int IntKind.i64 (Int.ofNat 0)] none 4 false false)) Tr.leaf) (some (AObj.cells [Value.int IntKind.i64 a, Value.int IntKind.i64 b, Value.int IntKind.i64 c, Value.int IntKind.i64 d, Value.int IntKind.i64 f] none 2 false false)) Tr.leaf)) 5 5 5)) ∧ ((!leQ (Int.ofNat len) (Int.ofNat 120)) = false → Lp 7 (mkTr2 [0, 1, 2, 3, 4, 6, 7, 8, 9, 10, 13, 14, 15, 16, 21, 22, 23] [Value.agg (Array.mk [Value.int IntKind.i64 a, Value.int IntKind.i64 b, Value.int IntKind.i64 c, Value.int IntKind.i64 d, Value.int IntKind.i64 f]), Value.agg (Array.mk [Value.int IntKind.i64 g, Value.int IntKind.i64 i, Value.int IntKind.i64 j, Value.int IntKind.i64 k, Value.int IntKind.i64 l]), Value.slice (some (Addr.mk 1 0 none)) len cap, Value.pointer (some (Addr.mk 2 0 none)), Value.pointer (some (Addr.mk 3 0 none)), Value.pointer (some (Addr.mk 4 0 none)), Value.slice none 0 0, Value.int IntKind.i64 (Int.ofNat 0), Value.slice none 0 0, Value.int IntKind.i64 (Int.ofNat 0), Value.agg (Array.mk [Value.int IntKind.i64 a, Value.int IntKind.i64 b, Value.int IntKind.i64 c, Value.int IntKind.i64 d, Value.int IntKind.i64 f]), Value.agg (Array.mk [Value.int IntKind.i64 g, Value.int IntKind.i64 i, Value.int IntKind.i64 j, Value.int IntKind.i64 k, Value.int IntKind.i64 l]), Value.int IntKind.i64 (r13_0 a b c d f g i j k l), Value.bool false, Value.slice (some (Addr.mk 1 0 none)) len cap, Value.int IntKind.i64 (Int.ofNat len), Value.bool false]) (ASt.mk (Tr.node (Tr.node (Tr.node Tr.leaf (some (AObj.cells [Value.int IntKind.i64 g, Value.int IntKind.i64 i, Value.int IntKind.i64 j, Value.int IntKind.i64 k, Value.int IntKind.i64 l] none 3 false false)) Tr.leaf) (some (AObj.cells cc none 1 true false)) Tr.leaf) (some (AObj.cells rowsC none 0 true false)) (Tr.node (Tr.node Tr.leaf (some (AObj.cells [Value.int IntKind.i64 (Int.ofNat 0), Value.int IntKind.i64 (Int.ofNat 0), Value.int IntKind.i64 (Int.ofNat 0), Value.int IntKind.i64 (Int.ofNat 0), Value.int IntKind.i64 (Int.ofNat 0)] none 4 false false)) Tr.leaf) (some (AObj.cells [Value.int IntKind.i64 a, Value.int IntKind.i64 b, Value.int IntKind.i64 c, Value.int IntKind.i64 d, Value.int IntKind.i64 f] none 2 false false)) Tr.leaf)) 5 5 5)))) (Ends (a, b, c, d, f) (g, i, j, k, l) ms len) (fun _ e σ => Lt N (.loop inner) e σ (K0 (a, b, c, d, f) (g, i, j, k, l) ms len N))) (by kernel_rfl) ?_⟩
  dsimp only
  have z1 : eqQ (r13_0 a b c d f g i j k l) (Int.ofNat 0) = true := by rw [h13]; kernel_rfl
  have z2 : leQ (Int.ofNat len) (Int.ofNat 120) = true := by
    rw [leQ_eq, decide_eq_true_eq]
    show (len : Int) ≤ 120
    omega
  refine ⟨fun h => ?_, fun _ => ⟨fun h => ?_, fun _ => ?_⟩⟩
  · rw [z1] at h; cases h
  · rw [z2] at h; cases h
  · exact hloop _ _ (of_eq (by kernel_rfl) hfit)

theorem g10_sim : SpecSim Tryd.prog Tb.glob 10 (ofG Run.g9) := by
  have inv : ∀ args σ v σ', ofG Run.g9 args σ = some (v, σ') → ∃ q u ad len cap cc, args = [aggU q, aggU u, .slice (some ad) len cap] ∧ Run.Asks q u ad len cc σ ∧ v = .tuple ⟨[aggU (usQ q u ((Run.movesOf cc).take len)), .slice (some ⟨σ.next, 0, some 1⟩) len len, .int .i64 0]⟩ ∧ σ' = plus σ ((esQ q u ((Run.movesOf cc).take len)).map (.int .i64)) (some 1) := fun args σ v σ' h => by
    replace h := ofG_eq h
    obtain ⟨a0', q0', e0', h⟩ := andThen2_eq h
    obtain ⟨a1', q1', e1', h⟩ := andThen2_eq h
    obtain ⟨a2', q2', e2', h⟩ := andThen2_eq h
    obtain ⟨_, en', h⟩ := andThen_eq h
    obtain ⟨l0', ea0', h⟩ := andThen_eq h
    obtain ⟨c0_0, q0_0, e0_0, h⟩ := andThen2_eq h
    obtain ⟨a, ex0_0, h⟩ := andThen_eq h
    obtain ⟨c0_1, q0_1, e0_1, h⟩ := andThen2_eq h
    obtain ⟨b, ex0_1, h⟩ := andThen_eq h
    obtain ⟨c0_2, q0_2, e0_2, h⟩ := andThen2_eq h
    obtain ⟨c, ex0_2, h⟩ := andThen_eq h
    obtain ⟨c0_3, q0_3, e0_3, h⟩ := andThen2_eq h
    obtain ⟨d, ex0_3, h⟩ := andThen_eq h
    obtain ⟨c0_4, q0_4, e0_4, h⟩ := andThen2_eq h
    obtain ⟨f, ex0_4, h⟩ := andThen_eq h
    obtain ⟨_, en0, h⟩ := andThen_eq h
    obtain ⟨l1', ea1', h⟩ := andThen_eq h
    obtain ⟨c1_0, q1_0, e1_0, h⟩ := andThen2_eq h
    obtain ⟨g, ex1_0, h⟩ := andThen_eq h
    obtain ⟨c1_1, q1_1, e1_1, h⟩ := andThen2_eq h
    obtain ⟨i, ex1_1, h⟩ := andThen_eq h
    obtain ⟨c1_2, q1_2, e1_2, h⟩ := andThen2_eq h
    obtain ⟨j, ex1_2, h⟩ := andThen_eq h
    obtain ⟨c1_3, q1_3, e1_3, h⟩ := andThen2_eq h
    obtain ⟨k, ex1_3, h⟩ := andThen_eq h
    obtain ⟨c1_4, q1_4, e1_4, h⟩ := andThen2_eq h
    obtain ⟨l, ex1_4, h⟩ := andThen_eq h
    obtain ⟨_, en1, h⟩ := andThen_eq h
    obtain ⟨base, len, cap, es', h⟩ := andThen3_eq h
    obtain ⟨ad, ead, h⟩ := andThen_eq h
    obtain ⟨cc, ecc, h⟩ := andThen_eq h
    rw [Option.some.injEq, Prod.mk.injEq, Prod.mk.injEq] at h
    obtain ⟨h1, rfl, rfl⟩ := h
    obtain rfl := gNil_eq en'
    obtain rfl := gNil_eq en0
    obtain rfl := gCons_eq e0_4
    obtain rfl := gI_eq ex0_4
    obtain rfl := gCons_eq e0_3
    obtain rfl := gI_eq ex0_3
    obtain rfl := gCons_eq e0_2
    obtain rfl := gI_eq ex0_2
    obtain rfl := gCons_eq e0_1
    obtain rfl := gI_eq ex0_1
    obtain rfl := gCons_eq e0_0
    obtain rfl := gI_eq ex0_0
    obtain rfl := asA_eq ea0'
    obtain rfl := gNil_eq en1
    obtain rfl := gCons_eq e1_4
    obtain rfl := gI_eq ex1_4
    obtain rfl := gCons_eq e1_3
    obtain rfl := gI_eq ex1_3
    obtain rfl := gCons_eq e1_2
    obtain rfl := gI_eq ex1_2
    obtain rfl := gCons_eq e1_1
    obtain rfl := gI_eq ex1_1
    obtain rfl := gCons_eq e1_0
    obtain rfl := gI_eq ex1_0
    obtain rfl := asA_eq ea1'
    subst ead
    obtain rfl := asSl_eq es'
    obtain rfl := gCons_eq e2'
    obtain rfl := gCons_eq e1'
    obtain rfl := gCons_eq e0'
    exact ⟨(a, b, c, d, f), (g, i, j, k, l), ad, len, cap, cc, rfl, dec_iff.1 h1, rfl, rfl⟩
  refine ⟨fun args σ v σ' h => ?_, fun args σ v σ' h => ?_⟩
  · obtain ⟨q, u, ad, len, cap, cc, _, _, _, rfl⟩ := inv _ _ _ _ h
    exact mono_plus _ _ _
  · obtain ⟨q, u, ad, len, cap, cc, rfl, ⟨h1, h2, h3, h4, h5, h6, h7, h8, h9, hQ, hU⟩, rfl, rfl⟩ := inv _ _ _ _ h
    obtain ⟨blk, off, spot⟩ := ad
    obtain rfl : off = 0 := h1
    obtain rfl : spot = none := h2
    have hb0 : blk ≠ 0 := h5
    have hlm : ((Run.movesOf cc).take len).length = len := by rw [List.length_take]; omega
    have hfn : FnOk1 Tryd.prog Tb.glob 10 Tryd.f10 := .of Tryd.func10 (by kernel_rfl)
    have hren1 : renL [0, 1] [0, blk] 1 = some (blk, 0) := rfl
    refine call_spec hfn (codeOf_ok (by kernel_rfl)) Tb.tys (blocks_entry (bl := [⟨0, 0, rowsC⟩, ⟨1, blk, cc⟩]) (n := 2) (argsc := [aggU q, aggU u, .slice (some ⟨1, 0, none⟩) len cap]) (by kernel_rfl) (by kernel_rfl) (fun b hb => ?_) (fun g hg => ?_) h6
      (.cons (VA.bareA (by rfl)) (.cons (VA.bareA (by rfl)) (.cons (.sl len cap hren1 (Nat.zero_add 0).symm) .nil)))) fun N hN => ?_
    · simp only [List.mem_cons, List.not_mem_nil, or_false] at hb
      rcases hb with rfl | rfl
      · exact bareAll_mem (by kernel_rfl)
      · exact h7
    · have : g < 1 := (blt_iff _ _).1 hg
      have : g = 0 := by omega
      subst this; rfl
    · obtain ⟨t, d⟩ := walk (cap := cap) h7 h8 hlm h4 hQ hU blk N hN
      refine (vcC_ok mix Tb.tys call_ok.1 call_ok.2 guarded_none code (codeOk_mono hN _ (hfn.2.2 _ (codeOf_ok (by kernel_rfl)))) t _ _ _ d).mono fun x e σ1 hq => ?_
      have := vcEnd_ok hq
      obtain ⟨m, rfl⟩ : ∃ m, len = m + 1 := ⟨len - 1, by omega⟩
      have key : ∀ vs, Ends q u ((Run.movesOf cc).take (m + 1)) (m + 1) (oneOrTuple vs) (norm σ1) → Leave (fun k => memN k [0, 1]) (renL [0, 1] [0, blk]) (renOne 5 σ.next) (fun _ => 5) σ (plus σ ((esQ q u ((Run.movesOf cc).take (m + 1))).map (.int .i64)) (some 1)) σ1 (oneOrTuple vs) (.tuple ⟨[aggU (usQ q u ((Run.movesOf cc).take (m + 1))), .slice (some ⟨σ.next, 0, some 1⟩) (m + 1) (m + 1), .int .i64 0]⟩) := fun vs hv => by
        rcases hv.2 with h0 | h0
        · cases h0
        · refine leave_one (by kernel_rfl) h0 (bare_ints _) ?_
          rw [hv.1]
          exact (VAs.cons (VA.bareA (by rfl)) (.cons (.sl _ _ (if_pos rfl) (Nat.zero_add 0).symm) (.cons (.int _ _) .nil))).tuple
      cases x with
      | normal => obtain ⟨vs, g1, g2⟩ := this; exact ⟨vs, g1, _, _, key vs g2⟩
      | exit id => exact this.elim
      | ret => obtain ⟨vs, g1, g2⟩ := this; exact ⟨vs, g1, _, _, key vs g2⟩

end Ref
end Go.Proofs.YtkadjjicakinbaaDoor
