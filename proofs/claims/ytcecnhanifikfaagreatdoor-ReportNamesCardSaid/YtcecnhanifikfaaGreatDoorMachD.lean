/- The abstract machine, one part: see its own sections. Conditions: none. -/
import Derived.Test.YtcecnhanifikfaaGreatDoorMachC
import Derived.Carry
import Derived.KernelRfl
set_option linter.unusedVariables false
set_option linter.unusedSimpArgs false
/- A LAW, BY THE ABSTRACT MACHINE: from data that came in and listed variables to the call, and what stays of memory behind it. -/
namespace Go.Abs

/-! ### the start -/

noncomputable def gTree : List (Nat × List Value) → Tr AObj
  | [] => .leaf
  | p :: r => (gTree r).set p.1 (.cells p.2 none p.1 true false)
noncomputable def setAll : List (List Value) → Nat → Tr AObj → Tr AObj
  | [], _, t => t
  | c :: r, n, t => setAll r (n + 1) (t.set n (.cells c none n true false))
noncomputable def start (gs : List (Nat × List Value)) (n : Nat) (bs : List (List Value)) : ASt :=
  ⟨setAll bs n (gTree gs), n + bs.length, n + bs.length, n + bs.length⟩

def lookG : List (Nat × List Value) → Nat → Option (List Value)
  | [], _ => none
  | p :: r, k => if p.1 = k then some p.2 else lookG r k

theorem gTree_get : ∀ (gs : List (Nat × List Value)) (k : Nat), (gTree gs).get k = (lookG gs k).map fun c => .cells c none k true false
  | [], k => rfl
  | p :: r, k => by
    rw [show gTree (p :: r) = (gTree r).set p.1 (.cells p.2 none p.1 true false) from rfl, Tr.get_set, gTree_get r k]
    rw [show lookG (p :: r) k = if p.1 = k then some p.2 else lookG r k from rfl]
    by_cases h : p.1 = k
    · subst h; rw [if_pos rfl, if_pos rfl]; rfl
    · rw [if_neg (Ne.symm h), if_neg h]
theorem setAll_get : ∀ (bs : List (List Value)) (n : Nat) (t : Tr AObj) (k : Nat), (setAll bs n t).get k = if n ≤ k ∧ k < n + bs.length then (bs[k - n]?).map fun c => .cells c none k true false else t.get k
  | [], n, t, k => by rw [if_neg (by intro h; simp at h; omega)]; rfl
  | c :: r, n, t, k => by
    rw [show setAll (c :: r) n t = setAll r (n + 1) (t.set n (.cells c none n true false)) from rfl, setAll_get r]
    by_cases h1 : n + 1 ≤ k ∧ k < n + 1 + r.length
    · rw [if_pos h1, if_pos (by simp; omega)]
      have : k - n = (k - (n + 1)) + 1 := by omega
      rw [this, List.getElem?_cons_succ]
    · rw [if_neg h1, Tr.get_set]
      by_cases h2 : k = n
      · subst h2; rw [if_pos rfl, if_pos (by simp)]; simp
      · rw [if_neg h2, if_neg (by simp at h1 ⊢; omega)]

section
variable {H : Type}

noncomputable def layVars (T : Tab) (fuel : Nat) : List (Nat × TypeId × DataW Unit) → Nat → Option (List (Nat × List Value) × List (List Value))
  | [], _ => some ([], [])
  | x :: r, n => andThen2 (lay T fuel x.2.1 x.2.2 n) fun c b => andThen2 (layVars T fuel r (n + b.length)) fun gs b' => some ((x.1, c) :: gs, b ++ b')

/-- the value that these cells are -/
noncomputable def valueOf (T : Tab) (t : TypeId) (cs : List Value) : Option Value := andThen (ty T t) fun i => iff i.agg (some (.agg ⟨cs⟩)) (match cs with | [v] => some v | _ => none)

noncomputable def layArgs (T : Tab) (fuel : Nat) : List TypeId → List (DataW H) → Nat → Option (List Value × List (List Value))
  | t :: ts, d :: ds, n => andThen2 (lay T fuel t d n) fun c b => andThen (valueOf T t c) fun v => andThen2 (layArgs T fuel ts ds (n + b.length)) fun vs b' => some (v :: vs, b ++ b')
  | [], [], _ => some ([], [])
  | _, _, _ => none
end

def VarsAre (P : Program) : List (Nat × TypeId × DataW Unit) → List (String × DataW Unit) → Prop
  | [], [] => True
  | x :: r, y :: s => P.globalNamed y.1 = some x.1 ∧ (P.globals[x.1]?).map (·.type) = some x.2.1 ∧ x.2.2 = y.2 ∧ VarsAre P r s
  | _, _ => False

def No : Nat → Prop := fun _ => False

section
variable {P : Program} {T : Tab} {H : Type} {enc : TypeId × Value → H} {w : World} {D : Nat → Prop}

/-- a family of layings -/
def Agree (n : Nat) (bs : List (List Value)) (f : Nat → Option PI) (π : PMap) : Prop := ∀ k, n ≤ k → k < n + bs.length → π k = f k

theorem vars_ok (hT : TyOk P T) {fuel : Nat} : ∀ (xs : List (Nat × TypeId × DataW Unit)) (laid : List (String × DataW Unit)) (n : Nat) (gs : List (Nat × List Value)) (bs : List (List Value)) (ps : List MemPlace),
    VarsAre P xs laid → DataW.LaidVars P w laid ps → layVars T fuel xs n = some (gs, bs) →
    ∃ f : Nat → Option PI, ∀ π, Agree n bs f π → HasRows π D w n bs ∧ ∀ g c, lookG gs g = some c → ∃ cc elem fz, w.heap[g]? = some (.cells cc elem fz) ∧ VRs π D c cc.toList ∧ ∀ v ∈ c, oneA v = true
  | [], [], n, gs, bs, ps, _, _, h => by
    cases (show some (([], []) : List (Nat × List Value) × List (List Value)) = some (gs, bs) from h)
    exact ⟨fun _ => none, fun π _ => ⟨.nil, fun g c h => by cases h⟩⟩
  | x :: r, y :: s, n, gs, bs, ps, hv, hl, h => by
    obtain ⟨c, b, h1, h2⟩ := andThen2_eq (show andThen2 (lay T fuel x.2.1 x.2.2 n) (fun c b => andThen2 (layVars T fuel r (n + b.length)) fun gs b' => some ((x.1, c) :: gs, b ++ b')) = some (gs, bs) from h)
    obtain ⟨gs', b', h3, h4⟩ := andThen2_eq h2
    cases h4
    obtain ⟨v1, v2, v3, v4⟩ := hv
    obtain ⟨nm, d⟩ := y
    obtain ⟨g, t, cs, fl, p, q, l1, l2, l3, l4, l5, _⟩ := hl
    rw [v1] at l1
    cases l1
    rw [v2] at l2
    cases l2
    have v3' : x.2.2 = d := v3
    obtain ⟨g1, f, g2⟩ := lay_ok (w := w) (D := D) (enc := fun _ => ()) (base := 0) (held := false) hT fuel x.2.1 x.2.2 n c b cs.toList h1 ⟨fl, p, by rw [v3']; exact l4⟩
    obtain ⟨f', g3⟩ := vars_ok hT r s (n + b.length) gs' b' q v4 l5 h3
    refine ⟨fun k => if k < n + b.length then f k else f' k, fun π hπ => ?_⟩
    obtain ⟨a1, a2⟩ := g2 π fun k hk hk2 => (hπ k hk (by simp; omega)).trans (if_pos hk2)
    obtain ⟨a3, a4⟩ := g3 π fun k hk hk2 => (hπ k (by omega) (by simp; omega)).trans (if_neg (by omega))
    refine ⟨a2.append a3, fun k c' hk => ?_⟩
    unfold lookG at hk
    by_cases e : x.1 = k
    · rw [if_pos e] at hk
      cases hk
      unfold World.var? at l3
      rw [v1] at l3
      simp only [Option.bind_some] at l3
      split at l3
      · rename_i cs' elem fz hB
        cases l3
        exact ⟨_, elem, fz, by rw [← e]; exact hB, a1, g1⟩
      · cases l3
    · rw [if_neg e] at hk
      exact a4 k c' hk

theorem valueOf_ok (hT : TyOk P T) {base : Nat} {t : TypeId} {c : List Value} {v v' : Value} {π : PMap} (h : valueOf T t c = some v) (hok : Value.okWide P w .any base t v') (hc : VRs π D c v'.cells.toList) (h1 : ∀ u ∈ c, oneA u = true) (hone : ∀ u ∈ c, oneA u = true) : VR π D v v' := by
  obtain ⟨i, hi, h2⟩ := andThen_eq h
  rw [iff_eq] at h2
  have hti := hT t i hi
  unfold Value.okWide at hok
  rw [hti.desc] at hok
  split at h2
  · rename_i ha
    cases h2
    rw [hti.agg] at ha
    cases hd : i.desc <;> rw [hd] at ha hok <;> first | (cases ha; done) | skip
    all_goals
      obtain ⟨cs, rfl, _, _⟩ := hok
      obtain ⟨cs⟩ := cs
      exact hc.agg hone
  · rename_i ha
    have hna : ∀ cs : List Value, v' ≠ .agg ⟨cs⟩ := fun cs hv => by
      subst hv
      rw [hti.agg] at ha
      cases hd : i.desc <;> rw [hd] at ha hok <;> first | (exact absurd rfl ha) | (simp [Cell.okWide, Cell.ok, hti.desc, hd] at hok; done) | skip
      all_goals (unfold Cell.okWide Cell.ok at hok; rw [hti.desc, hd] at hok; simp at hok)
    split at h2
    · cases h2
      cases hv : v' with
      | agg cs => obtain ⟨cs⟩ := cs; exact absurd hv (hna cs)
      | _ => rw [hv] at hc; exact hc.head
    · cases h2

theorem args_ok (hT : TyOk P T) {fuel base : Nat} {held : Bool} : ∀ (ts : List TypeId) (ds : List (DataW H)) (vs' : List Value) (n : Nat) (vs : List Value) (bs : List (List Value)) (ps : List MemPlace),
    DataW.TrodAll enc P w base (fun _ => true) held ts vs' ds ps → (∀ (j : Nat) t v, ts[j]? = some t → vs'[j]? = some v → Value.okWide P w .any base t v) → layArgs T fuel ts ds n = some (vs, bs) →
    ∃ f : Nat → Option PI, ∀ π, Agree n bs f π → HasRows π D w n bs ∧ VRs π D vs vs'
  | [], [], [], n, vs, bs, ps, _, _, h => by
    cases (show some (([], []) : List Value × List (List Value)) = some (vs, bs) from h)
    exact ⟨fun _ => none, fun π _ => ⟨.nil, .nil⟩⟩
  | t :: ts, d :: ds, v' :: vs', n, vs, bs, ps, ht, hok, h => by
    obtain ⟨c, b, h1, h2⟩ := andThen2_eq (show andThen2 (lay T fuel t d n) (fun c b => andThen (valueOf T t c) fun v => andThen2 (layArgs T fuel ts ds (n + b.length)) fun vs b' => some (v :: vs, b ++ b')) = some (vs, bs) from h)
    obtain ⟨v, h3, h4⟩ := andThen_eq h2
    obtain ⟨us, b', h5, h6⟩ := andThen2_eq h4
    cases h6
    obtain ⟨p, q, ⟨fl, t1⟩, t2, _⟩ := ht
    obtain ⟨g1, f, g2⟩ := lay_ok (w := w) (D := D) (enc := enc) (base := base) (held := held) hT fuel t d n c b v'.cells.toList h1 ⟨fl, p, t1⟩
    obtain ⟨f', g3⟩ := args_ok hT ts ds vs' (n + b.length) us b' q t2 (fun j t v hj hv => hok (j + 1) t v (by simpa using hj) (by simpa using hv)) h5
    refine ⟨fun k => if k < n + b.length then f k else f' k, fun π hπ => ?_⟩
    obtain ⟨a1, a2⟩ := g2 π fun k hk hk2 => (hπ k hk (by simp; omega)).trans (if_pos hk2)
    obtain ⟨a3, a4⟩ := g3 π fun k hk hk2 => (hπ k (by omega) (by simp; omega)).trans (if_neg (by omega))
    exact ⟨a2.append a3, .cons (valueOf_ok hT h3 (hok 0 t v' rfl rfl) a1 g1 g1) a4⟩
  | [], [], _ :: _, _, _, _, _, ht, _, _ => ht.elim
  | [], _ :: _, [], _, _, _, _, ht, _, _ => ht.elim
  | [], _ :: _, _ :: _, _, _, _, _, ht, _, _ => ht.elim
  | _ :: _, [], [], _, _, _, _, ht, _, _ => ht.elim
  | _ :: _, [], _ :: _, _, _, _, _, ht, _, _ => ht.elim
  | _ :: _, _ :: _, [], _, _, _, _, ht, _, _ => ht.elim

/-- all that lies there, as data -/
def frAll (w : World) : Nat → Option (List Value) := fun B => match w.heap[B]? with
  | some (.cells cc _ _) => some cc.toList
  | _ => none
theorem frAll_eq {w : World} {B : Nat} {cc : List Value} (h : frAll w B = some cc) : ∃ elem fz, w.heap[B]? = some (.cells ⟨cc⟩ elem fz) := by
  unfold frAll at h
  split at h
  · rename_i c elem fz hB
    cases h
    exact ⟨elem, fz, hB⟩
  · cases h
theorem start_okW {gs : List (Nat × List Value)} {n : Nat} {bs : List (List Value)} {f : Nat → Option PI} (hn : ∀ g c, lookG gs g = some c → g < n)
    (hf : ∀ π, Agree n bs f π → HasRows π No w n bs ∧ ∀ g c, lookG gs g = some c → ∃ cc elem fz, w.heap[g]? = some (.cells cc elem fz) ∧ VRs π No c (cc.toList.take c.length) ∧ ∀ v ∈ c, oneA v = true) :
    ∃ π : PMap, Agree n bs f π ∧ (∀ σ', (start gs n bs).next ≤ σ'.next → Pre (start gs n bs) σ' π No No (fun _ => none) w) ∧ (∀ k i, π k = some i → i.ro = true) ∧ (∀ g c, lookG gs g = some c → AR π No ⟨g, 0, none⟩ ⟨g, 0, none⟩) ∧ π.fr = frAll w := by
  let gp : Nat → Option PI := fun k => match lookG gs k with
    | some c => (match w.heap[k]? with | some (.cells cc _ _) => some ⟨k, 0, cc.size, none, k, true, c.length⟩ | _ => none)
    | none => none
  let π : PMap := ⟨fun k => if n ≤ k then (if k < n + bs.length then f k else none) else gp k, frAll w⟩
  have hag : Agree n bs f π := fun k h1 h2 => (if_pos h1).trans (if_pos h2)
  obtain ⟨h1, h2⟩ := hf π hag
  have hgp : ∀ k i, gp k = some i → ∃ c cc elem fz, lookG gs k = some c ∧ w.heap[k]? = some (.cells cc elem fz) ∧ i = ⟨k, 0, cc.size, none, k, true, c.length⟩ := fun k i h => by
    simp only [gp] at h
    split at h
    · rename_i c hc
      split at h
      · rename_i cc elem fz hB
        cases h
        exact ⟨c, cc, elem, fz, hc, hB, rfl⟩
      · cases h
    · cases h
  have hrow : ∀ k i, π k = some i → n ≤ k → k < n + bs.length ∧ ∃ c, bs[k - n]? = some c ∧ i.org = k ∧ i.ro = true ∧ i.esz = none ∧ ObjR π No i w (.cells c none k true false) := fun k i hk hnk => by
    have h3 : (if k < n + bs.length then f k else none) = some i := (if_pos hnk).symm.trans hk
    split at h3
    · rename_i hlt
      have h4 : k - n < bs.length := by omega
      obtain ⟨p, a1, a2, a3, a4, a5⟩ := h1 (k - n) bs[k - n] (List.getElem?_eq_getElem h4)
      have e : n + (k - n) = k := by omega
      rw [e] at a1 a2 a5
      rw [hk] at a1
      cases a1
      exact ⟨hlt, _, List.getElem?_eq_getElem h4, a2, a3, a4, a5⟩
    · cases h3
  have hglo : ∀ k i, π k = some i → k < n → gp k = some i := fun k i hk hkn => (if_neg (by omega)).symm.trans hk
  have hobj : ∀ k, (start gs n bs).obj k = if n ≤ k ∧ k < n + bs.length then (bs[k - n]?).map fun c => .cells c none k true false else (lookG gs k).map fun c => .cells c none k true false := fun k => by
    show (setAll bs n (gTree gs)).get k = _
    rw [setAll_get, gTree_get]
  have hinfo : ∀ k i, π k = some i → i.org = k ∧ i.ro = true ∧ i.esz = none ∧ k < n + bs.length := fun k i hk => by
    by_cases hnk : n ≤ k
    · obtain ⟨a1, c, a2, a3, a4, a5, a6⟩ := hrow k i hk hnk
      exact ⟨a3, a4, a5, a1⟩
    · obtain ⟨c, cc, elem, fz, a1, a2, rfl⟩ := hgp k i (hglo k i hk (by omega))
      exact ⟨rfl, rfl, rfl, by show k < _; omega⟩
  refine ⟨π, hag, fun σ' hnx => ⟨⟨fun k i hk => ?_, fun k i hk => ⟨Nat.le_of_eq (hinfo k i hk).1, fun _ => (hinfo k i hk).1⟩, fun B cc hf => frAll_eq hf, fun k i hk hro => (by have h3 := (hinfo k i hk).2.1; rw [hro] at h3; cases h3), fun k₁ k₂ i₁ i₂ _ hk1 hk2 _ => .inl ⟨(hinfo _ _ hk1).2.1, (hinfo _ _ hk2).2.1⟩, fun k i hk => .none (hinfo k i hk).2.2.1⟩, fun k hk => ?_, hnx, fun k hk _ => ?_, fun k hk => hk.elim, fun k i hk => hk.elim, fun k i hk hk2 => ?_, fun k hk => hk.elim⟩, fun k i hk => (hinfo k i hk).2.1, fun g c hg => ?_, rfl⟩
  · have hlt := (hinfo k i hk).2.2.2
    have hext : ext (start gs n bs) (fun _ => none) k = (start gs n bs).obj k := if_pos (show k < (start gs n bs).next from hlt)
    rw [hext, hobj]
    by_cases hnk : n ≤ k
    · obtain ⟨a1, c, a2, a3, a4, a5, a6⟩ := hrow k i hk hnk
      rw [if_pos ⟨hnk, a1⟩, a2]
      exact ⟨_, rfl, a6⟩
    · rw [if_neg (by omega)]
      obtain ⟨c, cc, elem, fz, a1, a2, rfl⟩ := hgp k i (hglo k i hk (by omega))
      rw [a1]
      obtain ⟨cc', elem', fz', b1, b2, b3⟩ := h2 k c a1
      rw [a2] at b1
      cases b1
      have hl : c.length ≤ cc.size := by have h9 := b2.1; rw [List.length_take] at h9; simp at h9; omega
      refine ⟨_, rfl, cc, elem, fz, a2, rfl, by show 0 + c.length ≤ cc.size; omega, b3, ?_, (fun h => by cases h), rfl, rfl, rfl, rfl⟩
      show VRs π No c ((cc.toList.drop 0).take c.length)
      rw [List.drop_zero]
      exact b2
  · rw [hobj, if_neg (by have : n + bs.length ≤ k := hk; omega)]
    cases hl : lookG gs k with
    | none => rfl
    | some c => have := hn k c hl; have : n + bs.length ≤ k := hk; omega
  · cases hpk : π k with
    | none => rfl
    | some i => have := (hinfo k i hpk).2.2.2; have : n + bs.length ≤ k := hk; omega
  · have := (hinfo k i hk).2.2.2
    have h5 : n + bs.length ≤ σ'.next := hnx
    omega
  · obtain ⟨cc, elem, fz, b1, _⟩ := h2 g c hg
    refine ⟨rfl, .inl ⟨⟨g, 0, cc.size, none, g, true, c.length⟩, ?_, rfl, rfl⟩⟩
    show (if n ≤ g then _ else gp g) = _
    rw [if_neg (by have := hn g c hg; omega)]
    simp only [gp, hg, b1]

theorem start_ok {gs : List (Nat × List Value)} {n : Nat} {bs : List (List Value)} {f : Nat → Option PI} (hn : ∀ g c, lookG gs g = some c → g < n)
    (hf : ∀ π, Agree n bs f π → HasRows π No w n bs ∧ ∀ g c, lookG gs g = some c → ∃ cc elem fz, w.heap[g]? = some (.cells cc elem fz) ∧ VRs π No c cc.toList ∧ ∀ v ∈ c, oneA v = true) :
    ∃ π : PMap, Agree n bs f π ∧ (∀ σ', (start gs n bs).next ≤ σ'.next → Pre (start gs n bs) σ' π No No (fun _ => none) w) ∧ (∀ k i, π k = some i → i.ro = true) ∧ (∀ g c, lookG gs g = some c → AR π No ⟨g, 0, none⟩ ⟨g, 0, none⟩) ∧ π.fr = frAll w :=
  start_okW hn fun π hπ => ⟨(hf π hπ).1, fun g c hg => by
    obtain ⟨cc, elem, fz, b1, b2, b3⟩ := (hf π hπ).2 g c hg
    exact ⟨cc, elem, fz, b1, by rw [b2.1, List.take_length]; exact b2, b3⟩⟩

/-- **a call that answers true** -/
theorem abs_true (hT : TyOk P T) {G : Globs} (hF : FnsOk P T G) {lf m : Nat} {f : FuncId} {args' : List Value} {base : Nat} {fuel : Nat} {held : Bool} {ts : List TypeId} {ds : List (DataW H)} {ps qs : List MemPlace}
    {xs : List (Nat × TypeId × DataW Unit)} {laid : List (String × DataW Unit)} {gs : List (Nat × List Value)} {n : Nat} {bs bs' : List (List Value)} {vs : List Value} {σ' : ASt}
    (hargs : DataW.TrodAll enc P w base (fun _ => true) held ts args' ds ps) (hok : ∀ (j : Nat) t v, ts[j]? = some t → args'[j]? = some v → Value.okWide P w .any base t v)
    (hxs : VarsAre P xs laid) (hlaid : DataW.LaidVars P w laid qs)
    (h1 : layVars T fuel xs n = some (gs, bs)) (hn : ∀ g c, lookG gs g = some c → g < n) (h2 : layArgs T fuel ts ds (n + bs.length) = some (vs, bs')) (hG : ∀ g, G g = true → (lookG gs g).isSome = true)
    (h : callN T lf m f vs (start gs n (bs ++ bs')) = some (.bool true, σ')) :
    Calls P f ⟨args'⟩ w fun e w' => e = .returned (.bool true) ∧ Go.RowKit.Below w.heap.size w w' := by
  obtain ⟨f1, g1⟩ := vars_ok (w := w) (D := No) hT xs laid n gs bs qs hxs hlaid h1
  obtain ⟨f2, g2⟩ := args_ok (w := w) (D := No) (enc := enc) hT ts ds args' (n + bs.length) vs bs' ps hargs hok h2
  have hf : ∀ π, Agree n (bs ++ bs') (fun k => if k < n + bs.length then f1 k else f2 k) π → Agree n bs f1 π ∧ Agree (n + bs.length) bs' f2 π := fun π hπ =>
    ⟨fun k hk hk2 => (hπ k hk (by simp; omega)).trans (if_pos hk2), fun k hk hk2 => (hπ k (by omega) (by simp; omega)).trans (if_neg (by omega))⟩
  obtain ⟨π, hag, hpre, hro, hgl, _⟩ := start_ok (w := w) (gs := gs) (n := n) (bs := bs ++ bs') hn (fun π hπ => by
    obtain ⟨a, b⟩ := hf π hπ
    obtain ⟨c1, c2⟩ := g1 π a
    exact ⟨c1.append (g2 π b).1, c2⟩)
  have hmono := mono_callN (T := T) m f vs _ _ _ h
  obtain ⟨_, hsim⟩ := sim_callN (lf := lf) hT hF m f vs _ _ _ h
  have := hsim (Nat.le_refl _) π No No (fun _ => none) w args' (fun g hg => by
    have := hG g hg
    cases hl : lookG gs g with
    | none => rw [hl] at this; cases this
    | some c => exact hgl g c hl) (g2 π (hf π hag).2).2 (hpre σ' hmono.next)
  refine this.mono fun e w' ⟨v', π', D', he, hv, hpo⟩ => ?_
  rw [hv.bool_inv] at he
  exact ⟨he, hpo.fr.os, hpo.fr.tape, hpo.fr.output, hpo.fr.size, fun B hB => hpo.fr.keep B hB fun k i hk hro2 => by rw [hro k i hk] at hro2; cases hro2⟩

open Go.RowKit Go.ChangeShapes in
theorem law_post {f : Func} {s : ChangeSpec} {apart handsOn : Bool} {W' : World} {args : Array Value} {ds : List (DataW H)} {before : List MemPlace} (tb : TypeId) (hlo : laidOutB P = true)
    (hread : ∀ t ∈ f.params.toList, P.readableRec t = true ∧ t < P.types.size) (hres : f.resultTypes.toList = [tb]) (hb : P.underlying tb = some .bool) (hv : s.vars = [])
    (hfn : s.fn H ds = { results := [.lit (.bool true)], args := ds }) (hW : DataW.Whole enc P f.params.toList s.vars apart w args.toList ds [] before) (hs : Below w.heap.size w W') :
    s.post enc P f apart true handsOn false w args (.bool true) W' := by
  have hW0 := hW
  obtain ⟨p, q, h1, h2, h3, h4, h5⟩ := hW
  have hall : ∀ (ts : List TypeId) (vs : List Value) (ds : List (DataW H)) (p : List MemPlace), (∀ t ∈ ts, P.readableRec t = true ∧ t < P.types.size) → (∀ x ∈ p, x.block < w.heap.size) → DataW.TrodAll enc P w 0 (fun _ => true) true ts vs ds p → DataW.TrodAll enc P W' 0 (fun b => decide (b < w.heap.size)) true ts vs ds p := by
    intro ts
    induction ts with
    | nil =>
      intro vs ds p _ _ h
      obtain ⟨rfl, rfl, rfl⟩ := trodAll_nil h
      exact trodAll_mk0
    | cons t ts ih =>
      intro vs ds p hr hlt h
      obtain ⟨v, vs', d, ds', p0, q0, rfl, rfl, rfl, g1, g2⟩ := trodAll_cons h
      have hr0 := hr t (by simp)
      exact ⟨p0, q0, Below.trod hlo hr0.1 hr0.2 g1 hs (fun x hx => hlt x (by simp [hx])), ih vs' ds' q0 (fun u hu => hr u (by simp [hu])) (fun x hx => hlt x (by simp [hx])) g2, rfl⟩
  have hq : q = [] := by rw [hv] at h2; exact h2
  have hsize : f.resultTypes.size = 1 := by
    have := congrArg List.length hres
    simpa using this
  refine ⟨ds, [], before, [], p, [], hW0, ?_, ?_, ?_, hs.frame _, fun h => by cases h⟩
  · rw [List.append_nil, hfn, hres, hsize]
    exact ⟨[], [], ⟨1, by simp [DataW.trod, hb, Value.cells]⟩, rfl, rfl⟩
  · rw [List.append_nil, hfn]
    refine hall _ _ _ p hread (fun x hx => hW0.lt x (by rw [h3]; simp [hx])) h1
  · rw [List.append_nil, hfn, hv]
    rfl
end
end Go.Abs

/- THE TABLES OF A PROGRAM: what the abstract machine is given, held against the program, by closed facts. -/
namespace Go.Abs

def isAggD : TypeDesc → Bool
  | .struct _ => true
  | .array _ _ => true
  | _ => false
def isStructD : TypeDesc → Bool
  | .struct _ => true
  | _ => false
def zeroB (i : TI) : Bool := match i.info.zero with | some z => constV z | none => true
def tyB (P : Program) (t : TypeId) (i : TI) : Bool :=
  and (Nat.beq i.size i.info.size) (and (i.agg == isAggD i.desc) (and (cond (isStructD i.desc) (P.stoodInHeld t == i.held) true) (and (P.eqGuardType P.depth t == i.guard) (and (zeroB i) (not (Nat.ble bigN i.size))))))

theorem TabTy.of {P : Program} {t : TypeId} {i : TI} (h1 : P.info? t = some i.info) (h2 : P.underlying t = some i.desc) (h3 : tyB P t i = true) : TabTy P t i := by
  unfold tyB at h3
  simp only [Bool.and_eq_true, beq_iff_eq] at h3
  obtain ⟨a, b, c, d, e, f⟩ := h3
  refine ⟨h1, h2, Nat.eq_of_beq_eq_true a, ?_, fun fs hfs => ?_, d, fun z hz => ?_, by simpa using f⟩
  · rw [b]; cases i.desc <;> rfl
  · rw [hfs] at c; simpa [isStructD] using c
  · unfold zeroB at e; rw [hz] at e; exact constV_ok e

/-- it holds at every place of a tree -/
def Tr.All {α : Type} (p : Nat → α → Prop) : Tr α → (Nat → Nat) → Prop
  | .leaf, _ => True
  | .node l v r, g => (match v with | some a => p (g 0) a | none => True) ∧ Tr.All p l (fun k => g (2 * k + 1)) ∧ Tr.All p r (fun k => g (2 * k + 2))

theorem Tr.All.get {α : Type} {p : Nat → α → Prop} : ∀ {t : Tr α} {g : Nat → Nat}, Tr.All p t g → ∀ n a, t.get n = some a → p (g n) a
  | .leaf, g, _, n, a, h => by cases h
  | .node l v r, g, ⟨h1, h2, h3⟩, n, a, h => by
    rw [Tr.get_node'] at h
    by_cases h0 : n = 0
    · rw [if_pos h0] at h; subst h0; rw [h] at h1; exact h1
    · rw [if_neg h0] at h
      by_cases ho : n % 2 = 1
      · rw [if_pos ho] at h
        have := h2.get _ _ h
        have e : 2 * (n / 2) + 1 = n := by omega
        rw [e] at this; exact this
      · rw [if_neg ho] at h
        have := h3.get _ _ h
        have e : 2 * (n / 2 - 1) + 2 = n := by omega
        rw [e] at this; exact this

def FnOk1 (P : Program) (G : Globs) (f : FuncId) (fn : Func) : Prop := P.funcs[f]? = some fn ∧ (fn.name == "runtime.NumGoroutine") = false ∧ ∀ c, fn.body = some c → codeOk G fn.ntmps c = true
noncomputable def fnB (G : Globs) (fn : Func) : Bool := and (not (fn.name == "runtime.NumGoroutine")) (match fn.body with | some c => codeOk G fn.ntmps c | none => true)
theorem FnOk1.of {P : Program} {G : Globs} {f : FuncId} {fn : Func} (h1 : P.funcs[f]? = some fn) (h2 : fnB G fn = true) : FnOk1 P G f fn := by
  unfold fnB at h2
  rw [Bool.and_eq_true, Bool.not_eq_true'] at h2
  exact ⟨h1, h2.1, fun c hc => by have := h2.2; rw [hc] at this; exact this⟩

theorem tyOk_of {P : Program} {T : Tab} (h : T.Y.All (TabTy P) (fun k => k)) : TyOk P T := fun t i ht => h.get t i ht
theorem fnsOk_of {P : Program} {T : Tab} {G : Globs} (hx : P.follows .mixedOrders = true) (h : T.F.All (FnOk1 P G) (fun k => k)) : FnsOk P T G := ⟨hx, fun f fn hf => h.get f fn hf⟩
end Go.Abs

/- RUNS IN PARTS: the first statements of a body, then the rest. -/
namespace Go.Abs
/-- the first k statements -/
noncomputable def pre : Nat → Code → Tab → CallF → Nat → Env → ASt → Out
  | 0, _, _, _, _, e, σ => some (.normal, e, σ)
  | k + 1, .seq a b, T, call, lf, e, σ => seqO (runR a T call lf e σ) (pre k b T call lf)
  | _ + 1, _, _, _, _, _, _ => none
/-- what is behind them -/
def rest : Nat → Code → Code
  | 0, c => c
  | k + 1, .seq _ b => rest k b
  | _ + 1, c => c
theorem run_rest {T : Tab} {call : CallF} {lf : Nat} : ∀ (k : Nat) (c : Code) {e e1 : Env} {σ σ1 : ASt}, pre k c T call lf e σ = some (.normal, e1, σ1) → runR c T call lf e σ = runR (rest k c) T call lf e1 σ1
  | 0, c, e, e1, σ, σ1, h => by
    cases (show some (AEx.normal, e, σ) = some (.normal, e1, σ1) from h)
    rfl
  | k + 1, .seq a b, e, e1, σ, σ1, h => by
    have h' : seqO (runR a T call lf e σ) (pre k b T call lf) = some (.normal, e1, σ1) := h
    show seqO (runR a T call lf e σ) (runR b T call lf) = runR (rest k b) T call lf e1 σ1
    cases hr : runR a T call lf e σ with
    | none => rw [hr] at h'; cases h'
    | some p =>
      obtain ⟨x, e2, σ2⟩ := p
      rw [hr] at h'
      cases x with
      | normal =>
        have h2 : pre k b T call lf e2 σ2 = some (.normal, e1, σ1) := h'
        exact run_rest k b h2
      | exit id => cases (show some (AEx.exit id, e2, σ2) = some (.normal, e1, σ1) from h')
      | ret => cases (show some (AEx.ret, e2, σ2) = some (.normal, e1, σ1) from h')
  | _ + 1, .skip, _, _, _, _, h => by cases h
  | _ + 1, .region .., _, _, _, _, h => by cases h
  | _ + 1, .cond .., _, _, _, _, h => by cases h
  | _ + 1, .block .., _, _, _, _, h => by cases h
  | _ + 1, .loop .., _, _, _, _, h => by cases h
  | _ + 1, .rangeFunc .., _, _, _, _, h => by cases h
  | _ + 1, .exit .., _, _, _, _, h => by cases h
  | _ + 1, .scope .., _, _, _, _, h => by cases h
  | _ + 1, .label .., _, _, _, _, h => by cases h
  | _ + 1, .goto .., _, _, _, _, h => by cases h
  | _ + 1, .ret, _, _, _, _, h => by cases h
  | _ + 1, .refuse .., _, _, _, _, h => by cases h
/-- what a body answers that ends so -/
noncomputable def tells (T : Tab) (fn : Func) (o : Out) : Option Bool := andThen2 (ended T fn o) fun v _ => asB v
/-- a call whose body tells true -/
theorem call_true {T : Tab} {lf n : Nat} {f : FuncId} {fn : Func} {c : Code} {args : List Value} {σ : ASt} (hf : T.F.get f = some fn) (hb : fn.body = some c)
    (h : tells T fn (runR c T (callR T lf n) lf (initEnv args 0 .leaf) ⟨σ.heap, σ.next, σ.next, σ.next⟩) = some true) : ∃ σ', callR T lf (n + 1) f args σ = some (.bool true, σ') := by
  obtain ⟨v, σ1, h1, h2⟩ := andThen2_eq (show andThen2 (ended T fn (runR c T (callR T lf n) lf (initEnv args 0 .leaf) ⟨σ.heap, σ.next, σ.next, σ.next⟩)) (fun v _ => asB v) = some true from h)
  have hv := asB_eq h2
  show ∃ σ', andThen (T.F.get f) (fun fn => andThen fn.body fun c => andThen2 (ended T fn (runR c T (callR T lf n) lf (initEnv args 0 .leaf) ⟨σ.heap, σ.next, σ.next, σ.next⟩)) fun v σ' => settle σ v σ') = some (.bool true, σ')
  rw [hf, andThen_some, hb, andThen_some, h1, andThen2_some, hv]
  unfold settle
  rw [iff_eq]
  split
  · exact ⟨_, rfl⟩
  · exact ⟨_, rfl⟩
section
variable {P : Program} {T : Tab} {H : Type} {enc : TypeId × Value → H} {w : World} {D : Nat → Prop}
/-- a law that answers true in the abstract machine answers true in the model -/
theorem abs_trueR (hT : TyOk P T) {G : Globs} (hF : FnsOk P T G) {lf m : Nat} {f : FuncId} {args' : List Value} {base : Nat} {fuel : Nat} {held : Bool} {ts : List TypeId} {ds : List (DataW H)} {ps qs : List MemPlace}
    {xs : List (Nat × TypeId × DataW Unit)} {laid : List (String × DataW Unit)} {gs : List (Nat × List Value)} {n : Nat} {bs bs' : List (List Value)} {vs : List Value} {σ' : ASt}
    (hargs : DataW.TrodAll enc P w base (fun _ => true) held ts args' ds ps) (hok : ∀ (j : Nat) t v, ts[j]? = some t → args'[j]? = some v → Value.okWide P w .any base t v)
    (hxs : VarsAre P xs laid) (hlaid : DataW.LaidVars P w laid qs)
    (h1 : layVars T fuel xs n = some (gs, bs)) (hn : ∀ g c, lookG gs g = some c → g < n) (h2 : layArgs T fuel ts ds (n + bs.length) = some (vs, bs')) (hG : ∀ g, G g = true → (lookG gs g).isSome = true)
    (h : callR T lf m f vs (start gs n (bs ++ bs')) = some (.bool true, σ')) :
    Calls P f ⟨args'⟩ w fun e w' => e = .returned (.bool true) ∧ Go.RowKit.Below w.heap.size w w' := by
  obtain ⟨f1, g1⟩ := vars_ok (w := w) (D := No) hT xs laid n gs bs qs hxs hlaid h1
  obtain ⟨f2, g2⟩ := args_ok (w := w) (D := No) (enc := enc) hT ts ds args' (n + bs.length) vs bs' ps hargs hok h2
  have hf : ∀ π, Agree n (bs ++ bs') (fun k => if k < n + bs.length then f1 k else f2 k) π → Agree n bs f1 π ∧ Agree (n + bs.length) bs' f2 π := fun π hπ =>
    ⟨fun k hk hk2 => (hπ k hk (by simp; omega)).trans (if_pos hk2), fun k hk hk2 => (hπ k (by omega) (by simp; omega)).trans (if_neg (by omega))⟩
  obtain ⟨π, hag, hpre, hro, hgl, _⟩ := start_ok (w := w) (gs := gs) (n := n) (bs := bs ++ bs') hn (fun π hπ => by
    obtain ⟨a, b⟩ := hf π hπ
    obtain ⟨c1, c2⟩ := g1 π a
    exact ⟨c1.append (g2 π b).1, c2⟩)
  have hmono := mono_callR (T := T) m f vs _ _ _ h
  obtain ⟨_, hsim⟩ := sim_callR (lf := lf) hT hF m f vs _ _ _ h
  have := hsim (Nat.le_refl _) π No No (fun _ => none) w args' (fun g hg => by
    have := hG g hg
    cases hl : lookG gs g with
    | none => rw [hl] at this; cases this
    | some c => exact hgl g c hl) (g2 π (hf π hag).2).2 (hpre σ' hmono.next)
  refine this.mono fun e w' ⟨v', π', D', he, hv, hpo⟩ => ?_
  rw [hv.bool_inv] at he
  exact ⟨he, hpo.fr.os, hpo.fr.tape, hpo.fr.output, hpo.fr.size, fun B hB => hpo.fr.keep B hB fun k i hk hro2 => by rw [hro k i hk] at hro2; cases hro2⟩
end
end Go.Abs

/- RUNS THAT TAKE KNOWN CALLS AS THEY ARE KNOWN: a call that has been run is not run again; a long run is so cut at calls. -/
namespace Go.Abs
section
variable {P : Program} {T : Tab} {G : Globs} {call : CallF} {lf : Nat}
/-- one call, its callees by 'call' -/
noncomputable def callStep (T : Tab) (lf : Nat) (call : CallF) : CallF := fun f args σ => andThen (T.F.get f) fun fn => andThen fn.body fun c =>
  andThen2 (ended T fn (runR c T call lf (initEnv args 0 .leaf) ⟨σ.heap, σ.next, σ.next, σ.next⟩)) fun v σ' => settle σ v σ'
theorem callStep_eq {f : FuncId} {args : List Value} {v : Value} {σ σ' : ASt} (h : callStep T lf call f args σ = some (v, σ')) :
    ∃ fn c x e vs σ1, T.F.get f = some fn ∧ fn.body = some c ∧ runR c T call lf (initEnv args 0 .leaf) (reset2 σ) = some (x, e, σ1) ∧ (x = .normal ∨ x = .ret) ∧
      resultsV T σ1 e fn.results.toList = some vs ∧ v = oneOrTuple vs ∧ ((σ' = bump σ σ1.next ∧ σ.next ≤ σ1.low ∧ σ.next ≤ σ1.klow ∧ bareR v = true) ∨ σ' = joined σ σ1) := by
  obtain ⟨fn, h1, h2⟩ := andThen_eq (show andThen (T.F.get f) (fun fn => andThen fn.body fun c => andThen2 (ended T fn (runR c T call lf (initEnv args 0 .leaf) (reset2 σ))) fun v σ' => settle σ v σ') = some (v, σ') from h)
  obtain ⟨c, h3, h4⟩ := andThen_eq h2
  obtain ⟨u, σ1, h5, h6⟩ := andThen2_eq h4
  obtain ⟨x, e, vs, h7, h8, h9, h10⟩ := ended_eq h5
  obtain ⟨rfl, h11⟩ := settle_eq h6
  exact ⟨fn, c, x, e, vs, σ1, h1, h3, h7, h8, h9, h10, h11⟩
theorem mono_step (hmc : MonoF call) : MonoF (callStep T lf call) := fun f args σ v σ' h => by
  obtain ⟨fn, c, x, e, vs, σ1, h1, h2, h3, h4, h5, h6, h7⟩ := callStep_eq h
  have hm : Mono (reset2 σ) σ1 := mono_runR hmc c _ _ _ _ _ h3
  rcases h7 with ⟨rfl, _⟩ | rfl
  · exact ⟨hm.next, Nat.le_refl _, Nat.le_refl _, fun hw k hk => hw k (Nat.le_trans hm.next hk), fun k _ => .refl _ _ _ _⟩
  · exact mono_joined hm
theorem sim_step (hT : TyOk P T) (hF : FnsOk P T G) (hcs : CallSim P G call) (hmc : MonoF call) : CallSimE P G (callStep T lf call) := fun f args σ v σ' h => by
  obtain ⟨fn, c, x, e, vs, σ1, h1, h2, h3, h4, h5, h6, h7⟩ := callStep_eq h
  obtain ⟨g1, g2, g3⟩ := hF.2 f fn h1
  have hm : Mono (reset2 σ) σ1 := mono_runR hmc c _ _ _ _ _ h3
  refine ⟨⟨fn, g1, g2, by rw [h2]; rfl⟩, fun hlow π δ D H w args' hg ha hp => ?_⟩
  have hpre : Pre (reset2 σ) σ1 π δ D H w := by
    rcases h7 with ⟨rfl, h8, h9, _⟩ | rfl
    · exact hp.bumped hm hlow h8 h9
    · exact hp.joined_ hm.next
  refine (callsIn_wide (n := 0)).1 (callsIn_of_wp_marks g1 h2 trivial ?_)
  have hsz : (⟨args'⟩ : Array Value).size = args'.length := rfl
  rw [hsz]
  have hst := EnvR.start ha fn.ntmps
  refine sim_runR (N := args'.length + (fn.ntmps - args'.length)) (B := w.heap.size) hF hT hcs hmc c (codeOk_mono (by omega) c (g3 c h2)) (initEnv args 0 .leaf) (reset2 σ) x e σ1 h3 (Nat.le_refl _) π δ D H w _ [] hpre ⟨hst.size, hst.tmp, hst.defers⟩ trivial (Nat.le_refl _) hg _ fun π' D' w' a' ds' he hmk hpo => ?_
  have hl : LeavesInM Fence.wide 0 P fn a'.tmps (Back σ σ' π δ D H w v) ds' .returning w' := by
    refine leaves_marks ds' w' hmk fun w2 hk hs ho ht hou => ?_
    have hpo2 : Post (reset2 σ) σ1 π δ D H w π' D' w2 := hpo.world (fun k i hki => hk _ (hmk.hid fun hh => hpo.rel.blk_ne hh hki rfl)) (fun B cc hf => hk _ (hmk.hid fun hh => (by
      obtain ⟨o2, g1, g2⟩ := hh
      obtain ⟨el, fz, g3⟩ := hpo.rel.frz B cc hf
      rw [g1] at g3; cases g3; cases g2))) (fun B hB => hk _ (hmk.ne hB)) hs ho ht hou
    have hp2 : Pre σ1 σ1 π' (grow (reset2 σ) σ1 δ) D' H w2 := hpre.second hpo2 (.refl σ1)
    obtain ⟨v', hv1, hv2⟩ := sim_results hT hp2 (a := { tmps := a'.tmps, defers := [] }) (⟨he.size, he.tmp, rfl⟩ : EnvR _ π' D' e { tmps := a'.tmps, defers := [] }) h5
    refine ⟨v', hv1, ?_⟩
    rw [← h6] at hv2
    rcases h7 with ⟨rfl, h8, h9, h10⟩ | rfl
    · obtain ⟨π'', hpo3⟩ := hpo2.dropped hlow h8 h9 hp
      exact ⟨v', π'', D, rfl, bareR_VR h10 hv2, hpo3⟩
    · exact ⟨v', π', D', rfl, hv2, hpo2.joined_⟩
  have hd : a'.defers = ds' := he.keep
  rcases h4 with rfl | rfl
  · show LeavesInM Fence.wide 0 P fn a'.tmps _ a'.defers .returning w'
    rw [hd]; exact hl
  · show LeavesInM Fence.wide 0 P fn a'.tmps _ a'.defers .returning w'
    rw [hd]; exact hl
/-- what is known of one call -/
def CallAt (P : Program) (G : Globs) (f : FuncId) (args : List Value) (σ : ASt) (v : Value) (σ' : ASt) : Prop :=
  Mono σ σ' ∧ Enters P f ∧ (σ.low ≤ σ.next → ∀ π δ D H w args', GlobR G π D → VRs π D args args' → Pre σ σ' π δ D H w → Calls P f ⟨args'⟩ w (Back σ σ' π δ D H w v))
end

/-! ### the same states -/
noncomputable def sameEntry (a b : MapEntry) : Bool := and (sameV (nat_lit 12) a.key b.key) (and (sameV (nat_lit 12) a.val b.val) (Nat.beq a.born b.born))
theorem sameEntry_eq {a b : MapEntry} (h : sameEntry a b = true) : a = b := by
  unfold sameEntry at h
  simp only [Bool.and_eq_true, beq_iff] at h
  obtain ⟨x, y, z⟩ := a
  obtain ⟨x', y', z'⟩ := b
  have h1 := sameV_eq _ _ _ h.1
  have h2 := sameV_eq _ _ _ h.2.1
  have h3 := h.2.2
  simp only at h1 h2 h3
  rw [h1, h2, h3]
noncomputable def sameL {α : Type} (f : α → α → Bool) (a : List α) : List α → Bool :=
  @List.rec α (fun _ => List α → Bool) (fun b => @List.rec α (fun _ => Bool) true (fun _ _ _ => false) b) (fun x _ ih b => @List.rec α (fun _ => Bool) false (fun y b _ => and (f x y) (ih b)) b) a
theorem sameL_eq {α : Type} {f : α → α → Bool} (hf : ∀ x y, f x y = true → x = y) : ∀ {a b : List α}, sameL f a b = true → a = b
  | [], [], _ => rfl
  | [], _ :: _, h => by cases (show false = true from h)
  | _ :: _, [], h => by cases (show false = true from h)
  | x :: a, y :: b, h => by
    have h : (and (f x y) (sameL f a b)) = true := h
    rw [Bool.and_eq_true] at h
    rw [hf x y h.1, sameL_eq hf h.2]
noncomputable def sameObj : AObj → AObj → Bool
  | .cells c e org ro dead, .cells c' e' org' ro' dead' => and (sameVs (sameV (nat_lit 12)) c c') (and (sameOpt e e') (and (Nat.beq org org') (and (ro == ro') (dead == dead'))))
  | .map es c, .map es' c' => and (sameL sameEntry es es') (Nat.beq c c')
  | .iter s p, .iter s' p' => and (sameBytes s s') (Nat.beq p p')
  | _, _ => false
theorem sameObj_eq {a b : AObj} (h : sameObj a b = true) : a = b := by
  unfold sameObj at h
  split at h
  · simp only [Bool.and_eq_true, beq_iff, beq_iff_eq] at h
    rw [sameVs_eq (sameV_eq _) h.1, sameOpt_eq h.2.1, h.2.2.1, h.2.2.2.1, h.2.2.2.2]
  · simp only [Bool.and_eq_true, beq_iff] at h
    rw [sameL_eq (fun x y => sameEntry_eq) h.1, h.2]
  · simp only [Bool.and_eq_true, beq_iff] at h
    have h1 := h.1
    unfold sameBytes at h1
    rw [beq_iff_eq.1 h1, h.2]
  · cases h
noncomputable def sameOp {α : Type} (f : α → α → Bool) (a : Option α) : Option α → Bool :=
  @Option.rec α (fun _ => Option α → Bool) (fun b => @Option.rec α (fun _ => Bool) true (fun _ => false) b) (fun x b => @Option.rec α (fun _ => Bool) false (f x) b) a
theorem sameOp_eq {α : Type} {f : α → α → Bool} (hf : ∀ x y, f x y = true → x = y) {a b : Option α} (h : sameOp f a b = true) : a = b := by
  cases a with
  | none => cases b with
    | none => rfl
    | some y => cases (show false = true from h)
  | some x => cases b with
    | none => cases (show false = true from h)
    | some y => rw [hf x y h]
noncomputable def sameTr {α : Type} (f : α → α → Bool) (a : Tr α) : Tr α → Bool :=
  @Tr.rec α (fun _ => Tr α → Bool) (fun b => @Tr.rec α (fun _ => Bool) true (fun _ _ _ _ _ => false) b)
    (fun _ v _ sl sr b => @Tr.rec α (fun _ => Bool) false (fun l' v' r' _ _ => and (sameOp f v v') (and (sl l') (sr r'))) b) a
theorem sameTr_eq {α : Type} {f : α → α → Bool} (hf : ∀ x y, f x y = true → x = y) : ∀ {a b : Tr α}, sameTr f a b = true → a = b
  | .leaf, .leaf, _ => rfl
  | .leaf, .node _ _ _, h => by cases (show false = true from h)
  | .node _ _ _, .leaf, h => by cases (show false = true from h)
  | .node l v r, .node l' v' r', h => by
    have h : (and (sameOp f v v') (and (sameTr f l l') (sameTr f r r'))) = true := h
    simp only [Bool.and_eq_true] at h
    rw [sameOp_eq hf h.1, sameTr_eq hf h.2.1, sameTr_eq hf h.2.2]
noncomputable def sameSt (a b : ASt) : Bool := and (Nat.beq a.next b.next) (and (Nat.beq a.low b.low) (and (Nat.beq a.klow b.klow) (sameTr sameObj a.heap b.heap)))
theorem sameSt_eq {a b : ASt} (h : sameSt a b = true) : a = b := by
  unfold sameSt at h
  simp only [Bool.and_eq_true, beq_iff] at h
  obtain ⟨w, x, y, z⟩ := a
  obtain ⟨w', x', y', z'⟩ := b
  have h4 := sameTr_eq (fun x y => sameObj_eq) h.2.2.2
  have h1 := h.1
  have h2 := h.2.1
  have h3 := h.2.2.1
  simp only at h1 h2 h3 h4
  rw [h1, h2, h3, h4]

/-! ### known calls -/
structure Known where
  f : FuncId
  args : List Value
  σ : ASt
  v : Value
  σ' : ASt
noncomputable def look (ks : List Known) (f : FuncId) (args : List Value) (σ : ASt) (d : Res) : Res :=
  @List.rec Known (fun _ => Res) d (fun k _ ih => iff (Nat.beq k.f f) (iff (and (sameVs (sameV (nat_lit 12)) k.args args) (sameSt k.σ σ)) (some (k.v, k.σ')) ih) ih) ks
theorem look_eq : ∀ {ks : List Known} {f : FuncId} {args : List Value} {σ : ASt} {d : Res} {v : Value} {σ' : ASt}, look ks f args σ d = some (v, σ') → d = some (v, σ') ∨ ∃ k ∈ ks, k.f = f ∧ k.args = args ∧ k.σ = σ ∧ k.v = v ∧ k.σ' = σ'
  | [], f, args, σ, d, v, σ', h => .inl h
  | k :: ks, f, args, σ, d, v, σ', h => by
    have h : iff (Nat.beq k.f f) (iff (and (sameVs (sameV (nat_lit 12)) k.args args) (sameSt k.σ σ)) (some (k.v, k.σ')) (look ks f args σ d)) (look ks f args σ d) = some (v, σ') := h
    have hr : look ks f args σ d = some (v, σ') → d = some (v, σ') ∨ ∃ k' ∈ k :: ks, k'.f = f ∧ k'.args = args ∧ k'.σ = σ ∧ k'.v = v ∧ k'.σ' = σ' := fun h => by
      rcases look_eq h with h1 | ⟨k', h1, h2⟩
      · exact .inl h1
      · exact .inr ⟨k', List.mem_cons_of_mem _ h1, h2⟩
    rw [iff_eq] at h
    split at h
    · rename_i hf
      rw [iff_eq] at h
      split at h
      · rename_i hs
        rw [Bool.and_eq_true] at hs
        cases h
        exact .inr ⟨k, List.mem_cons_self .., (beq_iff _ _).1 hf, sameVs_eq (sameV_eq _) hs.1, sameSt_eq hs.2, rfl, rfl⟩
      · exact hr h
    · exact hr h
/-- calls, with what is known of some -/
noncomputable def callM (ks : List Known) (T : Tab) (lf : Nat) : Nat → CallF
  | 0, _, _, _ => none
  | n + 1, f, args, σ => look ks f args σ (callStep T lf (callM ks T lf n) f args σ)
def KnownOk (P : Program) (G : Globs) (k : Known) : Prop := CallAt P G k.f k.args k.σ k.v k.σ'
section
variable {P : Program} {T : Tab} {G : Globs} {lf : Nat} {ks : List Known}
theorem callM_ok (hT : TyOk P T) (hF : FnsOk P T G) (hks : ∀ k ∈ ks, KnownOk P G k) : ∀ n, CallSimE P G (callM ks T lf n) ∧ MonoF (callM ks T lf n)
  | 0 => ⟨fun f args σ v σ' h => (by cases (show none = some (v, σ') from h)), fun f args σ v σ' h => (by cases (show none = some (v, σ') from h))⟩
  | n + 1 => by
    obtain ⟨h1, h2⟩ := callM_ok hT hF hks n
    have key : ∀ f args σ v σ', callM ks T lf (n + 1) f args σ = some (v, σ') → CallAt P G f args σ v σ' := fun f args σ v σ' h => by
      rcases look_eq (show look ks f args σ (callStep T lf (callM ks T lf n) f args σ) = some (v, σ') from h) with h3 | ⟨k, hk, rfl, rfl, rfl, rfl, rfl⟩
      · exact ⟨mono_step h2 _ _ _ _ _ h3, sim_step hT hF h1.sim h2 _ _ _ _ _ h3⟩
      · exact hks k hk
    exact ⟨fun f args σ v σ' h => (key f args σ v σ' h).2, fun f args σ v σ' h => (key f args σ v σ' h).1⟩
/-- does a run end so? -/
noncomputable def ends (o : Res) (v : Value) (σ : ASt) : Bool := @Option.rec (Value × ASt) (fun _ => Bool) false (fun p => and (sameV (nat_lit 12) v p.1) (sameSt σ p.2)) o
theorem ends_eq {o : Res} {v : Value} {σ : ASt} (h : ends o v σ = true) : o = some (v, σ) := by
  cases o with
  | none => cases (show false = true from h)
  | some p =>
    have h : and (sameV (nat_lit 12) v p.1) (sameSt σ p.2) = true := h
    rw [Bool.and_eq_true] at h
    obtain ⟨a, b⟩ := p
    rw [sameV_eq _ _ _ h.1, sameSt_eq h.2]
noncomputable def runsSo (ks : List Known) (T : Tab) (lf n : Nat) (k : Known) : Bool := ends (callM ks T lf n k.f k.args k.σ) k.v k.σ'
/-- **a call that has been run is known** -/
theorem known (hT : TyOk P T) (hF : FnsOk P T G) (hks : ∀ k ∈ ks, KnownOk P G k) {n : Nat} {k : Known} (h : runsSo ks T lf n k = true) : KnownOk P G k :=
  have h := ends_eq h
  ⟨(callM_ok hT hF hks n).2 _ _ _ _ _ h, (callM_ok hT hF hks n).1 _ _ _ _ _ h⟩
theorem all_nil {p : Known → Prop} : ∀ k ∈ ([] : List Known), p k := fun _ h => by cases h
theorem all_cons {p : Known → Prop} {a : Known} {l : List Known} (h : p a) (hl : ∀ k ∈ l, p k) : ∀ k ∈ a :: l, p k := fun k hk => by
  rcases List.mem_cons.1 hk with rfl | hk
  · exact h
  · exact hl k hk
/-- does a run tell true? -/
noncomputable def tellsM (o : Res) : Bool := @Option.rec (Value × ASt) (fun _ => Bool) false (fun p => @Option.rec Bool (fun _ => Bool) false (fun b => b) (asB p.1)) o
theorem tellsM_eq {o : Res} (h : tellsM o = true) : ∃ σ, o = some (.bool true, σ) := by
  cases o with
  | none => cases (show false = true from h)
  | some p =>
    obtain ⟨v, σ⟩ := p
    have h : @Option.rec Bool (fun _ => Bool) false (fun b => b) (asB v) = true := h
    cases hb : asB v with
    | none => rw [hb] at h; cases h
    | some b =>
      rw [hb] at h
      have h : b = true := h
      rw [asB_eq hb, h]
      exact ⟨σ, rfl⟩
/-- **a law whose run tells true, known calls taken as they are known** -/
theorem abs_trueM {H : Type} {enc : TypeId × Value → H} {w : World} (hT : TyOk P T) (hF : FnsOk P T G) (hks : ∀ k ∈ ks, KnownOk P G k) {m : Nat} {f : FuncId} {args' : List Value} {base : Nat} {fuel : Nat} {held : Bool} {ts : List TypeId} {ds : List (DataW H)} {ps qs : List MemPlace}
    {xs : List (Nat × TypeId × DataW Unit)} {laid : List (String × DataW Unit)} {gs : List (Nat × List Value)} {n : Nat} {bs bs' : List (List Value)} {vs : List Value}
    (hargs : DataW.TrodAll enc P w base (fun _ => true) held ts args' ds ps) (hok : ∀ (j : Nat) t v, ts[j]? = some t → args'[j]? = some v → Value.okWide P w .any base t v)
    (hxs : VarsAre P xs laid) (hlaid : DataW.LaidVars P w laid qs)
    (h1 : layVars T fuel xs n = some (gs, bs)) (hn : ∀ g c, lookG gs g = some c → g < n) (h2 : layArgs T fuel ts ds (n + bs.length) = some (vs, bs')) (hG : ∀ g, G g = true → (lookG gs g).isSome = true)
    (h : tellsM (callM ks T lf m f vs (start gs n (bs ++ bs'))) = true) :
    Calls P f ⟨args'⟩ w fun e w' => e = .returned (.bool true) ∧ Go.RowKit.Below w.heap.size w w' := by
  obtain ⟨σ', h⟩ := tellsM_eq h
  obtain ⟨f1, g1⟩ := vars_ok (w := w) (D := No) hT xs laid n gs bs qs hxs hlaid h1
  obtain ⟨f2, g2⟩ := args_ok (w := w) (D := No) (enc := enc) hT ts ds args' (n + bs.length) vs bs' ps hargs hok h2
  have hf : ∀ π, Agree n (bs ++ bs') (fun k => if k < n + bs.length then f1 k else f2 k) π → Agree n bs f1 π ∧ Agree (n + bs.length) bs' f2 π := fun π hπ =>
    ⟨fun k hk hk2 => (hπ k hk (by simp; omega)).trans (if_pos hk2), fun k hk hk2 => (hπ k (by omega) (by simp; omega)).trans (if_neg (by omega))⟩
  obtain ⟨π, hag, hpre, hro, hgl, _⟩ := start_ok (w := w) (gs := gs) (n := n) (bs := bs ++ bs') hn (fun π hπ => by
    obtain ⟨a, b⟩ := hf π hπ
    obtain ⟨c1, c2⟩ := g1 π a
    exact ⟨c1.append (g2 π b).1, c2⟩)
  obtain ⟨hsims, hmonos⟩ := callM_ok (lf := lf) hT hF hks m
  have hmono := hmonos f vs _ _ _ h
  obtain ⟨_, hsim⟩ := hsims f vs _ _ _ h
  have := hsim (Nat.le_refl _) π No No (fun _ => none) w args' (fun g hg => by
    have := hG g hg
    cases hl : lookG gs g with
    | none => rw [hl] at this; cases this
    | some c => exact hgl g c hl) (g2 π (hf π hag).2).2 (hpre σ' hmono.next)
  refine this.mono fun e w' ⟨v', π', D', he, hv, hpo⟩ => ?_
  rw [hv.bool_inv] at he
  exact ⟨he, hpo.fr.os, hpo.fr.tape, hpo.fr.output, hpo.fr.size, fun B hB => hpo.fr.keep B hB fun k i hk hro2 => by rw [hro k i hk] at hro2; cases hro2⟩
end
end Go.Abs

/- A LOGIC OF CODE OVER STATES OF THE ABSTRACT MACHINE: straight code is run, loops are cut. -/
namespace Go.Abs
open Go.RowKit

/-! ### what stands behind a state -/

structure Rep (S : Nat → Bool) (A : PMap) (w₀ : World) (σ : ASt) (π : PMap) (D : Nat → Prop) (w : World) : Prop where
  rel : Rel π (deadIn σ) D (ext σ fun _ => none) w
  wf : WF σ
  low : σ.low ≤ σ.next
  dom : ∀ k i, π k = some i → k < σ.next
  dead : ∀ k, D k → deadIn σ k
  own : ∀ k i, π k = some i → i.ro = false → w₀.heap.size ≤ i.blk
  old : Below w₀.heap.size w₀ w
  /-- the blocks that S names lie where they lay, and are read alone -/
  anc : ∀ k, S k = true → π k = A k ∧ ∃ c e, σ.obj k = some (.cells c e k true false)
  /-- what was data at first is data still, and all other data is new -/
  fra : ∀ B cc, A.fr B = some cc → π.fr B = some cc
  frn : ∀ B cc, π.fr B = some cc → A.fr B = some cc ∨ w₀.heap.size ≤ B

theorem Rep.pre {S : Nat → Bool} {A : PMap} {w₀ : World} {σ σ' : ASt} {π : PMap} {D : Nat → Prop} {w : World} (h : Rep S A w₀ σ π D w) (hn : σ.next ≤ σ'.next) : Pre σ σ' π (deadIn σ) D (fun _ => none) w :=
  ⟨h.rel, h.wf, hn, fun k hk _ => by
    cases hp : π k with
    | none => rfl
    | some i => have := h.dom k i hp; omega, fun k hk => .inl (deadIn_lt h.wf hk), fun k i hd _ => .inr ⟨deadIn_lt h.wf hd, .inl hd⟩, fun k i hk h1 => by have := h.dom k i hk; omega, fun k hk => .inl (h.dead k hk)⟩

theorem Rep.post {S : Nat → Bool} {A : PMap} {w₀ : World} {σ σ' : ASt} {π π' : PMap} {D D' : Nat → Prop} {w w' : World} (h : Rep S A w₀ σ π D w) (p : Post σ σ' π (deadIn σ) D (fun _ => none) w π' D' w') : Rep S A w₀ σ' π' D' w' := by
  have hwf := p.mono.wf h.wf
  refine ⟨p.rel.weaken fun k hk => ?_, hwf, Nat.le_trans p.mono.low (Nat.le_trans h.low p.mono.next), fun k i hk => ?_, fun k hk => ?_, fun k i hk hr => ?_, ?_, fun k hk => ?_, fun B cc hf => p.frs.1 B cc (h.fra B cc hf), fun B cc hf => ?_⟩
  · rcases hk with hk | hk
    · exact p.mono.dead h.wf hk
    · exact hk.1
  · rcases p.sub k i hk with h1 | h1
    · exact Nat.lt_of_lt_of_le (h.dom k i h1) p.mono.next
    · exact h1.2.2
  · rcases p.dnew k hk with h1 | h1
    · exact p.mono.dead h.wf (h.dead k h1)
    · exact h1.1
  · rcases p.blk k i hk hr with ⟨k₀, i₀, h1, h2, h3⟩ | h1
    · rw [← h3]; exact h.own k₀ i₀ h1 h2
    · exact Nat.le_trans h.old.size h1
  · refine h.old.trans ⟨p.fr.os, p.fr.tape, p.fr.output, p.fr.size, fun B hB => p.fr.keep B (Nat.lt_of_lt_of_le hB h.old.size) fun k i hk hr hb => ?_⟩
    have := h.own k i hk hr
    omega
  · obtain ⟨h1, c, e, h2⟩ := h.anc k hk
    have hlt : k < σ.next := by
      rcases Nat.lt_or_ge k σ.next with h3 | h3
      · exact h3
      · rw [h.wf k h3] at h2; cases h2
    have hs := p.mono.step k hlt
    rw [h2] at hs
    generalize ho : σ'.obj k = o' at hs
    cases hs with
    | cells hl hd hr hlow hk2 =>
      obtain ⟨rfl, rfl⟩ := hr rfl
      refine ⟨?_, _, _, rfl⟩
      rw [← h1]
      cases hπ : π k with
      | some i =>
        rcases p.kept k i hπ with h4 | ⟨_, h4, _⟩
        · exact h4
        · exfalso
          rcases p.dnew k h4 with h5 | ⟨⟨o, h5, h6⟩, _⟩
          · obtain ⟨o, h5, h6⟩ := h.dead k h5
            rw [h2] at h5; cases h5; cases h6
          · rw [ho] at h5; cases h5; cases h6
      | none =>
        cases hπ' : π' k with
        | none => rfl
        | some i =>
          rcases p.sub k i hπ' with h4 | ⟨_, h4, _⟩
          · rw [hπ] at h4; cases h4
          · omega
    | other h3 h0 _ => simp [kindOf] at h0
  · rcases p.frs.2 B cc hf with h1 | h1
    · exact h.frn B cc h1
    · exact .inr (Nat.le_trans h.old.size h1)

/-- the counts of what was written are no part of it -/
def norm (σ : ASt) : ASt := ⟨σ.heap, σ.next, σ.next, σ.next⟩
theorem Rep.norm_ {S : Nat → Bool} {A : PMap} {w₀ : World} {σ : ASt} {π : PMap} {D : Nat → Prop} {w : World} (h : Rep S A w₀ σ π D w) : Rep S A w₀ (norm σ) π D w := ⟨h.rel, h.wf, Nat.le_refl _, h.dom, h.dead, h.own, h.old, h.anc, h.fra, h.frn⟩

/-! ### triples -/

def TriC (P : Program) (G : Globs) (S : Nat → Bool) (N : Nat) (c : Code) (e : Env) (σ : ASt) (Q : AEx → Env → ASt → Prop) : Prop :=
  ∀ (A : PMap) (w₀ : World) (π : PMap) (D : Nat → Prop) (w : World) (a : Act) (M : Exit → Act → World → Prop), Rep S A w₀ σ π D w → EnvR N π D e a → GlobR G π D →
    (∀ x e' σ' π' D' w' a', Q x e' σ' → Rep S A w₀ σ' π' D' w' → EnvR N π' D' e' a' → GlobR G π' D' → M (exitOf x) a' w') → c.wp P M a w

section
variable {P : Program} {G : Globs} {S : Nat → Bool} {N : Nat} {T : Tab} {call : CallF} {lf : Nat} {e : Env} {σ : ASt} {Q : AEx → Env → ASt → Prop}

theorem TriC.mono {c : Code} {Q' : AEx → Env → ASt → Prop} (h : TriC P G S N c e σ Q) (hq : ∀ x e σ, Q x e σ → Q' x e σ) : TriC P G S N c e σ Q' :=
  fun A w₀ π D w a M hr he hg hm => h A w₀ π D w a M hr he hg fun x e' σ' π' D' w' a' hx => hm x e' σ' π' D' w' a' (hq _ _ _ hx)

theorem tri_run {c : Code} {run : Env → ASt → Out} (hs : CodeSim P G N c run) (hm : ∀ e σ x e' σ', run e σ = some (x, e', σ') → Mono σ σ') {x : AEx} {e' : Env} {σ' : ASt} (h : run e σ = some (x, e', σ')) (hq : Q x e' σ') : TriC P G S N c e σ Q :=
  fun _A _w₀ π D w a _M hr he hg hM => hs e σ x e' σ' h hr.low π (deadIn σ) D (fun _ => none) w a (hr.pre (hm _ _ _ _ _ h).next) he hg _ fun π' D' w' a' he' hpo =>
    hM x e' σ' π' D' w' a' hq (hr.post hpo) he' (hg.mono (hpo.pstep (hr.pre (hm _ _ _ _ _ h).next)))

theorem tri_norm {c : Code} (h : TriC P G S N c e (norm σ) Q) : TriC P G S N c e σ Q := fun A w₀ π D w a M hr he hg hm => h A w₀ π D w a M hr.norm_ he hg hm

theorem tri_env {c : Code} {e' : Env} (he : ∀ t, e'.get t = e.get t) (h : TriC P G S N c e' σ Q) : TriC P G S N c e σ Q := fun A w₀ π D w a M hr hea hg hm => h A w₀ π D w a M hr (hea.congr he) hg hm

theorem tri_skip (h : Q .normal e σ) : TriC P G S N .skip e σ Q := fun _ _ π D w a _ hr he hg hm => wp_skip (hm .normal e σ π D w a h hr he hg)
theorem tri_ret (h : Q .ret e σ) : TriC P G S N .ret e σ Q := fun _ _ π D w a _ hr he hg hm => wp_ret (hm .ret e σ π D w a h hr he hg)
theorem tri_exit {id : Nat} (h : Q (.exit id) e σ) : TriC P G S N (.exit id) e σ Q := fun _ _ π D w a _ hr he hg hm => wp_exit (hm (.exit id) e σ π D w a h hr he hg)
theorem tri_label {id : Nat} (h : Q .normal e σ) : TriC P G S N (.label id) e σ Q := fun _ _ π D w a _ hr he hg hm => wp_label (hm .normal e σ π D w a h hr he hg)

/-- behind the first of two -/
noncomputable def thenQ (k : Env → ASt → Prop) (Q : AEx → Env → ASt → Prop) (x : AEx) (e : Env) (σ : ASt) : Prop := @AEx.rec (fun _ => Prop) (k e σ) (fun id => Q (.exit id) e σ) (Q .ret e σ) x

theorem tri_seq {a b : Code} (h : TriC P G S N a e σ (thenQ (fun e σ => TriC P G S N b e σ Q) Q)) : TriC P G S N (.seq a b) e σ Q := by
  intro A w₀ π D w act M hr he hg hm
  apply wp_seq
  refine h A w₀ π D w act _ hr he hg fun x e' σ' π' D' w' a' hx hr' he' hg' => ?_
  cases x with
  | normal => exact hx A w₀ π' D' w' a' M hr' he' hg' hm
  | exit id => exact hm _ _ _ _ _ _ _ hx hr' he' hg'
  | ret => exact hm _ _ _ _ _ _ _ hx hr' he' hg'

theorem tri_cond {c : Operand} {a b : Code} {t : Bool} (hc : asB (env e c) = some t) (hok : opndOk G c = true) (h1 : t = true → TriC P G S N a e σ Q) (h2 : t = false → TriC P G S N b e σ Q) : TriC P G S N (.cond c a b) e σ Q := by
  intro A w₀ π D w act M hr he hg hm
  have hcv := he.eval hg hok
  rw [asB_eq hc] at hcv
  refine wp_cond hcv.bool_inv ?_
  cases t with
  | true => exact h1 rfl A w₀ π D w act M hr he hg hm
  | false => exact h2 rfl A w₀ π D w act M hr he hg hm

theorem tri_block {id : Nat} {c : Code} (h : TriC P G S N c e σ (fun x => Q (leaves id x))) : TriC P G S N (.block id c) e σ Q := by
  intro A w₀ π D w act M hr he hg hm
  apply wp_block
  refine h A w₀ π D w act _ hr he hg fun x e' σ' π' D' w' a' hx hr' he' hg' => ?_
  have hM := hm _ _ _ _ _ _ _ hx hr' he' hg'
  cases x with
  | normal => exact hM
  | ret => exact hM
  | exit id' =>
    show (if id' = id then M .normal a' w' else M (.exit id') a' w')
    have h2 : M (exitOf (iff (Nat.beq id' id) .normal (.exit id'))) a' w' := hM
    rw [iff_eq] at h2
    by_cases hid : id' = id
    · rw [if_pos ((beq_iff _ _).2 hid)] at h2
      rw [if_pos hid]; exact h2
    · rw [if_neg fun h => hid ((beq_iff _ _).1 h)] at h2
      rw [if_neg hid]; exact h2

theorem tri_scope {c : Code} (h : TriC P G S N c e σ Q) : TriC P G S N (.scope c) e σ Q := by
  intro A w₀ π D w act M hr he hg hm
  apply wp_scope_straight
  refine h A w₀ π D w act _ hr he hg fun x e' σ' π' D' w' a' hx hr' he' hg' => ?_
  have hM := hm _ _ _ _ _ _ _ hx hr' he' hg'
  cases x <;> exact hM

theorem tri_loop {c : Code} (In : Nat → Env → ASt → Prop) (round : ∀ n e σ, In n e σ → TriC P G S N c e σ (thenQ (fun e σ => ∃ m, m < n ∧ In m e σ) Q)) {n : Nat} (h : In n e σ) : TriC P G S N (.loop c) e σ Q := by
  intro A w₀ π D w act M hr he hg hm
  refine wp_iter (fun m a w => ∃ n e σ π D, n < m ∧ In n e σ ∧ Rep S A w₀ σ π D w ∧ EnvR N π D e a ∧ GlobR G π D) ?_ ?_ (n + 1) act w ⟨n, e, σ, π, D, Nat.lt_succ_self n, h, hr, he, hg⟩
  · rintro a w ⟨n, _, _, _, _, h0, _⟩; omega
  · rintro m a w ⟨n, e, σ, π, D, hnm, hI, hr, he, hg⟩
    refine round n e σ hI A w₀ π D w a _ hr he hg fun x e' σ' π' D' w' a' hx hr' he' hg' => ?_
    cases x with
    | normal =>
      obtain ⟨k, hk, hI'⟩ := hx
      exact ⟨k, e', σ', π', D', by omega, hI', hr', he', hg'⟩
    | exit id => exact hm _ _ _ _ _ _ _ hx hr' he' hg'
    | ret => exact hm _ _ _ _ _ _ _ hx hr' he' hg'
end

/-! ### the same state under other numbers, and less of it -/

/-- a block of the part lies in a block of the whole, from a cell on; what the part has as data ('fz': blocks of the whole, by their cells); whether the part is told of the whole ('inn'), and whether data is told of ('dt') -/
structure Ren where
  loc : Nat → Option (Nat × Nat)
  fz : Nat → Option (List Value)
  inn : Bool
  dt : Bool
instance : CoeFun Ren (fun _ => Nat → Option (Nat × Nat)) := ⟨Ren.loc⟩

inductive VA (ι : Ren) : Value → Value → Prop
  | bool (b : Bool) : VA ι (.bool b) (.bool b)
  | int (k : IntKind) (n : Int) : VA ι (.int k n) (.int k n)
  | float (k : FloatKind) (b : Nat) : VA ι (.float k b) (.float k b)
  | complex (k : FloatKind) (x y : Nat) : VA ι (.complex k x y) (.complex k x y)
  | string (s : ByteArray) : VA ι (.string s) (.string s)
  | ptr0 : VA ι (.pointer none) (.pointer none)
  | ptr {b off off' : Nat} {s : Option Nat} {k sh : Nat} (h : ι b = some (k, sh)) (ho : off' = sh + off) : VA ι (.pointer (some ⟨b, off, s⟩)) (.pointer (some ⟨k, off', s⟩))
  | sl0 (n c : Nat) : VA ι (.slice none n c) (.slice none n c)
  | sl {b off off' : Nat} {s : Option Nat} {k sh : Nat} (n c : Nat) (h : ι b = some (k, sh)) (ho : off' = sh + off) : VA ι (.slice (some ⟨b, off, s⟩) n c) (.slice (some ⟨k, off', s⟩) n c)
  | slz (a a' : Addr) (h : a.spot = none) (h' : a'.spot = none) : VA ι (.slice (some a) 0 0) (.slice (some a') 0 0)
  | map0 : VA ι (.map none) (.map none)
  | map {r k sh : Nat} (h : ι r = some (k, sh)) : VA ι (.map (some r)) (.map (some k))
  | func (fn : Fn) {f c f' c' : List Value} (hf : f.length = f'.length) (hfs : ∀ (i : Nat) v v', f[i]? = some v → f'[i]? = some v' → VA ι v v')
      (hc : c.length = c'.length) (hcs : ∀ (i : Nat) v v', c[i]? = some v → c'[i]? = some v' → VA ι v v') : VA ι (.func fn ⟨f⟩ ⟨c⟩) (.func fn ⟨f'⟩ ⟨c'⟩)
  | nilFunc : VA ι .nilFunc .nilFunc
  | iface (t : TypeId) {v v' : Value} (h : VA ι v v') : VA ι (.iface t v) (.iface t v')
  | nilIface : VA ι .nilIface .nilIface
  | agg {c c' : List Value} (hc : c.length = c'.length) (hcs : ∀ (i : Nat) v v', c[i]? = some v → c'[i]? = some v' → VA ι v v') : VA ι (.agg ⟨c⟩) (.agg ⟨c'⟩)
  | tuple {c c' : List Value} (h1 : isDatL c = false) (h1' : isDatL c' = false) (hc : c.length = c'.length) (hcs : ∀ (i : Nat) v v', c[i]? = some v → c'[i]? = some v' → VA ι v v') : VA ι (.tuple ⟨c⟩) (.tuple ⟨c'⟩)
  | data (rows : List Value) (hd : ι.dt = true) : VA ι (dat rows) (dat rows)
  | dataP (cs : List Value) (hd : ι.dt = true) : VA ι (datP cs) (datP cs)
  | nil0 (c : Nat) (hi : ι.inn = true) : VA ι (dat []) (.slice none 0 c)
  | fz {rows cs cs' cells : List Value} {z b off n c : Nat} {s : Option Nat} (hi : ι.inn = true) (hF : ι.fz b = some cells) (hr : RowsAre z rows cs) (hn : rows.length = n) (hw : Win cells off cs') (h1 : ∀ v ∈ cs, closed1 v = true) (hl : cs.length = cs'.length)
      (hcs : ∀ (i : Nat) v v', cs[i]? = some v → cs'[i]? = some v' → VA ι v v') : VA ι (dat rows) (.slice (some ⟨b, off, s⟩) n c)
  | fzP {cs cs' cells : List Value} {b off : Nat} (hi : ι.inn = true) (hF : ι.fz b = some cells) (hw : Win cells off cs') (h1 : ∀ v ∈ cs, closed1 v = true) (hl : cs.length = cs'.length)
      (hcs : ∀ (i : Nat) v v', cs[i]? = some v → cs'[i]? = some v' → VA ι v v') : VA ι (datP cs) (.pointer (some ⟨b, off, none⟩))

def VAs (ι : Ren) (l l' : List Value) : Prop := l.length = l'.length ∧ ∀ (i : Nat) v v', l[i]? = some v → l'[i]? = some v' → VA ι v v'
theorem VAs.nil {ι : Ren} : VAs ι [] [] := ⟨rfl, fun i v v' h _ => by simp at h⟩
theorem VAs.cons {ι : Ren} {v v' : Value} {l l' : List Value} (h : VA ι v v') (hl : VAs ι l l') : VAs ι (v :: l) (v' :: l') :=
  ⟨by simp [hl.1], fun i u u' h1 h2 => by
    cases i with
    | zero => simp at h1 h2; subst h1; subst h2; exact h
    | succ i => simp at h1 h2; exact hl.2 i u u' h1 h2⟩
theorem VAs.append {ι : Ren} {l l' m m' : List Value} (h : VAs ι l l') (h' : VAs ι m m') : VAs ι (l ++ m) (l' ++ m') :=
  ⟨by simp [h.1, h'.1], fun i v v' h1 h2 => by
    by_cases hi : i < l.length
    · rw [List.getElem?_append_left hi] at h1
      rw [List.getElem?_append_left (h.1 ▸ hi)] at h2
      exact h.2 i v v' h1 h2
    · rw [List.getElem?_append_right (by omega)] at h1
      rw [List.getElem?_append_right (by have := h.1; omega), ← h.1] at h2
      exact h'.2 _ v v' h1 h2⟩
theorem VAs.agg {ι : Ren} {l l' : List Value} (h : VAs ι l l') : VA ι (.agg ⟨l⟩) (.agg ⟨l'⟩) := .agg h.1 h.2
theorem VAs.tuple {ι : Ren} {l l' : List Value} (h1 : isDatL l = false) (h1' : isDatL l' = false) (h : VAs ι l l') : VA ι (.tuple ⟨l⟩) (.tuple ⟨l'⟩) := .tuple h1 h1' h.1 h.2
theorem VAs.get {ι : Ren} {l l' : List Value} (h : VAs ι l l') {i : Nat} {v : Value} (hv : l[i]? = some v) : ∃ v', l'[i]? = some v' ∧ VA ι v v' := by
  have hi : i < l.length := (List.getElem?_eq_some_iff.1 hv).1
  have hi' : i < l'.length := h.1 ▸ hi
  exact ⟨l'[i], by rw [List.getElem?_eq_getElem hi'], h.2 i v _ hv (by rw [List.getElem?_eq_getElem hi'])⟩
theorem VAs.tget {ι : Ren} {l l' : List Value} (h : VAs ι l l') {i : Nat} {v' : Value} (hv : l'[i]? = some v') : ∃ v, l[i]? = some v ∧ VA ι v v' := by
  have hi : i < l'.length := (List.getElem?_eq_some_iff.1 hv).1
  have hi' : i < l.length := h.1 ▸ hi
  exact ⟨l[i], by rw [List.getElem?_eq_getElem hi'], h.2 i _ v' (by rw [List.getElem?_eq_getElem hi']) hv⟩

theorem VA.oneCell {ι : Ren} {v v' : Value} (h : VA ι v v') : oneA v' = oneA v := by
  cases h
  case tuple h1 h1' _ _ =>
    show (false || isDatL _) = (false || isDatL _)
    rw [h1, h1']
  all_goals rfl
theorem VAs.oneCells {ι : Ren} {l l' : List Value} (h : VAs ι l l') (h1 : ∀ v ∈ l', oneA v = true) : ∀ v ∈ l, oneA v = true := by
  intro v hv
  obtain ⟨i, hi, rfl⟩ := List.getElem_of_mem hv
  obtain ⟨v', h2, h3⟩ := h.get (List.getElem?_eq_getElem hi)
  rw [← h3.oneCell]
  exact h1 _ (List.mem_of_getElem? h2)
theorem VAs.oneCells' {ι : Ren} {l l' : List Value} (h : VAs ι l l') (h1 : ∀ v ∈ l, oneA v = true) : ∀ v ∈ l', oneA v = true := by
  intro v hv
  obtain ⟨i, hi, rfl⟩ := List.getElem_of_mem hv
  obtain ⟨v', h2, h3⟩ := h.tget (List.getElem?_eq_getElem hi)
  rw [h3.oneCell]
  exact h1 _ (List.mem_of_getElem? h2)

/-- where there is no address there is nothing to name anew -/
theorem VA.bare {ι : Ren} {v : Value} (h : Abs.bare v = true) : VA ι v v := by
  cases v <;> simp only [Abs.bare, reduceCtorEq] at h
  case bool b => exact .bool b
  case int k n => exact .int k n
  case string s => exact .string s
  case nilIface => exact .nilIface
  case nilFunc => exact .nilFunc
  case pointer a => cases a <;> simp only [reduceCtorEq] at h; exact .ptr0
  case slice a n c => cases a <;> simp only [reduceCtorEq] at h; exact .sl0 n c
  case map a => cases a <;> simp only [reduceCtorEq] at h; exact .map0
theorem VAs.bare {ι : Ren} : ∀ {l : List Value}, (∀ v ∈ l, Abs.bare v = true) → VAs ι l l
  | [], _ => .nil
  | v :: _, h => .cons (VA.bare (h v (by simp))) (VAs.bare fun u hu => h u (by simp [hu]))

/-- entries of a map -/
def EntsA (ι : Ren) (es es' : List MapEntry) : Prop := es.length = es'.length ∧ ∀ (i : Nat) e e', es[i]? = some e → es'[i]? = some e' → VA ι e.key e'.key ∧ VA ι e.val e'.val ∧ e.born = e'.born
/-- one object of the part: cells, as the whole has them; what may be written is there whole; a map, with all its entries -/
def ObjA (ι : Ren) (k sh : Nat) : AObj → AObj → Prop
  | .cells c e org ro d, .cells c' e' _ ro' d' => d = false ∧ d' = false ∧ org = k ∧ e = e' ∧ sh + c.length ≤ c'.length ∧ VAs ι c ((c'.drop sh).take c.length) ∧ (ro = false → ro' = false ∧ sh = 0 ∧ c.length = c'.length)
  | .map es cl, .map es' cl' => sh = 0 ∧ cl = cl' ∧ EntsA ι es es'
  | _, _ => False
/-- may it be read alone? how many cells has it? -/
def roOf : AObj → Bool
  | .cells _ _ _ ro _ => ro
  | _ => false
def lenOf : AObj → Nat
  | .cells c _ _ _ _ => c.length
  | _ => 0
def isIter : AObj → Bool
  | .iter _ _ => true
  | _ => false

theorem ObjA.inv {ι : Ren} {k sh : Nat} {c : List Value} {e : Option Nat} {org : Nat} {ro d : Bool} {o' : AObj} (h : ObjA ι k sh (.cells c e org ro d) o') :
    d = false ∧ org = k ∧ ∃ c' org' ro', o' = .cells c' e org' ro' false ∧ sh + c.length ≤ c'.length ∧ VAs ι c ((c'.drop sh).take c.length) ∧ (ro = false → ro' = false ∧ sh = 0 ∧ c.length = c'.length) := by
  cases o' with
  | cells c' e' org' ro' d' =>
    obtain ⟨rfl, rfl, rfl, rfl, h0, h1, h2⟩ := h
    exact ⟨rfl, rfl, c', org', ro', rfl, h0, h1, h2⟩
  | _ => exact h.elim
theorem ObjA.minv {ι : Ren} {k sh : Nat} {es : List MapEntry} {cl : Nat} {o' : AObj} (h : ObjA ι k sh (.map es cl) o') : ∃ es', o' = .map es' cl ∧ sh = 0 ∧ EntsA ι es es' := by
  cases o' with
  | map es' cl' =>
    obtain ⟨h0, rfl, h1⟩ := h
    exact ⟨es', rfl, h0, h1⟩
  | _ => exact h.elim
theorem ObjA.alive {ι : Ren} {k sh : Nat} {o o' : AObj} (h : ObjA ι k sh o o') : isDead o' = false ∧ isIter o = false ∧ (roOf o = false → roOf o' = false) := by
  cases o with
  | cells c e org ro d =>
    obtain ⟨_, _, c', org', ro', rfl, _, _, h2⟩ := h.inv
    exact ⟨rfl, rfl, fun hro => (h2 hro).1⟩
  | map es cl =>
    obtain ⟨es', rfl, _⟩ := h.minv
    exact ⟨rfl, rfl, fun _ => rfl⟩
  | iter s p => cases o' <;> exact h.elim

/-- a part of a state, under its own numbers -/
structure Match (S : Nat → Bool) (G : Globs) (ι : Ren) (e : Env) (σ : ASt) (ec : Env) (σc : ASt) : Prop where
  low : σc.low ≤ σc.next
  wf : WF σc
  inj : ∀ k₁ k₂ k s₁ s₂, ι k₁ = some (k, s₁) → ι k₂ = some (k, s₂) → k₁ = k₂
  obj : ∀ k o, σc.obj k = some o → ∃ k' sh o', ι k = some (k', sh) ∧ σ.obj k' = some o' ∧ ObjA ι k sh o o'
  env : ∀ t v, ec.get t = some v → ∃ v', e.get t = some v' ∧ VA ι v v'
  dom : ∀ k p, ι k = some p → (σc.obj k).isSome = true
  glob : ∀ g, G g = true → ι g = some (g, 0)
  anc : ∀ k, S k = true → ι k = some (k, 0) ∧ σc.obj k = σ.obj k
  fz : ∀ b cells, ι.fz b = some cells → (∃ e org, σ.obj b = some (.cells cells e org false false)) ∧ ∀ k sh, ι k ≠ some (b, sh)

section
variable {P : Program} {G : Globs} {S : Nat → Bool} {N : Nat} {ι : Ren} {π πc : PMap} {D Dc : Nat → Prop}

/-- where a block of the part lies, by where the whole's lies -/
def PI.at (i : PI) (k sh : Nat) (ro : Bool) (len : Nat) : PI := ⟨i.blk, i.sh + sh, i.bsize, i.esz, k, ro, len⟩

/-- the part's places, as far as they are known of the whole -/
structure RenP (ι : Ren) (π : PMap) (D : Nat → Prop) (πc : PMap) : Prop where
  loc : ∀ k k' sh, ι k = some (k', sh) → ¬ D k' ∧ ∀ i, π k' = some i → ∃ ic, πc k = some ic ∧ ic.blk = i.blk ∧ ic.sh = i.sh + sh ∧ ic.bsize = i.bsize ∧ ic.esz = i.esz
  fr : ∀ B cc, π.fr B = some cc → πc.fr B = some cc
  fz : ∀ b cells, ι.fz b = some cells → ¬ D b ∧ ∀ i, π b = some i → ∃ cc, πc.fr i.blk = some cc ∧ i.sh + cells.length ≤ cc.length ∧ VRs π D cells ((cc.drop i.sh).take cells.length)
/-- the whole's places, as far as they are known of the part -/
structure RenQ (ι : Ren) (πc : PMap) (Dc : Nat → Prop) (π : PMap) : Prop where
  loc : ∀ k k' sh, ι k = some (k', sh) → ¬ Dc k ∧ ∀ ic, πc k = some ic → ∃ i, π k' = some i ∧ ic.blk = i.blk ∧ ic.sh = i.sh + sh ∧ ic.bsize = i.bsize ∧ ic.esz = i.esz
  inn : ι.inn = false
  fr : ι.dt = true → ∀ B cc, πc.fr B = some cc → π.fr B = some cc

/-- a window of a window -/
theorem Win.VRs {cells cs' cc : List Value} {off sh : Nat} (hw : Win cells off cs') (hle : sh + cells.length ≤ cc.length) (h : Abs.VRs π D cells ((cc.drop sh).take cells.length)) :
    Win cc (sh + off) ((cc.drop (sh + off)).take cs'.length) ∧ Abs.VRs π D cs' ((cc.drop (sh + off)).take cs'.length) := by
  obtain ⟨h1, h2⟩ := hw
  have hl : ((cc.drop (sh + off)).take cs'.length).length = cs'.length := by simp; omega
  refine ⟨⟨by rw [hl]; omega, by rw [hl]⟩, ?_⟩
  have := (h.drop off).take cs'.length
  rw [h2, List.drop_take, List.take_take, List.drop_drop, Nat.min_eq_left (by omega)] at this
  exact this
theorem VA.comp (hp : RenP ι π D πc) {vc v : Value} (h : VA ι vc v) : ∀ {v' : Value}, VR π D v v' → VR πc Dc vc v' := by
  induction h with
  | bool b => intro v' h'; cases h'; exact .bool b
  | int k n => intro v' h'; cases h'; exact .int k n
  | float k b => intro v' h'; cases h'; exact .float k b
  | complex k x y => intro v' h'; cases h'; exact .complex k x y
  | string s => intro v' h'; cases h'; exact .string s
  | ptr0 => intro v' h'; cases h'; exact .ptr0
  | @ptr b off off' s k sh h ho =>
    intro v' h'
    obtain ⟨h2, h3⟩ := hp.loc _ _ _ h
    cases h' with
    | ptr hs ha =>
      cases (show s = none from hs)
      rcases ha.2 with ⟨j, h4, h5, h6⟩ | ⟨_, h4⟩
      · obtain ⟨ic, g1, g2, g3, _, _⟩ := h3 _ h4
        have h6' : _ = j.sh + off' := h6
        exact .ptr rfl ⟨ha.1, .inl ⟨ic, g1, h5.trans g2.symm, by show _ = ic.sh + off; omega⟩⟩
      · exact absurd h4 h2
  | sl0 n c =>
    intro v' h'
    cases h' with
    | sl0 _ _ hn => exact .sl0 n c hn
  | @sl b off off' s k sh n c h ho =>
    intro v' h'
    obtain ⟨h2, h3⟩ := hp.loc _ _ _ h
    cases h' with
    | sl _ _ hn hs ha =>
      cases (show s = none from hs)
      rcases ha.2 with ⟨j, h4, h5, h6⟩ | ⟨_, h4⟩
      · obtain ⟨ic, g1, g2, g3, _, _⟩ := h3 _ h4
        have h6' : _ = j.sh + off' := h6
        exact .sl n c hn rfl ⟨ha.1, .inl ⟨ic, g1, h5.trans g2.symm, by show _ = ic.sh + off; omega⟩⟩
      · exact absurd h4 h2
    | slz _ _ hs => exact .slz _ _ hs
    | slo _ _ c' hn hs ha =>
      refine .slo n c c' hn hs ⟨ha.1, ha.2.1, ?_⟩
      rcases ha.2.2 with ⟨j, h4, h5, h6, h7⟩ | ⟨_, h4⟩
      · obtain ⟨ic, g1, g2, g3, g4, g5⟩ := h3 _ h4
        refine .inl ⟨ic, g1, h5.trans g2.symm, h6.imp fun y hy => ⟨g5.trans hy.1, hy.2⟩, ?_⟩
        rcases h7 with ⟨h8, h9⟩ | h8
        · have h8' : _ = j.sh + off' := h8
          exact .inl ⟨by show _ = ic.sh + off; omega, by rw [g4]; exact h9⟩
        · exact .inr h8
      · exact absurd h4 h2
  | slz a a' h h2 =>
    intro v' h'
    cases h' with
    | sl _ _ hn hs ha => exact .slz _ _ h
    | slz _ _ hs => exact .slz _ _ h
    | slo _ _ c' hn hs ha => rw [h2] at hs; cases hs
  | map0 => intro v' h'; cases h'; exact .map0
  | @map r k sh h =>
    intro v' h'
    obtain ⟨h2, h3⟩ := hp.loc _ _ _ h
    cases h' with
    | map hr =>
      rcases hr with ⟨j, h4, h5⟩ | ⟨_, h4⟩
      · obtain ⟨ic, g1, g2, _⟩ := h3 _ h4
        exact .map (.inl ⟨ic, g1, h5.trans g2.symm⟩)
      · exact absurd h4 h2
  | func fn hf1 hfs1 hc1 hcs1 ih1 ih2 =>
    intro v' h'
    cases h' with
    | func _ hf2 hfs2 hc2 hcs2 =>
      refine .func fn (hf1.trans hf2) (fun i v v' h3 h4 => ?_) (hc1.trans hc2) (fun i v v' h3 h4 => ?_)
      · have hi := (List.getElem?_eq_some_iff.1 h3).1
        obtain ⟨u, hu⟩ : ∃ u, _ = some u := ⟨_, List.getElem?_eq_getElem (hf1 ▸ hi)⟩
        exact ih1 i v u h3 hu (hfs2 i u v' hu h4)
      · have hi := (List.getElem?_eq_some_iff.1 h3).1
        obtain ⟨u, hu⟩ : ∃ u, _ = some u := ⟨_, List.getElem?_eq_getElem (hc1 ▸ hi)⟩
        exact ih2 i v u h3 hu (hcs2 i u v' hu h4)
  | nilFunc => intro v' h'; cases h'; exact .nilFunc
  | iface t _ ih =>
    intro v' h'
    cases h' with
    | iface _ h3 => exact .iface t (ih h3)
  | nilIface => intro v' h'; cases h'; exact .nilIface
  | agg hc1 hcs1 ih =>
    intro v' h'
    cases h' with
    | agg hc2 ho2 hcs2 =>
      refine .agg (hc1.trans hc2) (VAs.oneCells ⟨hc1, hcs1⟩ ho2) (fun i v v' h3 h4 => ?_)
      have hi := (List.getElem?_eq_some_iff.1 h3).1
      obtain ⟨u, hu⟩ : ∃ u, _ = some u := ⟨_, List.getElem?_eq_getElem (hc1 ▸ hi)⟩
      exact ih i v u h3 hu (hcs2 i u v' hu h4)
  | data rows hd => intro v' h'; exact .data (h'.dat_rd.mono hp.fr)
  | dataP cs hd =>
    intro v' h'
    obtain ⟨csm, a', cc, rfl, hs, hf, hw, ho, hv, hr⟩ := h'.datp_inv
    exact .dataP hs ⟨cc, hp.fr _ _ hf, hw⟩ (hr.mono hp.fr)
  | nil0 c hi =>
    intro v' h'
    cases h' with
    | sl0 _ _ hn => exact .data (.data0 _ _ rfl)
  | @fz rows cs cs' cells z b off n c s hi hF hr hn hw h1 hl hcs ih =>
    intro v' h'
    obtain ⟨g1, g2⟩ := hp.fz b cells hF
    have key : ∀ (j : PI) (a' : Addr) (c' : Nat), π b = some j → a'.spot = none → a'.block = j.blk → a'.off = j.sh + off → rows.length ≤ c' → VR πc Dc (dat rows) (.slice (some a') rows.length c') := fun j a' c' h4 hs h5 h6 hc => by
      obtain ⟨cc, f1, f2, f3⟩ := g2 j h4
      obtain ⟨w1, w2⟩ := hw.VRs f2 f3
      refine .data (.data hr hc (.inr ⟨hs, cc, by rw [h5]; exact f1, by rw [h6]; exact w1⟩) (hl.trans w2.1) (fun i v v' h3 h4 => VR.rd (D := Dc) ?_ (h1 v (List.mem_of_getElem? h3))))
      have hi := (List.getElem?_eq_some_iff.1 h3).1
      obtain ⟨u, hu⟩ : ∃ u, _ = some u := ⟨_, List.getElem?_eq_getElem (hl ▸ hi)⟩
      exact ih i v u h3 hu (w2.2 i u v' hu h4)
    have empty : ∀ (a' : Addr) (c' : Nat), rows.length = 0 → VR πc Dc (dat rows) (.slice (some a') rows.length c') := fun a' c' h0 => by
      have := List.eq_nil_of_length_eq_zero h0
      subst this
      exact .data (Rd.nil _ _)
    cases h' with
    | sl _ _ hle hs ha =>
      rcases ha.2 with ⟨j, h4, h5, h6⟩ | ⟨_, h4⟩
      · have h0 := key j _ _ h4 ha.1 h5 h6 (by rw [hn]; assumption); rw [hn] at h0; exact h0
      · exact absurd h4 g1
    | slz _ a' hs => have h0 := empty a' 0 hn; rw [hn] at h0; exact h0
    | @slo _ a' _ _ _ c' hle hs ha =>
      rcases ha.2.2 with ⟨j, h4, h5, h6, h7⟩ | ⟨_, h4⟩
      · rcases h7 with ⟨h8, h9⟩ | ⟨h8, _⟩
        · have h0 := key j _ c' h4 ha.1 h5 h8 (by rw [hn]; exact Nat.le_trans hle ha.2.1); rw [hn] at h0; exact h0
        · have h0 := empty a' c' (hn.trans h8); rw [hn] at h0; exact h0
      · exact absurd h4 g1
  | @fzP cs cs' cells b off hi hF hw h1 hl hcs ih =>
    intro v' h'
    obtain ⟨g1, g2⟩ := hp.fz b cells hF
    cases h' with
    | ptr hs ha =>
      rcases ha.2 with ⟨j, h4, h5, h6⟩ | ⟨_, h4⟩
      · obtain ⟨cc, f1, f2, f3⟩ := g2 j h4
        obtain ⟨w1, w2⟩ := hw.VRs f2 f3
        have h6' : _ = j.sh + off := h6
        refine .dataP ha.1 ⟨cc, by rw [h5]; exact f1, by rw [h6']; exact w1⟩ ⟨hl.trans w2.1, fun i v v' h3 h4 => VR.rd (D := Dc) ?_ (h1 v (List.mem_of_getElem? h3))⟩
        have hi := (List.getElem?_eq_some_iff.1 h3).1
        obtain ⟨u, hu⟩ : ∃ u, _ = some u := ⟨_, List.getElem?_eq_getElem (hl ▸ hi)⟩
        exact ih i v u h3 hu (w2.2 i u v' hu h4)
      · exact absurd h4 g1
  | @tuple c c2 hd1 hd1' hc1 hcs1 ih =>
    intro v' h'
    cases h' with
    | any =>
      match c, hc1, hcs1 with
      | [x], _, hcs1 =>
        cases hcs1 0 x .nilFunc rfl rfl with
        | nilFunc => exact .any _
    | data => cases hd1'
    | dataP => cases hd1'
    | tuple hd2 hc2 hcs2 =>
      refine .tuple hd1 (hc1.trans hc2) (fun i v v' h3 h4 => ?_)
      have hi := (List.getElem?_eq_some_iff.1 h3).1
      obtain ⟨u, hu⟩ : ∃ u, _ = some u := ⟨_, List.getElem?_eq_getElem (hc1 ▸ hi)⟩
      exact ih i v u h3 hu (hcs2 i u v' hu h4)

theorem VA.back (hp : RenQ ι πc Dc π) {vc v : Value} (h : VA ι vc v) : ∀ {v' : Value}, VR πc Dc vc v' → VR π D v v' := by
  induction h with
  | bool b => intro v' h'; cases h'; exact .bool b
  | int k n => intro v' h'; cases h'; exact .int k n
  | float k b => intro v' h'; cases h'; exact .float k b
  | complex k x y => intro v' h'; cases h'; exact .complex k x y
  | string s => intro v' h'; cases h'; exact .string s
  | ptr0 => intro v' h'; cases h'; exact .ptr0
  | @ptr b off off' s k sh h ho =>
    intro v' h'
    obtain ⟨h2, h3⟩ := hp.loc _ _ _ h
    cases h' with
    | ptr hs ha =>
      cases (show s = none from hs)
      rcases ha.2 with ⟨j, h4, h5, h6⟩ | ⟨_, h4⟩
      · obtain ⟨i, g1, g2, g3, _, _⟩ := h3 _ h4
        have h6' : _ = j.sh + off := h6
        exact .ptr rfl ⟨ha.1, .inl ⟨i, g1, h5.trans g2, by show _ = i.sh + off'; omega⟩⟩
      · exact absurd h4 h2
  | sl0 n c =>
    intro v' h'
    cases h' with
    | sl0 _ _ hn => exact .sl0 n c hn
  | @sl b off off' s k sh n c h ho =>
    intro v' h'
    obtain ⟨h2, h3⟩ := hp.loc _ _ _ h
    cases h' with
    | sl _ _ hn hs ha =>
      cases (show s = none from hs)
      rcases ha.2 with ⟨j, h4, h5, h6⟩ | ⟨_, h4⟩
      · obtain ⟨i, g1, g2, g3, _, _⟩ := h3 _ h4
        have h6' : _ = j.sh + off := h6
        exact .sl n c hn rfl ⟨ha.1, .inl ⟨i, g1, h5.trans g2, by show _ = i.sh + off'; omega⟩⟩
      · exact absurd h4 h2
    | slz _ _ hs => exact .slz _ _ hs
    | slo _ _ c' hn hs ha =>
      refine .slo n c c' hn hs ⟨ha.1, ha.2.1, ?_⟩
      rcases ha.2.2 with ⟨j, h4, h5, h6, h7⟩ | ⟨_, h4⟩
      · obtain ⟨i, g1, g2, g3, g4, g5⟩ := h3 _ h4
        refine .inl ⟨i, g1, h5.trans g2, h6.imp fun y hy => ⟨g5.symm.trans hy.1, hy.2⟩, ?_⟩
        rcases h7 with ⟨h8, h9⟩ | h8
        · have h8' : _ = j.sh + off := h8
          exact .inl ⟨by show _ = i.sh + off'; omega, by rw [← g4]; exact h9⟩
        · exact .inr h8
      · exact absurd h4 h2
  | slz a a' h h2 =>
    intro v' h'
    cases h' with
    | sl _ _ hn hs ha => exact .slz _ _ h2
    | slz _ _ hs => exact .slz _ _ h2
    | slo _ _ c' hn hs ha => rw [h] at hs; cases hs
  | map0 => intro v' h'; cases h'; exact .map0
  | @map r k sh h =>
    intro v' h'
    obtain ⟨h2, h3⟩ := hp.loc _ _ _ h
    cases h' with
    | map hr =>
      rcases hr with ⟨j, h4, h5⟩ | ⟨_, h4⟩
      · obtain ⟨i, g1, g2, _⟩ := h3 _ h4
        exact .map (.inl ⟨i, g1, h5.trans g2⟩)
      · exact absurd h4 h2
  | func fn hf1 hfs1 hc1 hcs1 ih1 ih2 =>
    intro v' h'
    cases h' with
    | func _ hf2 hfs2 hc2 hcs2 =>
      refine .func fn (hf1.symm.trans hf2) (fun i v v' h3 h4 => ?_) (hc1.symm.trans hc2) (fun i v v' h3 h4 => ?_)
      · have hi := (List.getElem?_eq_some_iff.1 h3).1
        obtain ⟨u, hu⟩ : ∃ u, _ = some u := ⟨_, List.getElem?_eq_getElem (hf1.symm ▸ hi)⟩
        exact ih1 i u v hu h3 (hfs2 i u v' hu h4)
      · have hi := (List.getElem?_eq_some_iff.1 h3).1
        obtain ⟨u, hu⟩ : ∃ u, _ = some u := ⟨_, List.getElem?_eq_getElem (hc1.symm ▸ hi)⟩
        exact ih2 i u v hu h3 (hcs2 i u v' hu h4)
  | nilFunc => intro v' h'; cases h'; exact .nilFunc
  | iface t _ ih =>
    intro v' h'
    cases h' with
    | iface _ h3 => exact .iface t (ih h3)
  | nilIface => intro v' h'; cases h'; exact .nilIface
  | agg hc1 hcs1 ih =>
    intro v' h'
    cases h' with
    | agg hc2 ho2 hcs2 =>
      refine .agg (hc1.symm.trans hc2) (VAs.oneCells' ⟨hc1, hcs1⟩ ho2) (fun i v v' h3 h4 => ?_)
      have hi := (List.getElem?_eq_some_iff.1 h3).1
      obtain ⟨u, hu⟩ : ∃ u, _ = some u := ⟨_, List.getElem?_eq_getElem (hc1.symm ▸ hi)⟩
      exact ih i u v hu h3 (hcs2 i u v' hu h4)
  | data rows hd => intro v' h'; exact .data (h'.dat_rd.mono (hp.fr hd))
  | dataP cs hd =>
    intro v' h'
    obtain ⟨csm, a', cc, rfl, hs, hf, hw, ho, hv, hr⟩ := h'.datp_inv
    exact .dataP hs ⟨cc, hp.fr hd _ _ hf, hw⟩ (hr.mono (hp.fr hd))
  | nil0 c hi => rw [hp.inn] at hi; cases hi
  | fz hi => rw [hp.inn] at hi; cases hi
  | fzP hi => rw [hp.inn] at hi; cases hi
  | @tuple c c2 hd1 hd1' hc1 hcs1 ih =>
    intro v' h'
    cases h' with
    | data => cases hd1
    | dataP => cases hd1
    | any =>
      match c2, hc1, hcs1 with
      | [x], _, hcs1 =>
        cases hcs1 0 .nilFunc x rfl rfl with
        | nilFunc => exact .any _
    | tuple hd2 hc2 hcs2 =>
      refine .tuple hd1' (hc1.symm.trans hc2) (fun i v v' h3 h4 => ?_)
      have hi := (List.getElem?_eq_some_iff.1 h3).1
      obtain ⟨u, hu⟩ : ∃ u, _ = some u := ⟨_, List.getElem?_eq_getElem (hc1.symm ▸ hi)⟩
      exact ih i u v hu h3 (hcs2 i u v' hu h4)

theorem VAs.comp (hp : RenP ι π D πc) {c c' w' : List Value} (h : VAs ι c c') (h2 : VRs π D c' w') : VRs πc Dc c w' :=
  ⟨h.1.trans h2.1, fun i v v' h3 h4 => by
    obtain ⟨u, hu, hva⟩ := h.get h3
    exact hva.comp hp (h2.2 i u v' hu h4)⟩
theorem VAs.back (hp : RenQ ι πc Dc π) {c c' w' : List Value} (h : VAs ι c c') (h2 : VRs πc Dc c w') : VRs π D c' w' :=
  ⟨h.1.symm.trans h2.1, fun i v v' h3 h4 => by
    obtain ⟨u, hu, hva⟩ := h.tget h3
    exact hva.back hp (h2.2 i u v' hu h4)⟩

/-- the part's places -/
noncomputable def partOf (ι : Ren) (π : PMap) (σc : ASt) (w : World) : PMap := ⟨fun k => match ι k, σc.obj k with
  | some p, some (.cells c _ _ ro _) => (π p.1).map fun i => i.at k p.2 ro c.length
  | some p, some (.map _ _) => (π p.1).map fun i => i.at k p.2 false 0
  | _, _ => none, fun B => match π.fr B with
  | some cc => some cc
  | none => @ite _ (∃ b cells i, ι.fz b = some cells ∧ π b = some i ∧ i.blk = B) (Classical.propDecidable _) (frAll w B) none⟩
theorem partOf_fr {σc : ASt} {w : World} {B : Nat} {cc : List Value} (h : π.fr B = some cc) : (partOf ι π σc w).fr B = some cc := by simp only [partOf, h]
theorem partOf_frz {σc : ASt} {w : World} {b : Nat} {cells : List Value} {i : PI} {cc : Array Value} {elem : TypeId} {fz : Nat × Nat} (h : ι.fz b = some cells) (hi : π b = some i) (hB : w.heap[i.blk]? = some (.cells cc elem fz)) (hn : π.fr i.blk = none ∨ π.fr i.blk = some cc.toList) : (partOf ι π σc w).fr i.blk = some cc.toList := by
  rcases hn with hn | hn
  · simp only [partOf, hn]
    rw [if_pos ⟨b, cells, i, h, hi, rfl⟩]
    simp only [frAll, hB]
  · exact partOf_fr hn
theorem partOf_fr_inv {σc : ASt} {w : World} {B : Nat} {cc : List Value} (h : (partOf ι π σc w).fr B = some cc) : π.fr B = some cc ∨ ((∃ b cells i, ι.fz b = some cells ∧ π b = some i ∧ i.blk = B) ∧ frAll w B = some cc) := by
  simp only [partOf] at h
  split at h
  · rename_i c hc; cases h; exact .inl hc
  · split at h
    · rename_i h1; exact .inr ⟨h1, h⟩
    · cases h

theorem partOf_some {σc : ASt} {w : World} {k : Nat} {ic : PI} (h : partOf ι π σc w k = some ic) : ∃ k' sh i o, ι k = some (k', sh) ∧ σc.obj k = some o ∧ π k' = some i ∧ ic = i.at k sh (roOf o) (lenOf o) := by
  simp only [partOf] at h
  split at h
  · rename_i p c e org ro d h1 h2
    rw [Option.map_eq_some_iff] at h
    obtain ⟨i, h3, h4⟩ := h
    exact ⟨p.1, p.2, i, _, h1, h2, h3, h4.symm⟩
  · rename_i p es cl h1 h2
    rw [Option.map_eq_some_iff] at h
    obtain ⟨i, h3, h4⟩ := h
    exact ⟨p.1, p.2, i, _, h1, h2, h3, h4.symm⟩
  · cases h
theorem partOf_is {σc : ASt} {w : World} {k k' sh : Nat} {i : PI} {o : AObj} (hι : ι k = some (k', sh)) (ho : σc.obj k = some o) (hi : π k' = some i) (hn : isIter o = false) : partOf ι π σc w k = some (i.at k sh (roOf o) (lenOf o)) := by
  cases o with
  | cells c e org ro d => simp only [partOf, hι, ho, hi, Option.map_some]; rfl
  | map es cl => simp only [partOf, hι, ho, hi, Option.map_some]; rfl
  | iter s p => cases hn
theorem ObjR.ro {i : PI} {w : World} {o : AObj} (h : ObjR π D i w o) : i.ro = roOf o := by
  cases o with
  | cells c e org ro d =>
    obtain ⟨_, _, _, _, _, _, _, _, _, _, _, h7, _⟩ := h
    exact h7
  | map es cl => obtain ⟨_, _, _, h3, _⟩ := h; exact h3
  | iter s p => exact h.2.1

theorem partOf_obj {σc : ASt} {w : World} {k sh : Nat} {i : PI} {o o' : AObj} (hp : RenP ι π D (partOf ι π σc w)) (ho : ObjA ι k sh o o') (hr : ObjR π D i w o') :
    ObjR (partOf ι π σc w) No (i.at k sh (roOf o) (lenOf o)) w o := by
  cases o with
  | iter s p => cases o' <;> exact ho.elim
  | map es cl =>
    obtain ⟨es', rfl, rfl, h1, h2⟩ := ho.minv
    obtain ⟨em, g1, g2, g3, g4⟩ := hr
    refine ⟨em, g1, ⟨h1.trans g2.1, fun j x y hx hy => ?_⟩, rfl, g4⟩
    have hj := (List.getElem?_eq_some_iff.1 hx).1
    obtain ⟨u, hu⟩ : ∃ u, es'[j]? = some u := ⟨_, List.getElem?_eq_getElem (h1 ▸ hj)⟩
    obtain ⟨a1, a2, a3⟩ := h2 j x u hx hu
    obtain ⟨b1, b2, b3⟩ := g2.2 j u y hu hy
    exact ⟨a1.comp hp b1, a2.comp hp b2, a3.trans b3⟩
  | cells c e org ro d =>
  obtain ⟨rfl, rfl, c', org', ro', rfl, hle, h2, h3⟩ := ho.inv
  obtain ⟨cc, elem, fz, g1, g2, g3, g4, g5, g6, g7, g8, g9, g10⟩ := hr
  have hwin : VRs π D ((c'.drop sh).take c.length) ((cc.toList.drop (i.sh + sh)).take c.length) := by
    have := (g5.drop sh).take c.length
    rwa [window_sub hle] at this
  refine ⟨cc, elem, fz, g1, g2, by show i.sh + sh + c.length ≤ i.bsize; omega, VAs.oneCells h2 fun v hv => g4 v (List.mem_of_mem_drop (List.mem_of_mem_take hv)), h2.comp hp hwin, fun hro => ?_, g7, rfl, rfl, rfl⟩
  obtain ⟨h4, _, _⟩ := h3 hro
  exact g6 h4

/-- the part stands where the whole does -/
theorem match_rep {e ec : Env} {σ σc : ASt} {A : PMap} {w₀ w : World} (hm : Match S G ι e σ ec σc) (hr : Rep S A w₀ σ π D w) : RenP ι π D (partOf ι π σc w) ∧ Rep S A w₀ σc (partOf ι π σc w) No w := by
  obtain ⟨hlow, hwf, hinj, hobj, henv, hdom, hglob, hanc, hfz⟩ := hm
  have halive : ∀ k k' sh, ι k = some (k', sh) → ∃ o o', σc.obj k = some o ∧ σ.obj k' = some o' ∧ ObjA ι k sh o o' := fun k k' sh hι => by
    obtain ⟨o, ho⟩ := Option.isSome_iff_exists.1 (hdom k _ hι)
    obtain ⟨k2, sh2, o', h2, h3, h4⟩ := hobj k o ho
    rw [hι] at h2
    cases h2
    exact ⟨o, o', ho, h3, h4⟩
  have hnd : ∀ k k' sh, ι k = some (k', sh) → ¬ deadIn σ k' := fun k k' sh hι ⟨o2, h2, hd⟩ => by
    obtain ⟨o, o', _, h3, h4⟩ := halive k k' sh hι
    rw [h3] at h2; cases h2
    rw [h4.alive.1] at hd
    cases hd
  have hp0 : ∀ k k' sh, ι k = some (k', sh) → ¬ D k' ∧ ∀ i, π k' = some i → ∃ ic, partOf ι π σc w k = some ic ∧ ic.blk = i.blk ∧ ic.sh = i.sh + sh ∧ ic.bsize = i.bsize ∧ ic.esz = i.esz := fun k k' sh hι => ⟨fun hd => hnd k k' sh hι (hr.dead k' hd), fun i hi => by
    obtain ⟨o, o', ho, _, hoa⟩ := halive k k' sh hι
    exact ⟨_, partOf_is hι ho hi hoa.alive.2.1, rfl, rfl, rfl, rfl⟩⟩
  have hfzo : ∀ b cells i, ι.fz b = some cells → π b = some i → i.ro = false ∧ ¬ deadIn σ b ∧ ∃ cc elem fz, w.heap[i.blk]? = some (.cells cc elem fz) ∧ i.sh + cells.length ≤ cc.toList.length ∧ VRs π D cells ((cc.toList.drop i.sh).take cells.length) := fun b cells i hF hi => by
    obtain ⟨⟨e2, org2, ho⟩, _⟩ := hfz b cells hF
    obtain ⟨q, hq, hrq⟩ := hr.rel.obj b i hi
    have hext : ext σ (fun _ => none) b = σ.obj b := if_pos (hr.dom b i hi)
    rw [hext, ho] at hq
    cases hq
    obtain ⟨cc, elem, fz, g1, g2, g3, g4, g5, g6, g7, g8, g9, g10⟩ := hrq
    refine ⟨g9, fun ⟨o, h1, h2⟩ => ?_, cc, elem, fz, g1, by show _ ≤ cc.size; omega, g5⟩
    rw [ho] at h1; cases h1; cases h2
  have hp : RenP ι π D (partOf ι π σc w) := ⟨hp0, fun B cc hf => partOf_fr hf, fun b cells hF => ⟨fun hd => ?_, fun i hi => ?_⟩⟩
  rotate_left
  · obtain ⟨⟨e2, org2, ho⟩, _⟩ := hfz b cells hF
    obtain ⟨o, h1, h2⟩ := hr.dead b hd
    rw [ho] at h1; cases h1; cases h2
  · obtain ⟨g1, g2, cc, elem, fz, g3, g4, g5⟩ := hfzo b cells i hF hi
    exact ⟨cc.toList, partOf_frz hF hi g3 (.inl (hr.rel.fro b i hi g1)), g4, g5⟩
  have hlt : ∀ k o, σc.obj k = some o → k < σc.next := fun k o ho => by
    rcases Nat.lt_or_ge k σc.next with h1 | h1
    · exact h1
    · rw [hwf k h1] at ho; cases ho
  have hrep : Rep S A w₀ σc (partOf ι π σc w) No w := by
    refine ⟨⟨fun k ic hk => ?_, fun k ic hk => ?_, fun B cc hf => ?_, fun k ic hk hro => ?_, fun k₁ k₂ i₁ i₂ hne hk1 hk2 hb => ?_, fun k ic hk t hro ht => ?_⟩, hwf, hlow, fun k ic hk => ?_, fun k hk => hk.elim, fun k ic hk hro => ?_, hr.old, fun k hk => ?_, fun B cc hf => partOf_fr (hr.fra B cc hf), fun B cc hf => ?_⟩
    · obtain ⟨k', sh, i, o, hι, ho, hi, rfl⟩ := partOf_some hk
      obtain ⟨o, o', ho2, ho', hoa⟩ := halive k k' sh hι
      rw [ho] at ho2
      cases ho2
      refine ⟨_, (if_pos (hlt k _ ho)).trans ho, ?_⟩
      obtain ⟨o2, ho2, hr2⟩ := hr.rel.obj k' i hi
      have hext : ext σ (fun _ => none) k' = σ.obj k' := if_pos (hr.dom k' i hi)
      rw [hext, ho'] at ho2
      cases ho2
      exact partOf_obj hp hoa hr2
    · obtain ⟨k', sh, i, o, hι, ho, hi, rfl⟩ := partOf_some hk
      exact ⟨Nat.le_refl _, fun _ => rfl⟩
    · rcases partOf_fr_inv hf with h1 | ⟨_, h1⟩
      · exact hr.rel.frz B cc h1
      · exact frAll_eq h1
    · obtain ⟨k', sh, i, o, hι, ho, hi, rfl⟩ := partOf_some hk
      obtain ⟨o, o', g1, g1', hoa⟩ := halive _ _ _ hι
      rw [ho] at g1; cases g1
      have h6 := hoa.alive.2.2 hro
      obtain ⟨q, hq, hrq⟩ := hr.rel.obj k' i hi
      have hext : ext σ (fun _ => none) k' = σ.obj k' := if_pos (hr.dom k' i hi)
      rw [hext, g1'] at hq
      cases hq
      have h7 := hrq.ro
      have hiro : i.ro = false := h7.trans h6
      show (partOf ι π σc w).fr i.blk = none
      cases hfc : (partOf ι π σc w).fr i.blk with
      | none => rfl
      | some cc =>
        exfalso
        rcases partOf_fr_inv hfc with h1 | ⟨⟨b, cells, i2, h1, h2, h3⟩, _⟩
        · rw [hr.rel.fro k' i hi hiro] at h1; cases h1
        · obtain ⟨b1, b2, _⟩ := hfzo b cells i2 h1 h2
          have hne : k' ≠ b := fun h => (hfz b cells h1).2 k sh (h ▸ hι)
          rcases hr.rel.sep k' b i i2 hne hi h2 h3.symm with ⟨h4, _⟩ | ⟨_, _, _, h4 | h4⟩
          · rw [hiro] at h4; cases h4
          · exact hnd _ _ _ hι h4.1
          · exact b2 h4.1
    · obtain ⟨k1', sh1, j1, q1, hι1, ho1, hi1, rfl⟩ := partOf_some hk1
      obtain ⟨k2', sh2, j2, q2, hι2, ho2, hi2, rfl⟩ := partOf_some hk2
      have hne' : k1' ≠ k2' := fun h => by subst h; exact hne (hinj _ _ _ _ _ hι1 hι2)
      obtain ⟨o1, o1', g1, g1', hoa1⟩ := halive _ _ _ hι1
      obtain ⟨o2, o2', g2, g2', hoa2⟩ := halive _ _ _ hι2
      rw [ho1] at g1; cases g1
      rw [ho2] at g2; cases g2
      rcases hr.rel.sep k1' k2' j1 j2 hne' hi1 hi2 hb with ⟨h3, h4⟩ | ⟨_, _, _, h4 | h4⟩
      · have ro_of : ∀ k' i (_ : π k' = some i) (_ : i.ro = true) o' (_ : σ.obj k' = some o') k sh o, ObjA ι k sh o o' → roOf o = true := fun k' i hi hiro o' ho' k sh o hoa => by
          cases hro : roOf o with
          | true => rfl
          | false =>
            have h6 := hoa.alive.2.2 hro
            obtain ⟨q, hq, hrq⟩ := hr.rel.obj k' i hi
            have hext : ext σ (fun _ => none) k' = σ.obj k' := if_pos (hr.dom k' i hi)
            rw [hext, ho'] at hq
            cases hq
            have h7 := hrq.ro
            rw [hiro, h6] at h7; cases h7
        exact .inl ⟨ro_of _ _ hi1 h3 _ g1' _ _ _ hoa1, ro_of _ _ hi2 h4 _ g2' _ _ _ hoa2⟩
      · exact absurd h4.1 (hnd _ _ _ hι1)
      · exact absurd h4.1 (hnd _ _ _ hι2)
    · obtain ⟨k', sh, i, o, hι, ho, hi, rfl⟩ := partOf_some hk
      obtain ⟨o, o', g1, g1', hoa⟩ := halive _ _ _ hι
      rw [ho] at g1; cases g1
      obtain ⟨q, hq, hrq⟩ := hr.rel.obj k' i hi
      have hext : ext σ (fun _ => none) k' = σ.obj k' := if_pos (hr.dom k' i hi)
      rw [hext, g1'] at hq
      cases hq
      have hro : roOf o = false := hro
      have ht2 : typedQ i.esz = some t := ht
      obtain ⟨cc, fz, b1, b2⟩ := hr.rel.typ k' i hi t (hrq.ro.trans (hoa.alive.2.2 hro)) ht2
      cases o with
      | cells c e org ro d =>
        obtain ⟨_, _, c', org', ro', rfl, hle, _, h3⟩ := hoa.inv
        obtain ⟨_, h4, h5⟩ := h3 hro
        obtain ⟨_, _, _, _, _, _, _, _, _, _, _, _, g10⟩ := hrq
        exact ⟨cc, fz, b1, fun hod => by obtain ⟨b3, b4⟩ := b2 hod; exact ⟨by show i.sh + sh = 0; omega, by show i.bsize = c.length; omega⟩⟩
      | map es cl =>
        obtain ⟨es', rfl, _⟩ := hoa.minv
        obtain ⟨_, _, _, _, g⟩ := hrq
        rw [g] at ht2; cases ht2
      | iter s p => cases o' <;> exact hoa.elim
    · obtain ⟨k', sh, i, o, hι, ho, hi, rfl⟩ := partOf_some hk
      exact hlt k _ ho
    · obtain ⟨k', sh, i, o, hι, ho, hi, rfl⟩ := partOf_some hk
      obtain ⟨o, o', g1, g1', hoa⟩ := halive _ _ _ hι
      rw [ho] at g1; cases g1
      have h6 := hoa.alive.2.2 hro
      obtain ⟨q, hq, hrq⟩ := hr.rel.obj k' i hi
      have hext : ext σ (fun _ => none) k' = σ.obj k' := if_pos (hr.dom k' i hi)
      rw [hext, g1'] at hq
      cases hq
      have h7 := hrq.ro
      exact hr.own k' i hi (h7.trans h6)
    · obtain ⟨h1, c, e, h2⟩ := hr.anc k hk
      obtain ⟨h3, h4⟩ := hanc k hk
      refine ⟨?_, c, e, h4.trans h2⟩
      rw [← h1]
      simp only [partOf, h3, h4, h2]
      cases hπ : π k with
      | none => rfl
      | some i =>
        obtain ⟨q, hq, hrq⟩ := hr.rel.obj k i hπ
        have hext : ext σ (fun _ => none) k = σ.obj k := if_pos (hr.dom k i hπ)
        rw [hext, h2] at hq
        cases hq
        obtain ⟨_, _, _, _, _, _, _, _, _, _, g1, g2, g3⟩ := hrq
        simp only [Option.map_some, PI.at, Nat.add_zero, ← g1, ← g2, ← g3]
    · rcases partOf_fr_inv hf with h1 | ⟨⟨b, cells, i2, h1, h2, h3⟩, _⟩
      · exact hr.frn B cc h1
      · exact .inr (h3 ▸ hr.own b i2 h2 (hfzo b cells i2 h1 h2).1)
  exact ⟨hp, hrep⟩
theorem tri_match {c : Code} {e ec : Env} {σ σc : ASt} {Q : AEx → Env → ASt → Prop} (hm : Match S G ι e σ ec σc) (h : TriC P G S N c ec σc Q) : TriC P G S N c e σ Q := by
  intro A w₀ π D w a M hr he hg hM
  obtain ⟨hp, hrep⟩ := match_rep hm hr
  obtain ⟨hlow, hwf, hinj, hobj, henv, hdom, hglob, hanc, hfz⟩ := hm
  refine h A w₀ (partOf ι π σc w) No w a M hrep ⟨he.size, fun t => ?_, he.defers⟩ (fun g hgg => ?_) hM
  · cases hec : ec.get t with
    | none => exact .any _
    | some v =>
      obtain ⟨v', h1, h2⟩ := henv t v hec
      have := he.tmp t
      rw [h1] at this
      exact h2.comp hp this
  · obtain ⟨h1, h2⟩ := hp.loc g g 0 (hglob g hgg)
    rcases (hg g hgg).2 with ⟨i, h3, h4, h5⟩ | ⟨_, h3⟩
    · obtain ⟨ic, g1, g2, g3, _⟩ := h2 i h3
      exact ⟨rfl, .inl ⟨ic, g1, h4.trans g2.symm, by rw [g3]; exact h5⟩⟩
    · exact absurd h3 h1
end
end Go.Abs

/- WHAT A FUNCTION DOES, SAID ONCE: from a run under its own numbers to every call. -/
namespace Go.Abs
open Go.RowKit

/-- the arguments, and what is read of memory, under the function's own numbers -/
structure Entry (G : Globs) (S : Nat → Bool) (ι : Ren) (args argsc : List Value) (σ σc : ASt) : Prop where
  low : σc.low ≤ σc.next
  wf : WF σc
  none : ∀ k, S k = false → σc.obj k = none
  obj : ∀ k, S k = true → ∃ k' sh c e o', ι k = some (k', sh) ∧ σc.obj k = some (.cells c e k true false) ∧ σ.obj k' = some o' ∧ ObjA ι k sh (.cells c e k true false) o'
  dom : ∀ k p, ι k = some p → S k = true
  args : VAs ι argsc args
  glob : ∀ g, G g = true → ι g = some (g, 0)
  /-- what is lent as data -/
  fz : ∀ b cells, ι.fz b = some cells → ∃ e org ro, σ.obj b = some (.cells cells e org ro false)

/-- what the call leaves, under the caller's numbers: 'nw' says which of the function's blocks each new one is -/
structure Leave (S : Nat → Bool) (ι κ : Ren) (nw : Nat → Nat) (σ σ' σ1 : ASt) (v1 v : Value) : Prop where
  next : σ.next ≤ σ'.next
  low : σ'.low = σ.low
  klow : σ'.klow = σ.klow
  kept : ∀ k, k < σ.next ∨ σ'.next ≤ k → σ'.obj k = σ.obj k
  made : ∀ j, σ.next ≤ j → j < σ'.next → κ (nw j) = some (j, 0) ∧ ∃ c1 org1 e c, σ1.obj (nw j) = some (.cells c1 e org1 false false) ∧ σ'.obj j = some (.cells c e j false false) ∧ VAs κ c1 c
  ren : ∀ k k' sh, κ k = some (k', sh) → (S k = true ∧ ι k = some (k', sh)) ∨ (S k = false ∧ sh = 0 ∧ σ.next ≤ k' ∧ k' < σ'.next ∧ nw k' = k)
  val : VA κ v1 v
  inn : κ.inn = false
  /-- data comes back alone where none was lent -/
  dt : κ.dt = true → ∀ b, ι.fz b = none

/-- what is asked of a function's run under its own numbers -/
noncomputable def EndsIn (T : Tab) (fn : Func) (R : Value → ASt → Prop) (x : AEx) (e : Env) (σ : ASt) : Prop :=
  @AEx.rec (fun _ => Prop) (∃ vs, resultsV T σ e fn.results.toList = some vs ∧ R (oneOrTuple vs) σ) (fun _ => False) (∃ vs, resultsV T σ e fn.results.toList = some vs ∧ R (oneOrTuple vs) σ) x

section
variable {P : Program} {T : Tab} {G : Globs} {S : Nat → Bool} {ι : Ren} {args argsc : List Value} {σ σc : ASt}

theorem Entry.rep {π : PMap} {δ D : Nat → Prop} {H : Nat → Option AObj} {w : World} {σ' : ASt} (h : Entry G S ι args argsc σ σc) (hp : Pre σ σ' π δ D H w) :
    RenP ι π D (partOf ι π σc w) ∧ Rep S (partOf ι π σc w) w σc (partOf ι π σc w) No w := by
  have hobj := h.obj
  have alive : ∀ k k' sh, ι k = some (k', sh) → ∃ c e o', σc.obj k = some (.cells c e k true false) ∧ σ.obj k' = some o' ∧ ObjA ι k sh (.cells c e k true false) o' := fun k k' sh hι => by
    obtain ⟨k2, sh2, c, e, o', h1, h2, h3, h4⟩ := h.obj k (h.dom k _ hι)
    rw [hι] at h1
    cases h1
    exact ⟨c, e, o', h2, h3, h4⟩
  have hkn : ∀ k k' sh, ι k = some (k', sh) → k' < σ.next := fun k k' sh hι => by
    obtain ⟨_, _, o', _, h2, _⟩ := alive k k' sh hι
    rcases Nat.lt_or_ge k' σ.next with h1 | h1
    · exact h1
    · rw [hp.wf k' h1] at h2; cases h2
  have hP0 : ∀ k k' sh, ι k = some (k', sh) → ¬ D k' ∧ ∀ i, π k' = some i → ∃ ic, partOf ι π σc w k = some ic ∧ ic.blk = i.blk ∧ ic.sh = i.sh + sh ∧ ic.bsize = i.bsize ∧ ic.esz = i.esz := fun k k' sh hι => by
    obtain ⟨c, e, o', h1, h2, h3⟩ := alive k k' sh hι
    refine ⟨fun hd => ?_, fun i hi => ⟨i.at k sh true c.length, ?_, rfl, rfl, rfl, rfl⟩⟩
    · rcases hp.dead k' hd with ⟨o, ho, hd2⟩ | h4
      · rw [h2] at ho; cases ho
        rw [h3.alive.1] at hd2; cases hd2
      · have := hkn k k' sh hι; have := hp.nle; omega
    · exact partOf_is hι h1 hi rfl
  have hfz : ∀ b cells, ι.fz b = some cells → b < σ.next ∧ ¬ D b ∧ ∀ i, π b = some i → ∃ cc, (partOf ι π σc w).fr i.blk = some cc ∧ i.sh + cells.length ≤ cc.length ∧ VRs π D cells ((cc.drop i.sh).take cells.length) := fun b cells hF => by
    obtain ⟨e, org, ro, ho⟩ := h.fz b cells hF
    have hb : b < σ.next := by
      rcases Nat.lt_or_ge b σ.next with h1 | h1
      · exact h1
      · rw [hp.wf b h1] at ho; cases ho
    refine ⟨hb, fun hd => ?_, fun i hi => ?_⟩
    · rcases hp.dead b hd with ⟨o, h1, h2⟩ | h4
      · rw [ho] at h1; cases h1; cases h2
      · have := hp.nle; omega
    · obtain ⟨q, hq, hrq⟩ := hp.rel.obj b i hi
      have hext : ext σ H b = σ.obj b := if_pos hb
      rw [hext, ho] at hq
      cases hq
      obtain ⟨cc, elem, fz, g1, g2, g3, g4, g5, _⟩ := hrq
      refine ⟨cc.toList, partOf_frz hF hi g1 ?_, by show _ ≤ cc.size; omega, g5⟩
      cases hc : π.fr i.blk with
      | none => exact .inl rfl
      | some c2 =>
        obtain ⟨_, _, h3⟩ := hp.rel.frz _ _ hc
        rw [g1] at h3; cases h3
        exact .inr rfl
  have hP : RenP ι π D (partOf ι π σc w) := ⟨hP0, fun B cc hf => partOf_fr hf, fun b cells hF => (hfz b cells hF).2⟩
  have hlt : ∀ k o, σc.obj k = some o → k < σc.next := fun k o ho => by
    rcases Nat.lt_or_ge k σc.next with h1 | h1
    · exact h1
    · rw [h.wf k h1] at ho; cases ho
  have hro : ∀ k ic, partOf ι π σc w k = some ic → ic.ro = true ∧ ic.org = k := fun k ic hk => by
    obtain ⟨k', sh, i, o, hι, ho, hi, rfl⟩ := partOf_some hk
    obtain ⟨c2, e2, o', h1, _⟩ := alive k k' sh hι
    rw [ho] at h1; cases h1
    exact ⟨rfl, rfl⟩
  refine ⟨hP, ⟨fun k ic hk => ?_, fun k ic hk => ⟨Nat.le_of_eq (hro k ic hk).2, fun _ => (hro k ic hk).2⟩, fun B cc hf => ?_, fun k ic hk hr => ?_, fun k₁ k₂ i₁ i₂ _ hk1 hk2 _ => .inl ⟨(hro _ _ hk1).1, (hro _ _ hk2).1⟩, fun k ic hk t hr _ => (by rw [(hro k ic hk).1] at hr; cases hr)⟩, h.wf, h.low, fun k ic hk => ?_, fun k hk => hk.elim, fun k ic hk hr => ?_, Below.refl _ _, fun k hk => ⟨rfl, ?_⟩, fun _ _ hf => hf, fun _ _ hf => .inl hf⟩
  · obtain ⟨k', sh, i, o, hι, ho, hi, rfl⟩ := partOf_some hk
    refine ⟨_, (if_pos (hlt k _ ho)).trans ho, ?_⟩
    obtain ⟨c2, e2, o', h1, h2, h3⟩ := alive k k' sh hι
    rw [ho] at h1; cases h1
    obtain ⟨q, hq, hrq⟩ := hp.rel.obj k' i hi
    have hext : ext σ H k' = σ.obj k' := if_pos (hkn k k' sh hι)
    rw [hext, h2] at hq
    cases hq
    exact partOf_obj hP h3 hrq
  · rcases partOf_fr_inv hf with h1 | ⟨_, h1⟩
    · exact hp.rel.frz B cc h1
    · exact frAll_eq h1
  · rw [(hro k ic hk).1] at hr; cases hr
  · obtain ⟨k', sh, i, o, hι, ho, hi, rfl⟩ := partOf_some hk
    exact hlt k _ ho
  · rw [(hro k ic hk).1] at hr; cases hr
  · obtain ⟨k', sh, c, e, o', h1, h2, h3, h4⟩ := h.obj k hk
    exact ⟨c, e, h2⟩

theorem Leave.post {κ : Ren} {nw : Nat → Nat} {σ' σ1 : ASt} {v1 v v' : Value} {π π1 : PMap} {δ D D1 : Nat → Prop} {H : Nat → Option AObj} {w w1 : World}
    (hl : Leave S ι κ nw σ σ' σ1 v1 v) (hp : Pre σ σ' π δ D H w) (hr : Rep S (partOf ι π σc w) w σ1 π1 D1 w1) (hv : VR π1 D1 v1 v') :
    ∃ π', VR π' D v v' ∧ Post σ σ' π δ D H w π' D w1 := by
  let π' : PMap := ⟨fun j => if σ.next ≤ j ∧ j < σ'.next then (π1 (nw j)).map fun i => { i with org := j } else π j, if κ.dt = true then π1.fr else π.fr⟩
  have hfr1 : κ.dt = true → π'.fr = π1.fr := fun h => if_pos h
  have hfr2 : κ.dt ≠ true → π'.fr = π.fr := fun h => if_neg h
  have hfs : FrStep π π' w := by
    by_cases hd : κ.dt = true
    · refine ⟨fun B cc hf => ?_, fun B cc hf => ?_⟩
      · rw [hfr1 hd]; exact hr.fra B cc (partOf_fr hf)
      · rw [hfr1 hd] at hf
        rcases hr.frn B cc hf with h1 | h1
        · rcases partOf_fr_inv h1 with h2 | ⟨⟨b, cells, _, h2, _⟩, _⟩
          · exact .inl h2
          · rw [hl.dt hd b] at h2; cases h2
        · exact .inr h1
    · exact FrStep.same (hfr2 hd)
  have hold : ∀ j, ¬ (σ.next ≤ j ∧ j < σ'.next) → π' j = π j := fun j h => if_neg h
  have hnew : ∀ j, σ.next ≤ j → j < σ'.next → ∀ i, π' j = some i → ∃ i1, π1 (nw j) = some i1 ∧ i = { i1 with org := j } := fun j h1 h2 i hi => by
    have h3 : π' j = (π1 (nw j)).map fun i => { i with org := j } := if_pos ⟨h1, h2⟩
    rw [h3, Option.map_eq_some_iff] at hi
    obtain ⟨i1, h4, h5⟩ := hi
    exact ⟨i1, h4, h5.symm⟩
  have hfr : ∀ j, σ.next ≤ j → j < σ'.next → π j = none := hp.fresh
  have hq0 : ∀ k k' sh, κ k = some (k', sh) → ¬ D1 k ∧ ∀ ic, π1 k = some ic → ∃ i, π' k' = some i ∧ ic.blk = i.blk ∧ ic.sh = i.sh + sh ∧ ic.bsize = i.bsize ∧ ic.esz = i.esz := fun k k' sh hκ => by
    rcases hl.ren k k' sh hκ with ⟨h1, h2⟩ | ⟨h1, rfl, h3, h4, h5⟩
    · obtain ⟨h6, c, e, h7⟩ := hr.anc k h1
      refine ⟨fun hd => ?_, fun ic hic => ?_⟩
      · obtain ⟨o, ho, hd2⟩ := hr.dead k hd
        rw [h7] at ho; cases ho; cases hd2
      · rw [h6] at hic
        obtain ⟨k2, sh2, i, _, g1, g2, g3, rfl⟩ := partOf_some hic
        rw [h2] at g1; cases g1
        refine ⟨i, ?_, rfl, rfl, rfl, rfl⟩
        rw [hold k' fun hf => by rw [hfr k' hf.1 hf.2] at g3; cases g3]
        exact g3
    · obtain ⟨_, c1, org1, e, c, g1, g2, g3⟩ := hl.made k' h3 h4
      rw [h5] at g1
      refine ⟨fun hd => ?_, fun ic hic => ?_⟩
      · obtain ⟨o, ho, hd2⟩ := hr.dead k hd
        rw [g1] at ho; cases ho; cases hd2
      · refine ⟨{ ic with org := k' }, ?_, rfl, rfl, rfl, rfl⟩
        have h6 : π' k' = (π1 (nw k')).map fun i => { i with org := k' } := if_pos ⟨h3, h4⟩
        rw [h6, h5, hic]; rfl
  have hq : RenQ κ π1 D1 π' := ⟨hq0, hl.inn, fun hd B cc hf => by rw [hfr1 hd]; exact hf⟩
  have hobjn : ∀ j, σ.next ≤ j → j < σ'.next → ∀ i, π' j = some i → w.heap.size ≤ i.blk ∧ i.org = j ∧ i.ro = false ∧ ∃ o, σ'.obj j = some o ∧ isDead o = false ∧ ObjR π' D i w1 o := fun j h1 h2 i hi => by
    obtain ⟨i1, h3, rfl⟩ := hnew j h1 h2 i hi
    obtain ⟨_, c1, org1, e, c, g1, g2, g3⟩ := hl.made j h1 h2
    obtain ⟨o1, ho1, hr1⟩ := hr.rel.obj (nw j) i1 h3
    have hext : ext σ1 (fun _ => none) (nw j) = σ1.obj (nw j) := if_pos (hr.dom _ _ h3)
    rw [hext, g1] at ho1
    cases ho1
    obtain ⟨cc, elem, fz, a1, a2, a3, a4, a5, a6, a7, a8, a9, a10⟩ := hr1
    refine ⟨show w.heap.size ≤ i1.blk from hr.own (nw j) i1 h3 a9, rfl, a9, _, g2, rfl, ?_⟩
    have hlen := g3.1
    refine ⟨cc, elem, fz, a1, a2, by show i1.sh + c.length ≤ i1.bsize; omega, VAs.oneCells' g3 a4, ?_, a6, a7, rfl, a9, by show i1.len = c.length; omega⟩
    show VRs π' D c ((cc.toList.drop i1.sh).take c.length)
    rw [← hlen]; exact g3.back hq a5
  have hmono : Mono σ σ' := ⟨hl.next, Nat.le_of_eq hl.low, Nat.le_of_eq hl.klow, fun hw k hk => (hl.kept k (.inr hk)).trans (hw k (Nat.le_trans hl.next hk)), fun k hk => by rw [hl.kept k (.inl hk)]; exact .refl _ _ _ _⟩
  have hstep : PStep π D π' D := ⟨fun k i hk => .inl ((hold k fun hf => by rw [hfr k hf.1 hf.2] at hk; cases hk).trans hk), fun k hk hd => ⟨by
    rw [hold k fun hf => by
      rcases hp.dead k hd with h1 | h1
      · have := deadIn_lt hp.wf h1; omega
      · omega]
    exact hk, hd⟩, hfs.1⟩
  refine ⟨π', hl.val.back hq hv, ⟨hmono, ⟨fun k i hk => ?_, fun k i hk => ?_, fun B cc hf => ?_, fun k i hk hro => ?_, fun k₁ k₂ i₁ i₂ hne hk1 hk2 hb => ?_, fun k i hk => ?_⟩, fun k i hk => ?_, fun k i hk => ?_, fun k hd => hd, fun k hd => .inl hd, fun k hk hd hnd => ?_, fun k i hk => ?_, fun k i hk hro => ?_, hfs, ⟨hr.old.os, hr.old.tape, hr.old.output, hr.old.size, fun B hB _ => hr.old.block B hB⟩⟩⟩
  · by_cases hf : σ.next ≤ k ∧ k < σ'.next
    · obtain ⟨_, _, _, o, ho, _, hro⟩ := hobjn k hf.1 hf.2 i hk
      exact ⟨o, (if_pos hf.2).trans ho, hro⟩
    · rw [hold k hf] at hk
      obtain ⟨o, ho, hro⟩ := hp.rel.obj k i hk
      refine ⟨o, ?_, hro.mono hstep (hr.old.block i.blk (hp.rel.lt hk))⟩
      rw [← ho]
      by_cases h1 : k < σ.next
      · exact (if_pos (Nat.lt_of_lt_of_le h1 hl.next)).trans ((hl.kept k (.inl h1)).trans (if_pos h1).symm)
      · exact (if_neg (by omega)).trans (if_neg h1).symm
  · by_cases hf : σ.next ≤ k ∧ k < σ'.next
    · obtain ⟨_, h1, _⟩ := hobjn k hf.1 hf.2 i hk
      exact ⟨Nat.le_of_eq h1, fun _ => h1⟩
    · rw [hold k hf] at hk
      exact hp.rel.kin k i hk
  · by_cases hd : κ.dt = true
    · rw [hfr1 hd] at hf; exact hr.rel.frz B cc hf
    · rw [hfr2 hd] at hf
      obtain ⟨el, fz, h1⟩ := hp.rel.frz B cc hf
      exact ⟨el, fz, (hr.old.block B (blk_lt h1)).trans h1⟩
  · by_cases hf : σ.next ≤ k ∧ k < σ'.next
    · obtain ⟨h1, _⟩ := hobjn k hf.1 hf.2 i hk
      obtain ⟨i1, h3, rfl⟩ := hnew k hf.1 hf.2 i hk
      by_cases hd : κ.dt = true
      · rw [hfr1 hd]; exact hr.rel.fro (nw k) i1 h3 hro
      · rw [hfr2 hd]
        cases hc : π.fr i1.blk with
        | none => rfl
        | some cc =>
          obtain ⟨_, _, h4⟩ := hp.rel.frz _ _ hc
          have := blk_lt h4
          have h5 : w.heap.size ≤ i1.blk := h1
          omega
    · rw [hold k hf] at hk
      have h1 := hp.rel.fro k i hk hro
      by_cases hd : κ.dt = true
      · cases hc : π'.fr i.blk with
        | none => rfl
        | some cc =>
          exfalso
          rcases hfs.2 _ _ hc with h2 | h2
          · rw [h1] at h2; cases h2
          · have := hp.rel.lt hk; omega
      · rw [hfr2 hd]; exact h1
  · by_cases hf1 : σ.next ≤ k₁ ∧ k₁ < σ'.next
    · by_cases hf2 : σ.next ≤ k₂ ∧ k₂ < σ'.next
      · exfalso
        obtain ⟨j1, g1, rfl⟩ := hnew k₁ hf1.1 hf1.2 i₁ hk1
        obtain ⟨j2, g2, rfl⟩ := hnew k₂ hf2.1 hf2.2 i₂ hk2
        obtain ⟨m1, c1, org1, e1, c1', m2, m3, _⟩ := hl.made k₁ hf1.1 hf1.2
        obtain ⟨m4, c2, org2, e2, c2', m5, m6, _⟩ := hl.made k₂ hf2.1 hf2.2
        have hne2 : nw k₁ ≠ nw k₂ := fun h => by rw [h, m4] at m1; cases m1; exact hne rfl
        have nd : ∀ k c e org, σ1.obj k = some (.cells c e org false false) → ¬ deadIn σ1 k := fun k c e org h ⟨o, ho, hd⟩ => by rw [h] at ho; cases ho; cases hd
        rcases hr.rel.sep _ _ j1 j2 hne2 g1 g2 hb with ⟨h3, _⟩ | ⟨_, _, _, h4 | h4⟩
        · obtain ⟨_, _, h5, _⟩ := hobjn k₁ hf1.1 hf1.2 _ hk1
          rw [show j1.ro = false from h5] at h3; cases h3
        · exact nd _ _ _ _ m2 h4.1
        · exact nd _ _ _ _ m5 h4.1
      · exfalso
        obtain ⟨h1, _⟩ := hobjn k₁ hf1.1 hf1.2 i₁ hk1
        rw [hold k₂ hf2] at hk2
        have := hp.rel.lt hk2
        omega
    · by_cases hf2 : σ.next ≤ k₂ ∧ k₂ < σ'.next
      · exfalso
        obtain ⟨h1, _⟩ := hobjn k₂ hf2.1 hf2.2 i₂ hk2
        rw [hold k₁ hf1] at hk1
        have := hp.rel.lt hk1
        omega
      · rw [hold k₁ hf1] at hk1
        rw [hold k₂ hf2] at hk2
        rcases hp.rel.sep k₁ k₂ i₁ i₂ hne hk1 hk2 hb with h3 | ⟨h3, h4, h5, h6⟩
        · exact .inl h3
        · exact .inr ⟨h3, h4, h5, h6.imp (fun h => ⟨.inl h.1, h.2⟩) (fun h => ⟨.inl h.1, h.2⟩)⟩
  · by_cases hf : σ.next ≤ k ∧ k < σ'.next
    · obtain ⟨i1, h3, rfl⟩ := hnew k hf.1 hf.2 i hk
      exact hr.rel.typ (nw k) i1 h3
    · rw [hold k hf] at hk
      exact (hp.rel.typ k i hk).world (hr.old.block i.blk (hp.rel.lt hk))
  · by_cases hf : σ.next ≤ k ∧ k < σ'.next
    · exact .inr ⟨hfr k hf.1 hf.2, hf.1, hf.2⟩
    · rw [hold k hf] at hk; exact .inl hk
  · exact .inl ((hold k fun hf => by rw [hfr k hf.1 hf.2] at hk; cases hk).trans hk)
  · obtain ⟨o, ho, hd2⟩ := hd
    rw [hl.kept k (.inl hk)] at ho
    exact absurd ⟨o, ho, hd2⟩ hnd
  · by_cases hf : σ.next ≤ k ∧ k < σ'.next
    · obtain ⟨_, h1, _⟩ := hobjn k hf.1 hf.2 i hk
      exact .inl (by rw [h1]; exact hf.1)
    · rw [hold k hf] at hk; exact .inr ⟨k, i, hk, rfl⟩
  · by_cases hf : σ.next ≤ k ∧ k < σ'.next
    · obtain ⟨h1, _⟩ := hobjn k hf.1 hf.2 i hk
      exact .inr h1
    · rw [hold k hf] at hk; exact .inl ⟨k, i, hk, hro, rfl⟩

/-- **a call of a function, by its run under its own numbers** -/
theorem call_spec {f : FuncId} {fn : Func} {c : Code} (hfn : FnOk1 P G f fn) (hb : fn.body = some c) (hT : TyOk P T) {σ' : ASt} {v : Value} (hent : Entry G S ι args argsc σ σc)
    (hrun : ∀ N, fn.ntmps ≤ N → TriC P G S N c (initEnv argsc 0 .leaf) σc (EndsIn T fn fun v1 σ1 => ∃ κ nw, Leave S ι κ nw σ σ' σ1 v1 v)) :
    Enters P f ∧ (σ.low ≤ σ.next → ∀ π δ D H w args', GlobR G π D → VRs π D args args' → Pre σ σ' π δ D H w → Calls P f ⟨args'⟩ w (Back σ σ' π δ D H w v)) := by
  obtain ⟨g1, g2, g3⟩ := hfn
  refine ⟨⟨fn, g1, g2, by rw [hb]; rfl⟩, fun _ π δ D H w args' hg ha hp => ?_⟩
  obtain ⟨hP, hrep⟩ := hent.rep hp
  have hac : VRs (partOf ι π σc w) No argsc args' := hent.args.comp hP ha
  refine calls_of_wp g1 hb ?_
  have hsz : (⟨args'⟩ : Array Value).size = args'.length := rfl
  rw [hsz]
  have hgl : GlobR G (partOf ι π σc w) No := fun g hgg => by
    obtain ⟨h1, h2⟩ := hP.loc g g 0 (hent.glob g hgg)
    rcases (hg g hgg).2 with ⟨i, h3, h4, h5⟩ | ⟨_, h3⟩
    · obtain ⟨ic, a1, a2, a3, _⟩ := h2 i h3
      exact ⟨rfl, .inl ⟨ic, a1, h4.trans a2.symm, by rw [a3]; exact h5⟩⟩
    · exact absurd h3 h1
  refine hrun (args'.length + (fn.ntmps - args'.length)) (by omega) (partOf ι π σc w) w (partOf ι π σc w) No w _ _ hrep (EnvR.start hac fn.ntmps) hgl fun x e' σ1 π1 D1 w1 a1 hx hr1 he1 hg1 => ?_
  have hend : ∀ vs, resultsV T σ1 e' fn.results.toList = some vs → (∃ κ nw, Leave S ι κ nw σ σ' σ1 (oneOrTuple vs) v) → bodyPost P fn (Back σ σ' π δ D H w v) .ret a1 w1 := fun vs h1 ⟨κ, nw, h2⟩ => by
    obtain ⟨v', hv1, hv2⟩ := sim_results hT (hr1.pre (Nat.le_refl _)) he1 h1
    obtain ⟨π', h3, h4⟩ := h2.post hp hr1 hv2
    exact ⟨he1.defers, v', hv1, v', π', D, rfl, h3, h4⟩
  cases x with
  | normal => obtain ⟨vs, h1, h2⟩ := hx; exact hend vs h1 h2
  | exit id => exact hx.elim
  | ret => obtain ⟨vs, h1, h2⟩ := hx; exact hend vs h1 h2
end
end Go.Abs

/- TYPES OF PLAIN DATA: the shapes of their cells. -/
namespace Go.Abs

inductive Sh where
  | int (k : IntKind)
  | bool
  | str

noncomputable def shapesL (f : TypeId → Option (List Sh)) : List TypeId → Option (List Sh)
  | [] => some []
  | t :: ts => andThen (f t) fun a => andThen (shapesL f ts) fun b => some (a ++ b)

noncomputable def shapes (T : Tab) : Nat → TypeId → Option (List Sh)
  | 0, _ => none
  | fuel + 1, t => andThen (desc T t) fun ds => match ds with
    | .bool => some [.bool]
    | .int k => some [.int k]
    | .string => some [.str]
    | .struct fs => andThen (size T t) fun z => iff (contig T fs.toList 0 z) (shapesL (shapes T fuel) (fs.toList.map (·.type))) none
    | .array len e => andThen (size T t) fun z => andThen (size T e) fun ze => iff (Nat.beq z (len * ze)) (shapesL (shapes T fuel) (List.replicate len e)) none
    | _ => none


/-- there are cells of these shapes -/
noncomputable def exSh (ss : List Sh) : (List Value → Prop) → Prop := @List.rec Sh (fun _ => (List Value → Prop) → Prop) (fun F => F [])
  (fun s _ ih F => @Sh.rec (fun _ => Prop) (fun k => ∃ x : Int, ih fun l => F (.int k x :: l)) (∃ b : Bool, ih fun l => F (.bool b :: l)) (∃ t : ByteArray, ih fun l => F (.string t :: l)) s) ss
theorem exSh_eq : ∀ {ss : List Sh} {F : List Value → Prop}, exSh ss F → ∃ l, F l
  | [], F, h => ⟨[], h⟩
  | .int k :: ss, F, h => by
    obtain ⟨x, h⟩ := (show ∃ x : Int, exSh ss fun l => F (.int k x :: l) from h)
    obtain ⟨l, hl⟩ := exSh_eq h
    exact ⟨_, hl⟩
  | .bool :: ss, F, h => by
    obtain ⟨x, h⟩ := (show ∃ x : Bool, exSh ss fun l => F (.bool x :: l) from h)
    obtain ⟨l, hl⟩ := exSh_eq h
    exact ⟨_, hl⟩
  | .str :: ss, F, h => by
    obtain ⟨x, h⟩ := (show ∃ x : ByteArray, exSh ss fun l => F (.string x :: l) from h)
    obtain ⟨l, hl⟩ := exSh_eq h
    exact ⟨_, hl⟩
/-- the value of cells: a struct or an array, or the one of them -/
noncomputable def cellsV (agg : Bool) (l : List Value) : Value := iff agg (.agg ⟨l⟩) (@List.rec Value (fun _ => Value) undef (fun v _ _ => v) l)
end Go.Abs

/- WHAT IS LEFT TO SHOW OF STRAIGHT CODE: the abstract machine runs it; where a test, a place or a length is not known, it is asked for. -/
namespace Go.Abs

noncomputable def memN (n : Nat) (l : List Nat) : Bool := @List.rec Nat (fun _ => Bool) false (fun a _ ih => iff (Nat.beq n a) true ih) l
noncomputable def kindAt (n : Nat) (l : List (Nat × Nat)) : Nat := @List.rec (Nat × Nat) (fun _ => Nat) (nat_lit 0) (fun a _ ih => iff (Nat.beq n a.1) a.2 ih) l

/-- how guards and tests are met on the way: one that is known, one that is split -/
inductive HT where
  | done
  | lit (h : HT)
  | split (a b : HT)
  | sure (c : Bool) (h : HT)

/-- what is asked for: 'kd': how an operation is carried out (0: it is run); 'un': loops that are gone through, by their first region, and how often at most -/
class CGuard where
  fn : FuncId → List Value → ASt → Option (Bool × (Value × ASt))
instance : CGuard := ⟨fun _ _ _ => none⟩
structure Hint where
  kd : List (Nat × Nat)
  un : List (Nat × Nat)
  [cg : CGuard]
/-- calls that are told with what they ask for -/
def Guarded (h : Hint) (call : CallF) : Prop := ∀ f args σ b v σ', h.cg.fn f args σ = some (b, v, σ') → b = true → call f args σ = some (v, σ')
theorem guarded_none {kd un : List (Nat × Nat)} {call : CallF} : Guarded ⟨kd, un⟩ call := fun f args σ b v σ' h _ => by cases (show none = some (b, v, σ') from h)

noncomputable def okP {α : Type} (o : Option α) (K : α → Prop) : Prop := @Option.rec α (fun _ => Prop) False K o
noncomputable def okP2 {α β : Type} (o : Option (α × β)) (K : α → β → Prop) : Prop := @Option.rec (α × β) (fun _ => Prop) False (fun p => K p.1 p.2) o
noncomputable def okP3 {α β γ : Type} (o : Option (α × β × γ)) (K : α → β → γ → Prop) : Prop := @Option.rec (α × β × γ) (fun _ => Prop) False (fun p => K p.1 p.2.1 p.2.2) o
noncomputable def iffP (c : Bool) (a b : Prop) : Prop := @Bool.rec (fun _ => Prop) b a c

theorem okP_iff {α : Type} (o : Option α) (K : α → Prop) : okP o K ↔ ∃ a, o = some a ∧ K a := by
  cases o with
  | none => exact ⟨fun h => h.elim, fun ⟨_, h, _⟩ => by cases h⟩
  | some a => exact ⟨fun h => ⟨a, rfl, h⟩, fun ⟨_, h, k⟩ => by cases h; exact k⟩
theorem okP2_iff {α β : Type} (o : Option (α × β)) (K : α → β → Prop) : okP2 o K ↔ ∃ a b, o = some (a, b) ∧ K a b := by
  cases o with
  | none => exact ⟨fun h => h.elim, fun ⟨_, _, h, _⟩ => by cases h⟩
  | some a => exact ⟨fun h => ⟨a.1, a.2, rfl, h⟩, fun ⟨_, _, h, k⟩ => by cases h; exact k⟩
theorem okP3_iff {α β γ : Type} (o : Option (α × β × γ)) (K : α → β → γ → Prop) : okP3 o K ↔ ∃ a b c, o = some (a, b, c) ∧ K a b c := by
  cases o with
  | none => exact ⟨fun h => h.elim, fun ⟨_, _, _, h, _⟩ => by cases h⟩
  | some a => exact ⟨fun h => ⟨a.1, a.2.1, a.2.2, rfl, h⟩, fun ⟨_, _, _, h, k⟩ => by cases h; exact k⟩
theorem iffP_iff (c : Bool) (a b : Prop) : iffP c a b ↔ (c = true ∧ a) ∨ (c = false ∧ b) := by
  cases c with
  | true => exact ⟨fun h => .inl ⟨rfl, h⟩, fun h => h.elim (·.2) (fun h => by cases h.1)⟩
  | false => exact ⟨fun h => .inr ⟨rfl, h⟩, fun h => h.elim (fun h => by cases h.1) (·.2)⟩
theorem okP_eq {α : Type} {o : Option α} {K : α → Prop} (h : okP o K) : ∃ a, o = some a ∧ K a := by
  cases o with
  | none => exact h.elim
  | some a => exact ⟨a, rfl, h⟩
theorem okP2_eq {α β : Type} {o : Option (α × β)} {K : α → β → Prop} (h : okP2 o K) : ∃ a b, o = some (a, b) ∧ K a b := by
  cases o with
  | none => exact h.elim
  | some a => exact ⟨a.1, a.2, rfl, h⟩
theorem okP3_eq {α β γ : Type} {o : Option (α × β × γ)} {K : α → β → γ → Prop} (h : okP3 o K) : ∃ a b c, o = some (a, b, c) ∧ K a b c := by
  cases o with
  | none => exact h.elim
  | some a => exact ⟨a.1, a.2.1, a.2.2, rfl, h⟩
theorem iffP_eq {c : Bool} {a b : Prop} (h : iffP c a b) : (c = true ∧ a) ∨ (c = false ∧ b) := by
  cases c with
  | true => exact .inl ⟨rfl, h⟩
  | false => exact .inr ⟨rfl, h⟩

/-- behind an operation that only looks -/
noncomputable def looked (draw : Bool) (σ : ASt) : ASt := iff draw ⟨σ.heap, σ.next, minN σ.low σ.next, σ.klow⟩ σ

def asBv : Value → Option Bool
  | .bool b => some b
  | _ => none

section
variable (T : Tab) (call : CallF)

/-- a load at a place that is not known -/
noncomputable def vcLoad (draw : Bool) (t : TypeId) (a : Value) (σ : ASt) (K : Value → ASt → Prop) : Prop :=
  okP2 (asPtr a) fun k off => okP (σ.row k) fun c => ∃ v, part T t c off = some v ∧ K v (looked draw σ)
/-- of a tuple the one, of what is none the other -/
def tupP (x : Value) (f : List Value → Prop) (d : Prop) : Prop :=
  match x with
  | .tuple vs => f vs.toList
  | _ => d
/-- the place of an element that is not known -/
noncomputable def vcIdxD (draw : Bool) (x : Value) (n : Int) (σ : ASt) (K : Value → ASt → Prop) : TypeDesc → Prop
  | .slice e => tupP x (fun vs => okP (datL vs) fun rows => okP (size T e) fun z => ∃ j c, inRange n (lenQ rows) = some j ∧ nthQ j rows = some (.agg ⟨c⟩) ∧ Nat.beq (lenQ c) z = true ∧ K (datP c) (looked draw σ)) <|
      okP3 (asSl x) fun a len _ => okP a fun a => okP (size T e) fun z => ∃ j, inRange n len = some j ∧ K (.pointer (some ⟨a.block, Nat.add a.off (Nat.mul j z), none⟩)) (looked draw σ)
  | .array len e => okP2 (asPtr x) fun k off => okP (size T e) fun z => ∃ j, inRange n len = some j ∧ K (.pointer (some ⟨k, Nat.add off (Nat.mul j z), none⟩)) (looked draw σ)
  | _ => False
noncomputable def vcIdx (draw : Bool) (t : TypeId) (x ix : Value) (σ : ASt) (K : Value → ASt → Prop) : Prop :=
  okP2 (asI ix) fun _ n => okP (desc T t) fun d => vcIdxD T draw x n σ K d
/-- an append to a slice that may grow -/
noncomputable def vcApp (sT xT : TypeId) (s x : Value) (σ : ASt) (K : Value → ASt → Prop) : Prop :=
  okP (desc T sT) fun d => okP (sliceElem d) fun e => okP (ty T e) fun ei => okP3 (asSl s) fun base len cap => okP (desc T xT) fun dx => okP2 (addsV σ ei x dx) fun n ys =>
    okP base fun a => okP3 (andThen (σ.obj a.block) rowsOf) fun c eo org => okP eo fun z => okP a.spot fun s =>
      Nat.ble (Nat.add len n) cap = false ∧ Nat.ble (Nat.mul (Nat.add len n) (Nat.succ ei.info.bytes)) (nat_lit 1000000000) = true ∧ Nat.ble 1 ei.info.bytes = true ∧ (zcells ei).isSome = true ∧ isZ a.off = true ∧ Nat.beq s ei.size = true ∧ Nat.beq z ei.size = true ∧ lenQ c = Nat.mul len ei.size ∧
        K (.slice (some ⟨σ.next, 0, some ei.size⟩) (Nat.add len n) (Nat.add len n)) ⟨(σ.heap.set a.block (.cells c (some z) org false true)).set σ.next (.cells (appQ c ys) (some ei.size) org false false), Nat.succ σ.next, σ.low, minN a.block σ.klow⟩
/-- a store at a place that is not known -/
noncomputable def vcStore (t : TypeId) (p x : Value) (σ : ASt) (K : Value → ASt → Prop) : Prop :=
  okP2 (asPtr p) fun k off => okP (size T t) fun z => okP (flat x) fun vs => okP3 (andThen (σ.obj k) rowsOf) fun c e org => Nat.beq (lenQ vs) z = true ∧ ∃ c', splice vs off c = some c' ∧ K undef ⟨σ.heap.set k (.cells c' e org false false), σ.next, σ.lower org, σ.klow⟩
/-- whatever it does -/
noncomputable def vcAny (bar draw : Bool) (op : Op) (ρ : Operand → Value) (σ : ASt) (K : Value → ASt → Prop) : Prop := ∃ v σ', doOper T call bar draw op ρ σ = some (v, σ') ∧ K v σ'
noncomputable def vcVal (o : Option Value) (draw : Bool) (σ : ASt) (K : Value → ASt → Prop) : Prop := ∃ v, o = some v ∧ K v (looked draw σ)

noncomputable def vcAppC (c : Call) (ρ : Operand → Value) (σ : ASt) (K : Value → ASt → Prop) : Callee → Prop
  | .builtin .append => okP2 (arg2 c.argTypes.toList) fun sT xT => okP2 (arg2 (mapQ ρ c.args.toList)) fun s x => vcApp T sT xT s x σ K
  | _ => False

/-- a division -/
noncomputable def quoOf : BinOp → IntKind → Int → Int → Option Value
  | .quo => fun k a b => some (.int k (wrapQ k (a.tdiv b)))
  | .rem => fun k a b => some (.int k (a.tmod b))
  | _ => fun _ _ _ => none
noncomputable def vcBin (draw : Bool) (op : BinOp) (x y : Value) (σ : ASt) (K : Value → ASt → Prop) : Prop :=
  okP2 (asI x) fun k a => okP2 (asI y) fun k' b => okP (iff (sameKind k k') (quoOf op k a b) none) fun v => eqQ b (Int.ofNat 0) = false ∧ K v (looked draw σ)

/-- a comparison of structs, all of it at once -/
noncomputable def eqFieldsT (f : TypeId → Nat → Option Bool) : List Field → Option Bool
  | [] => some true
  | x :: fs => iff (x.name == "_") (eqFieldsT f fs) (andThen (f x.type x.offset) fun b => andThen (eqFieldsT f fs) fun c => some (iff b c false))
noncomputable def eqDT : TypeDesc → Tab → (TypeId → Value → Value → Option Bool) → Bool → Value → Value → Option Bool
  | .struct fields => fun T f held x y => iff held none (andThen (asA x) fun xs => andThen (asA y) fun ys => eqFieldsT (eqPart T f xs ys) fields.toList)
  | d => eqD d
noncomputable def eqVT (T : Tab) : Nat → TypeId → Value → Value → Option Bool
  | 0, _, _, _ => none
  | d + 1, t, x, y => andThen (ty T t) fun i => eqDT i.desc T (eqVT T d) i.held x y
noncomputable def vcCmp (draw : Bool) (op : BinOp) (t : TypeId) (xo yo : Operand) (x y : Value) (n : Bool) (σ : ASt) (K : Value → ASt → Prop) : Prop :=
  okP (asA x) fun _ => okP (eqVT T 10 t x y) fun b => iffP (iff (needsGuard op) (guarded T t xo yo x) true) (K (.bool (iff n (not b) b)) (looked draw σ)) False
noncomputable def vcBins (draw : Bool) (op : BinOp) (t : TypeId) (xo yo : Operand) (x y : Value) (σ : ASt) (K : Value → ASt → Prop) : Prop :=
  @Option.rec Bool (fun _ => Prop) (vcBin draw op x y σ K) (fun n => vcCmp T draw op t xo yo x y n σ K) (isNeq op)

/-- the kinds that have a word of their own -/
noncomputable def vcKind (bar draw : Bool) (op : Op) (ρ : Operand → Value) (σ : ASt) (K : Value → ASt → Prop) : Prop :=
  match op with
  | .load t a => vcLoad T draw t (ρ a) σ K
  | .indexAddr t x i => vcIdx T draw t (ρ x) (ρ i) σ K
  | .index t x i => vcVal (indexV T t (ρ x) (ρ i)) draw σ K
  | .slice t x lo hi mx => vcVal (sliceV T t (ρ x) (lo.map ρ) (hi.map ρ) (mx.map ρ)) draw σ K
  | .binOp op t x y _ => vcBins T draw op t x y (ρ x) (ρ y) σ K
  | .store t a x => iffP draw (vcAny T call bar draw op ρ σ K) (vcStore T t (ρ a) (ρ x) σ K)
  | .call c => iffP draw (vcAny T call bar draw op ρ σ K) (vcAppC T c ρ σ K c.callee)
  | _ => vcAny T call bar draw op ρ σ K

noncomputable def callB (g : FuncId → List Value → ASt → Option (Bool × (Value × ASt))) : CallF := fun f args σ => andThen (g f args σ) fun p => some (.bool p.1, p.2.2)
noncomputable def callU (g : FuncId → List Value → ASt → Option (Bool × (Value × ASt))) : CallF := fun f args σ => andThen (g f args σ) fun p => some p.2
/-- a call that asks for something -/
noncomputable def vcG (h : Hint) (bar draw : Bool) (op : Op) (ρ : Operand → Value) (σ : ASt) (K : Value → ASt → Prop) : Prop :=
  okP2 (doOper T (callB h.cg.fn) bar draw op ρ σ) (fun b _ => b = .bool true) ∧ okP2 (doOper T (callU h.cg.fn) bar draw op ρ σ) K

/-- a load at a place that is not known, of plain data -/
noncomputable def vcLoadS (draw : Bool) (t : TypeId) (a : Value) (σ : ASt) (K : Value → ASt → Prop) : Prop :=
  okP2 (asPtr a) fun k off => okP (σ.row k) fun c => okP (ty T t) fun i => okP (shapes T 8 t) fun ss => exSh ss fun l => part T t c off = some (cellsV i.agg l) ∧ K (cellsV i.agg l) (looked draw σ)
noncomputable def vcLd (draw : Bool) (op : Op) (ρ : Operand → Value) (σ : ASt) (K : Value → ASt → Prop) : Prop :=
  match op with
  | .load t a => vcLoadS T draw t (ρ a) σ K
  | _ => False

/-- is it an append to a slice without a place? -/
noncomputable def nilApp (op : Op) (ρ : Operand → Value) : Bool :=
  match op with
  | .call c => @Option.rec (Option Addr × Nat × Nat) (fun _ => Bool) false (fun p => @Option.rec Addr (fun _ => Bool) true (fun _ => false) p.1) (andThen2 (arg2 (mapQ ρ c.args.toList)) fun s _ => asSl s)
  | _ => false

noncomputable def vcOp (h : Hint) (kind : Nat) (bar draw : Bool) (op : Op) (ρ : Operand → Value) (σ : ASt) (K : Value → ASt → Prop) : Prop :=
  iffP (isZ kind) (okP2 (doOper T call bar draw op ρ σ) K) (iffP (Nat.beq kind 1) (vcKind T call bar draw op ρ σ K) (iffP (Nat.beq kind 3) (vcG T h bar draw op ρ σ K) (iffP (Nat.beq kind 4) (vcLd T draw op ρ σ K) (iffP (Nat.beq kind 5) (iffP (nilApp op ρ) (okP2 (doOper T call bar draw op ρ σ) K) (vcKind T call bar draw op ρ σ K)) (vcAny T call bar draw op ρ σ K)))))

/-- a guard that is not known is split -/
noncomputable def vcGuardS (ops : List Oper) (e : Env) (p : Nat × Bool) (K : HT → Bool → Env → Prop) (h : HT) : Prop :=
  @HT.rec (fun _ => Prop) False (fun h _ => okP (wanted ops e (some p)) fun b => K h b e)
    (fun h1 h2 _ _ => okP (nthQ p.1 ops) fun oj => okP oj.dst fun d => okP (andThen (e.get d) asBv) fun b => (b = p.2 → K h1 true (e.set d (.bool p.2))) ∧ (b = not p.2 → K h2 false (e.set d (.bool (not p.2)))))
    (fun c h _ => okP (nthQ p.1 ops) fun oj => okP oj.dst fun d => okP (andThen (e.get d) asBv) fun b => b = c ∧ K h (iff c p.2 (not p.2)) (e.set d (.bool c))) h
noncomputable def vcGuard (h : HT) (ops : List Oper) (e : Env) (g : Option (Nat × Bool)) (K : HT → Bool → Env → Prop) : Prop :=
  @Option.rec (Nat × Bool) (fun _ => Prop) (K h true e) (fun p => vcGuardS ops e p K h) g

noncomputable def vcOps (h : Hint) (rg : Nat) (ops : List Oper) (bar : Nat → Bool) (draw : Bool) (K : HT → Env → ASt → Prop) (l : List Oper) : HT → Nat → Env → ASt → Prop :=
  @List.rec Oper (fun _ => HT → Nat → Env → ASt → Prop) (fun t _ e σ => K t e σ)
    (fun o _ ih t i e σ => vcGuard t ops e o.guard fun t g e => iffP g (vcOp T call h (kindAt (Nat.add rg i) h.kd) (bar i) draw o.op (env e) σ fun v σ' => ih t (Nat.succ i) (put e v o.dst) σ') (ih t (Nat.succ i) (put e undef o.dst) σ)) l
end

/-- up to what is no part of a state -/
def Cl (Q : AEx → HT → Env → ASt → Prop) : AEx → Env → ASt → Prop := fun x e σ => ∃ t e', (∀ t, e'.get t = e.get t) ∧ Q x t e' (norm σ)

noncomputable def thenH (k : HT → Env → ASt → Prop) (Q : AEx → HT → Env → ASt → Prop) (x : AEx) (t : HT) (e : Env) (σ : ASt) : Prop := @AEx.rec (fun _ => Prop) (k t e σ) (fun id => Q (.exit id) t e σ) (Q .ret t e σ) x

def tmpOf : Operand → Option Nat
  | .tmp t => some t
  | _ => none

noncomputable def vcCond (c : Operand) (e : Env) (K : HT → Bool → Env → Prop) (h : HT) : Prop :=
  @HT.rec (fun _ => Prop) False (fun h _ => okP (asBv (env e c)) fun b => K h b e)
    (fun h1 h2 _ _ => okP (tmpOf c) fun d => okP (asBv (env e c)) fun b => (b = true → K h1 true (e.set d (.bool true))) ∧ (b = false → K h2 false (e.set d (.bool false))))
    (fun c' h _ => okP (tmpOf c) fun d => okP (asBv (env e c)) fun b => b = c' ∧ K h c' (e.set d (.bool c'))) h

/-- the number of a code's first region -/
def firstId : Code → Nat
  | .region id _ _ => id
  | .seq a _ => firstId a
  | .cond _ a _ => firstId a
  | .block _ c => firstId c
  | .loop c => firstId c
  | .scope c => firstId c
  | _ => nat_lit 0

noncomputable def unroll (body : HT → Env → ASt → (AEx → HT → Env → ASt → Prop) → Prop) (K : AEx → HT → Env → ASt → Prop) (n : Nat) : HT → Env → ASt → Prop := @Nat.rec (fun _ => HT → Env → ASt → Prop) (fun _ _ _ => False) (fun _ ih t e σ => body t e σ (thenH ih K)) n

section
variable (L : Code → Env → ASt → (AEx → HT → Env → ASt → Prop) → Prop) (T : Tab) (call : CallF) (h : Hint)

noncomputable def vcC (c : Code) : HT → Env → ASt → (AEx → HT → Env → ASt → Prop) → Prop :=
  @Code.rec (fun _ => HT → Env → ASt → (AEx → HT → Env → ASt → Prop) → Prop)
    (fun t e σ K => K .normal t e (norm σ))
    (fun id ops draw t e σ K => vcOps T call h (Nat.mul id (nat_lit 10000)) ops.toList (barrier ops.toList) draw (fun t e σ => K .normal t e (norm σ)) ops.toList t 0 e σ)
    (fun _ _ a b t e σ K => a t e σ (thenH (fun t e σ => b t e σ K) K))
    (fun c _ _ a b t e σ K => vcCond c e (fun t g e => iffP g (a t e σ K) (b t e σ K)) t)
    (fun id _ c t e σ K => c t e σ fun x => K (leaves id x))
    (fun c body t e σ K => iffP (isZ (kindAt (firstId c) h.un)) (L (.loop c) e σ K) (unroll body K (kindAt (firstId c) h.un) t e σ))
    (fun _ _ _ _ _ _ _ _ _ _ => False)
    (fun id t e σ K => K (.exit id) t e (norm σ))
    (fun _ c => c)
    (fun _ t e σ K => K .normal t e (norm σ))
    (fun _ _ _ _ _ => False)
    (fun t e σ K => K .ret t e (norm σ))
    (fun _ _ _ _ _ => False) c
end

/-- a loop is asked for -/
def loopT (P : Program) (G : Globs) (S : Nat → Bool) (N : Nat) : Code → Env → ASt → (AEx → HT → Env → ASt → Prop) → Prop := fun c e σ K => TriC P G S N c e σ (Cl K)

/-! ### it is enough -/

section
variable {P : Program} {G : Globs} {S : Nat → Bool} {N : Nat} {T : Tab} {call : CallF} {h : Hint}

theorem env_ext {e e' : Env} (he : ∀ t, e'.get t = e.get t) : env e' = env e := by
  funext x
  cases x with
  | tmp t => show orUndef _ = orUndef _; rw [he]
  | _ => rfl

theorem wanted_ext {e e' : Env} (he : ∀ t, e'.get t = e.get t) (ops : List Oper) (g : Option (Nat × Bool)) : wanted ops e' g = wanted ops e g := by
  cases g with
  | none => rfl
  | some p =>
    show (match nthQ p.1 ops with | some oj => yields e' p.2 oj | none => some false) = (match nthQ p.1 ops with | some oj => yields e p.2 oj | none => some false)
    cases nthQ p.1 ops with
    | none => rfl
    | some oj =>
      simp only
      unfold yields
      cases oj.dst with
      | none => rfl
      | some d => simp only [he]

theorem put_ext {e e' : Env} (he : ∀ t, e'.get t = e.get t) (v : Value) (d : Option Tmp) : ∀ t, (put e' v d).get t = (put e v d).get t := by
  intro t
  rw [put_get, put_get, he]

theorem runOps_ext {ops : List Oper} {bar : Nat → Bool} {draw : Bool} : ∀ (l : List Oper) (i : Nat) (e e2 : Env) (σ : ASt) (e' : Env) (σ' : ASt), (∀ t, e2.get t = e.get t) → runOps T call ops bar draw l i e σ = some (e', σ') → ∃ e2', runOps T call ops bar draw l i e2 σ = some (e2', σ') ∧ ∀ t, e2'.get t = e'.get t
  | [], i, e, e2, σ, e', σ', he, hr => by
    cases (show some (e, σ) = some (e', σ') from hr)
    exact ⟨e2, rfl, he⟩
  | o :: l, i, e, e2, σ, e', σ', he, hr => by
    rw [runOps_cons] at hr ⊢
    obtain ⟨g, hg, hr⟩ := andThen_eq hr
    rw [wanted_ext he, hg, andThen_some]
    rw [iff_eq] at hr ⊢
    split at hr
    · rename_i h1
      rw [if_pos h1]
      obtain ⟨v, σ1, h2, h3⟩ := andThen2_eq hr
      rw [env_ext he, h2, andThen2_some]
      exact runOps_ext l (i + 1) _ _ _ _ _ (put_ext he v o.dst) h3
    · rename_i h1
      rw [if_neg h1]
      exact runOps_ext l (i + 1) _ _ _ _ _ (put_ext he undef o.dst) hr

theorem looked_of {bar draw : Bool} {op : Op} {ρ : Operand → Value} {σ : ASt} {v : Value} (hrun : ∀ low, operV T call op ρ ⟨σ.heap, σ.next, low, σ.klow⟩ = some (v, ⟨σ.heap, σ.next, low, σ.klow⟩)) : doOper T call bar draw op ρ σ = some (v, looked draw σ) := by
  cases draw with
  | false => exact hrun σ.low
  | true =>
    show andThen2 (operV T call op ρ ⟨σ.heap, σ.next, σ.next, σ.klow⟩) (fun v σ' => iff (or (Nat.ble σ.next σ'.low) bar) (some (v, (⟨σ'.heap, σ'.next, minN σ.low σ'.low, σ'.klow⟩ : ASt))) none) = _
    rw [hrun σ.next, andThen2_some]
    simp only []
    rw [show Nat.ble σ.next σ.next = true from (ble_iff _ _).2 (Nat.le_refl _)]
    rfl

theorem eqFieldsT_ok {T : Tab} {f g : TypeId → Value → Value → Option Bool} (h : ∀ u x y b, f u x y = some b → g u x y = some b) (xs ys : List Value) : ∀ (fs : List Field) (b : Bool), eqFieldsT (eqPart T f xs ys) fs = some b → eqFields (eqPart T g xs ys) fs = some b
  | [], b, hb => hb
  | x :: fs, b, hb => by
    simp only [eqFieldsT, eqFields] at hb ⊢
    rw [iff_eq] at hb ⊢
    split at hb
    · rename_i hx; rw [if_pos hx]; exact eqFieldsT_ok h xs ys fs b hb
    · rename_i hx
      rw [if_neg hx]
      obtain ⟨c, h1, h2⟩ := andThen_eq hb
      obtain ⟨d, h3, h4⟩ := andThen_eq h2
      obtain ⟨u, g1, g2⟩ := andThen_eq (show andThen (part T x.type xs x.offset) (fun a => andThen (part T x.type ys x.offset) fun b => f x.type a b) = some c from h1)
      obtain ⟨v, g3, g4⟩ := andThen_eq g2
      have : eqPart T g xs ys x.type x.offset = some c := by
        show andThen (part T x.type xs x.offset) (fun a => andThen (part T x.type ys x.offset) fun b => g x.type a b) = some c
        rw [g1, andThen_some, g3, andThen_some]; exact h _ _ _ _ g4
      rw [this, andThen_some]
      cases h4
      cases c
      · rfl
      · exact eqFieldsT_ok h xs ys fs d h3

theorem eqVT_ok {T : Tab} : ∀ (d : Nat) (t : TypeId) (x y : Value) (b : Bool), eqVT T d t x y = some b → eqV T d t x y = some b
  | 0, _, _, _, _, h => by cases h
  | d + 1, t, x, y, b, h => by
    obtain ⟨i, h1, h2⟩ := andThen_eq (show andThen (ty T t) (fun i => eqDT i.desc T (eqVT T d) i.held x y) = some b from h)
    show andThen (ty T t) (fun i => eqD i.desc T (eqV T d) i.held x y) = some b
    rw [h1, andThen_some]
    have key : ∀ dd : TypeDesc, eqDT dd T (eqVT T d) i.held x y = some b → eqD dd T (eqV T d) i.held x y = some b := fun dd hd => by
      have ih := eqVT_ok (T := T) d
      cases dd with
      | struct fields =>
        obtain ⟨h3, h4⟩ := iff_else (show iff i.held none (andThen (asA x) fun xs => andThen (asA y) fun ys => eqFieldsT (eqPart T (eqVT T d) xs ys) fields.toList) = some b from hd)
        show iff i.held none (andThen (asA x) fun xs => andThen (asA y) fun ys => eqFields (eqPart T (eqV T d) xs ys) fields.toList) = some b
        rw [h3, iff_false]
        obtain ⟨xs, h5, h6⟩ := andThen_eq h4
        obtain ⟨ys, h7, h8⟩ := andThen_eq h6
        rw [h5, andThen_some, h7, andThen_some]
        exact eqFieldsT_ok ih xs ys _ b h8
      | interface ms =>
        obtain ⟨a, h3, h4⟩ := andThen_eq (show andThen (isNilI x) (fun a => andThen (isNilI y) fun c => eqI T (eqVT T d) a c) = some b from hd)
        obtain ⟨c, h5, h6⟩ := andThen_eq h4
        show andThen (isNilI x) (fun a => andThen (isNilI y) fun c => eqI T (eqV T d) a c) = some b
        rw [h3, andThen_some, h5, andThen_some]
        match a, c, h6 with
        | none, c, h6 => exact h6
        | some _, none, h6 => exact h6
        | some p, some q, h6 =>
          have h6 : iff (Nat.beq p.1 q.1) (andThen (ty T p.1) fun j => iff j.info.comparable (eqVT T d p.1 p.2 q.2) none) (some false) = some b := h6
          show iff (Nat.beq p.1 q.1) (andThen (ty T p.1) fun j => iff j.info.comparable (eqV T d p.1 p.2 q.2) none) (some false) = some b
          rw [iff_eq] at h6 ⊢
          split at h6
          · rename_i hp
            rw [if_pos hp]
            obtain ⟨j, h7, h8⟩ := andThen_eq h6
            obtain ⟨h9, h10⟩ := iff_some h8
            rw [h7, andThen_some, h9, iff_true]
            exact ih _ _ _ _ h10
          · rename_i hp; rw [if_neg hp]; exact h6
      | array len elem =>
        obtain ⟨xs, h3, h4⟩ := andThen_eq (show andThen (asA x) (fun xs => andThen (asA y) fun ys => andThen (size T elem) fun z => iff (and (isIntT T elem) (Nat.beq z 1)) (eqInts len xs ys) (eqArr (fun l r => eqPart T (eqVT T d) l r elem 0) z len xs ys)) = some b from hd)
        obtain ⟨ys, h5, h6⟩ := andThen_eq h4
        obtain ⟨z, h7, h8⟩ := andThen_eq h6
        show andThen (asA x) (fun xs => andThen (asA y) fun ys => andThen (size T elem) fun z => iff (and (isIntT T elem) (Nat.beq z 1)) (eqInts len xs ys) (eqArr (fun l r => eqPart T (eqV T d) l r elem 0) z len xs ys)) = some b
        rw [h3, andThen_some, h5, andThen_some, h7, andThen_some]
        rw [iff_eq] at h8 ⊢
        split at h8
        · rename_i hp; rw [if_pos hp]; exact h8
        · rename_i hp
          rw [if_neg hp]
          clear h3 h5 h4 h6 hd
          induction len generalizing xs ys b with
          | zero => exact h8
          | succ n ihn =>
            simp only [eqArr] at h8 ⊢
            obtain ⟨c, g1, g2⟩ := andThen_eq h8
            obtain ⟨u, k1, k2⟩ := andThen_eq (show andThen (part T elem xs 0) (fun a => andThen (part T elem ys 0) fun b => eqVT T d elem a b) = some c from g1)
            obtain ⟨v, k3, k4⟩ := andThen_eq k2
            have : eqPart T (eqV T d) xs ys elem 0 = some c := by
              show andThen (part T elem xs 0) (fun a => andThen (part T elem ys 0) fun b => eqV T d elem a b) = some c
              rw [k1, andThen_some, k3, andThen_some]; exact ih _ _ _ _ k4
            rw [this, andThen_some]
            cases c
            · exact g2
            · exact ihn _ h h2 _ _ g2
      | _ => exact hd
    exact key _ h2

theorem tupP_eq {x : Value} {f : List Value → Prop} {d : Prop} (h : tupP x f d) : (∃ vs, x = .tuple vs ∧ f vs.toList) ∨ d := by
  cases x <;> first | exact .inl ⟨_, rfl, h⟩ | exact .inr h
theorem tupElse_sl {α : Type} {x : Value} {f : List Value → Option α} {d : Option α} {p : Option Addr × Nat × Nat} (h : asSl x = some p) : tupElse x f d = d := by
  cases x <;> first | rfl | cases h
theorem tupElse_ptr {α : Type} {x : Value} {f : List Value → Option α} {d : Option α} {p : Nat × Nat} (h : asPtr x = some p) : tupElse x f d = d := by
  cases x <;> first | rfl | cases h
theorem vcKind_ok {bar draw : Bool} {op : Op} {ρ : Operand → Value} {σ : ASt} {K : Value → ASt → Prop} (hv : vcKind T call bar draw op ρ σ K) : ∃ v σ', doOper T call bar draw op ρ σ = some (v, σ') ∧ K v σ' := by
  have look : ∀ {v : Value}, (∀ low, operV T call op ρ ⟨σ.heap, σ.next, low, σ.klow⟩ = some (v, ⟨σ.heap, σ.next, low, σ.klow⟩)) → K v (looked draw σ) → ∃ v σ', doOper T call bar draw op ρ σ = some (v, σ') ∧ K v σ' := fun hr hk => ⟨_, _, looked_of hr, hk⟩
  unfold vcKind at hv
  split at hv
  · rename_i t a
    simp only [vcLoad, okP_iff, okP2_iff] at hv
    obtain ⟨k, off, h1, c, h2, v, h3, hk⟩ := hv
    refine look (v := v) (fun low => ?_) hk
    show loadD T t (⟨σ.heap, σ.next, low, σ.klow⟩ : ASt) (ρ a) = _
    unfold loadD
    rw [tupElse_ptr h1, h1, andThen2_some]
    show andThen (andThen (σ.row k) fun c => part T t c off) _ = _
    rw [h2, andThen_some, h3, andThen_some]
  · rename_i t x i
    simp only [vcIdx, okP_iff, okP2_iff] at hv
    obtain ⟨kk, n, h1, d, h2, hv⟩ := hv
    have key : ∀ p : Value, indexAddrV T t (ρ x) (ρ i) = some p → ∀ low, operV T call (.indexAddr t x i) ρ ⟨σ.heap, σ.next, low, σ.klow⟩ = some (p, ⟨σ.heap, σ.next, low, σ.klow⟩) := fun p hp low => by
      show Abs.val (⟨σ.heap, σ.next, low, σ.klow⟩ : ASt) (indexAddrV T t (ρ x) (ρ i)) = _
      rw [hp]; rfl
    cases d <;> try simp only [vcIdxD, okP_iff, okP2_iff, okP3_iff] at hv
    · rename_i e
      rcases tupP_eq hv with ⟨vs, hvs, hv⟩ | hv
      · obtain ⟨rows, h3, z, h4, j, c, h5, h6, h7, hk⟩ := hv
        refine look (key _ ?_) hk
        show andThen2 (asI (ρ i)) _ = _
        rw [h1, andThen2_some, h2, andThen_some]
        simp only [indexAddrD, indexAddrSl, hvs, tupElse]
        rw [h3, andThen_some, h4, andThen_some, h5, andThen_some]
        unfold rowAt
        rw [h6, andThen_some]
        show andThen (some c) _ = _
        rw [andThen_some, h7, iff_true]
      obtain ⟨_, len, cap, h3, a, rfl, z, h4, j, h5, hk⟩ := hv
      refine look (key _ ?_) hk
      show andThen2 (asI (ρ i)) _ = _
      rw [h1, andThen2_some, h2, andThen_some]
      simp only [indexAddrD, indexAddrSl]
      rw [tupElse_sl h3, h3, andThen3_some, andThen_some, h4, andThen_some, h5, andThen_some]
      rfl
    · rename_i len e
      obtain ⟨k, off, h3, z, h4, j, h5, hk⟩ := hv
      refine look (key _ ?_) hk
      show andThen2 (asI (ρ i)) _ = _
      rw [h1, andThen2_some, h2, andThen_some]
      simp only [indexAddrD, indexAddrArr]
      rw [tupElse_ptr h3, h3, andThen2_some, h4, andThen_some, h5, andThen_some]
      rfl
  · rename_i t x i
    obtain ⟨v, h1, hk⟩ := hv
    refine look (v := v) (fun low => ?_) hk
    show Abs.val (⟨σ.heap, σ.next, low, σ.klow⟩ : ASt) (indexV T t (ρ x) (ρ i)) = _
    rw [h1]; rfl
  · rename_i t x lo hi mx
    obtain ⟨v, h1, hk⟩ := hv
    refine look (v := v) (fun low => ?_) hk
    show Abs.val (⟨σ.heap, σ.next, low, σ.klow⟩ : ASt) (sliceV T t (ρ x) (lo.map ρ) (hi.map ρ) (mx.map ρ)) = _
    rw [h1]; rfl
  · rename_i bop t x y yt
    unfold vcBins at hv
    cases hn : isNeq bop with
    | some n =>
      rw [hn] at hv
      have hv : vcCmp T draw bop t x y (ρ x) (ρ y) n σ K := hv
      simp only [vcCmp, okP_iff] at hv
      obtain ⟨xs, h1, b, h2, hv⟩ := hv
      rcases iffP_eq hv with ⟨h3, hk⟩ | ⟨_, hk⟩
      · refine look (v := .bool (iff n (not b) b)) (fun low => ?_) hk
        show iff (iff (needsGuard bop) (guarded T t x y (ρ x)) true) (Abs.val (⟨σ.heap, σ.next, low, σ.klow⟩ : ASt) (binV (ρ x) T bop t (ρ y))) none = _
        rw [h3, iff_true, asA_eq h1]
        show Abs.val _ (andThen (isNeq bop) fun n => andThen (eqV T 10 t (.agg ⟨xs⟩) (ρ y)) fun b => some (.bool (iff n (not b) b))) = _
        rw [asA_eq h1] at h2
        rw [hn, andThen_some, eqVT_ok 10 _ _ _ _ h2, andThen_some]
        rfl
      · exact hk.elim
    | none =>
    rw [hn] at hv
    have hv : vcBin draw bop (ρ x) (ρ y) σ K := hv
    simp only [vcBin, okP_iff, okP2_iff] at hv
    obtain ⟨k, a, h1, k', b, h2, v, h3, h4, hk⟩ := hv
    obtain ⟨h5, h6⟩ := iff_some h3
    have hx := asI_eq h1
    refine look (v := v) (fun low => ?_) hk
    have hop : iff (needsGuard bop) (guarded T t x y (ρ x)) true = true ∧ intOp bop k a b = some v := by
      cases bop <;> simp only [quoOf, reduceCtorEq] at h6
      · cases h6
        exact ⟨rfl, by show iff (eqQ b (Int.ofNat 0)) none _ = _; rw [h4]; rfl⟩
      · cases h6
        exact ⟨rfl, by show iff (eqQ b (Int.ofNat 0)) none _ = _; rw [h4]; rfl⟩
    show iff (iff (needsGuard bop) (guarded T t x y (ρ x)) true) (Abs.val (⟨σ.heap, σ.next, low, σ.klow⟩ : ASt) (binV (ρ x) T bop t (ρ y))) none = _
    rw [hop.1, iff_true, hx]
    show Abs.val _ (andThen2 (asI (ρ y)) fun k' b => iff (or (isShift bop) (sameKind k k')) (intOp bop k a b) none) = _
    rw [h2, andThen2_some]
    simp only []
    rw [h5, Bool.or_true, iff_true, hop.2]
    rfl
  · rename_i t a x
    rw [iffP_iff] at hv
    rcases hv with ⟨_, hv⟩ | ⟨hd, hv⟩
    · exact hv
    · subst hd
      simp only [vcStore, okP_iff, okP2_iff, okP3_iff] at hv
      obtain ⟨k, off, h1, z, h2, vs, h3, c, e, org, h4, h5, c', h6, hk⟩ := hv
      refine ⟨_, _, ?_, hk⟩
      show andThen (andThen2 (asPtr (ρ a)) fun k off => andThen (size T t) fun z => andThen (flat (ρ x)) fun vs => iff (Nat.beq (lenQ vs) z) (σ.setAt k off vs) none) _ = _
      rw [h1, andThen2_some, h2, andThen_some, h3, andThen_some, h5, iff_true]
      show andThen (andThen3 (andThen (σ.obj k) rowsOf) _) _ = _
      rw [h4, andThen3_some, h6, andThen_some, andThen_some]
  · rename_i c
    rw [iffP_iff] at hv
    rcases hv with ⟨_, hv⟩ | ⟨hd, hv⟩
    · exact hv
    · subst hd
      obtain ⟨callee, cargs, ctys⟩ := c
      cases callee with
      | builtin b =>
        cases b <;> simp only [vcAppC, vcApp, okP_iff, okP2_iff, okP3_iff] at hv
        obtain ⟨sT, xT, h1, s, x, h2, d, h3, e, h4, ei, h5, base, len, cap, h6, dx, h7, n, ys, h8, a, rfl, c, eo, org, h9, z, rfl, sp, h10, g1, g2, g3, g4, g5, g6, g7, g8, hk⟩ := hv
        obtain ⟨blk, off, spot⟩ := a
        have hsp : spot = some sp := h10
        subst hsp
        obtain rfl : off = 0 := (Tr.isZ_iff _).1 g5
        obtain rfl : sp = ei.size := (beq_iff _ _).1 g6
        obtain rfl : z = ei.size := (beq_iff _ _).1 g7
        obtain ⟨zc, hzc⟩ := Option.isSome_iff_exists.1 g4
        obtain ⟨o, ho, hro⟩ := andThen_eq h9
        obtain rfl := rowsOf_eq hro
        have hrow : σ.row blk = some c := by
          show andThen (σ.obj blk) rowOf = _
          rw [ho]; rfl
        refine ⟨_, _, ?_, hk⟩
        show andThen2 (arg2 ctys.toList) (fun sT xT => andThen2 (arg2 (mapQ ρ cargs.toList)) fun s x => appendV T sT xT s x σ) = _
        rw [h1, andThen2_some, h2, andThen2_some]
        unfold appendV
        rw [h3, andThen_some, h4, andThen_some, h5, andThen_some, tupElse_sl h6, h6, andThen3_some, h7, andThen_some, h8, andThen2_some]
        simp only []
        rw [g1, iff_false, g2, g3, Bool.and_self, iff_true, hzc, andThen_some]
        have hfirst : firstA σ (Nat.mul len ei.size) (some ⟨blk, 0, some ei.size⟩) = some c := by
          show andThen (σ.row blk) (fun c => sub c 0 (Nat.mul len ei.size)) = _
          rw [hrow, andThen_some, ← g8, lenQ_eq]
          show takeO c.length (dropQ 0 c) = some c
          rw [dropQ_eq, List.drop_zero]
          clear hk ho hro hrow h9 g8
          induction c with
          | nil => rfl
          | cons v c ih =>
            show andThen (takeO c.length c) (fun r => some (v :: r)) = _
            rw [ih]; rfl
        rw [hfirst, andThen_some]
        show iff (Nat.beq ei.size ei.size) (andThen3 (σ.kill blk (Nat.add 0 (Nat.mul len ei.size))) _) none = _
        rw [show Nat.beq ei.size ei.size = true from (beq_iff _ _).2 rfl, iff_true]
        unfold ASt.kill
        rw [ho]
        show andThen3 (iff (Nat.beq (lenQ c) (Nat.add 0 (Nat.mul len ei.size))) _ none) _ = _
        rw [show Nat.beq (lenQ c) (Nat.add 0 (Nat.mul len ei.size)) = true from (beq_iff _ _).2 (g8.trans (Nat.zero_add _).symm), iff_true, andThen_some, andThen3_some]
        show iff (or (Nat.beq ei.size _) (Nat.beq ei.size ei.size)) _ none = _
        rw [show Nat.beq ei.size ei.size = true from (beq_iff _ _).2 rfl, Bool.or_true, iff_true]
        rfl
      | invoke r n => exact hv.elim
      | value f => exact hv.elim
  · exact hv

theorem operV_call (T : Tab) (op : Op) (ρ : Operand → Value) (σ : ASt) : (∃ r, ∀ call : CallF, operV T call op ρ σ = r) ∨ ∃ g args, ∀ call : CallF, operV T call op ρ σ = call g args σ := by
  have hI : ∀ recv name args, (∃ r, ∀ call : CallF, callI T call σ recv name args = r) ∨ ∃ g as, ∀ call : CallF, callI T call σ recv name args = call g as σ := fun recv name args => by
    unfold callI
    cases isNilI recv with
    | none => exact .inl ⟨none, fun _ => rfl⟩
    | some o =>
      cases o with
      | none => exact .inl ⟨none, fun _ => rfl⟩
      | some tv =>
        cases hm : methodV T tv.1 tv.2 name with
        | none => exact .inl ⟨none, fun call => by rw [andThen_some]; obtain ⟨t, v⟩ := tv; rw [andThen2_some, hm]; rfl⟩
        | some fr => exact .inr ⟨fr.1, fr.2 :: args, fun call => by rw [andThen_some]; obtain ⟨t, v⟩ := tv; obtain ⟨f, r⟩ := fr; rw [andThen2_some, hm, andThen2_some]⟩
  unfold operV
  cases hc : callOf op with
  | none => exact .inl ⟨_, fun _ => rfl⟩
  | some c =>
    obtain ⟨callee, cargs, ctys⟩ := c
    cases callee with
    | builtin b => exact .inl ⟨_, fun _ => rfl⟩
    | invoke r n => exact hI (ρ r) n (mapQ ρ cargs.toList)
    | value f =>
      show (∃ r, ∀ call : CallF, callClo T call σ (mapQ ρ cargs.toList) (ρ f) = r) ∨ ∃ g as, ∀ call : CallF, callClo T call σ (mapQ ρ cargs.toList) (ρ f) = call g as σ
      unfold callClo
      cases asF (ρ f) with
      | none => exact .inl ⟨none, fun _ => rfl⟩
      | some p =>
        obtain ⟨fn, first, captured⟩ := p
        cases fn with
        | func g => exact .inr ⟨g, _, fun _ => rfl⟩
        | method name =>
          have key : ∀ call : CallF, andThen3 (some (Fn.method name, first, captured)) (fun fn first captured => callFn T call σ (appQ first (mapQ ρ cargs.toList)) captured fn) = andThen2 (arg1 (appQ first (mapQ ρ cargs.toList))) fun r rest => callI T call σ r name rest := fun _ => rfl
          cases ha : arg1 (appQ first (mapQ ρ cargs.toList)) with
          | none => exact .inl ⟨none, fun call => by rw [key, ha]; rfl⟩
          | some q =>
            rcases hI q.1 name q.2 with ⟨r, hr⟩ | ⟨g, as, hr⟩
            · exact .inl ⟨r, fun call => by rw [key, ha]; exact hr call⟩
            · exact .inr ⟨g, as, fun call => by rw [key, ha]; exact hr call⟩
        | _ => exact .inl ⟨none, fun _ => rfl⟩

theorem doOper_call (T : Tab) (bar draw : Bool) (op : Op) (ρ : Operand → Value) (σ : ASt) : ∃ σ1 : ASt, ∃ post : Res → Res, (∀ call : CallF, doOper T call bar draw op ρ σ = post (operV T call op ρ σ1)) := by
  cases draw with
  | false => exact ⟨σ, id, fun _ => rfl⟩
  | true => exact ⟨⟨σ.heap, σ.next, σ.next, σ.klow⟩, fun r => andThen2 r fun v σ' => iff (or (Nat.ble σ.next σ'.low) bar) (some (v, ⟨σ'.heap, σ'.next, minN σ.low σ'.low, σ'.klow⟩)) none, fun _ => rfl⟩

theorem vcG_ok {h : Hint} (hg : Guarded h call) {bar draw : Bool} {op : Op} {ρ : Operand → Value} {σ : ASt} {K : Value → ASt → Prop} (hv : vcG T h bar draw op ρ σ K) : ∃ v σ', doOper T call bar draw op ρ σ = some (v, σ') ∧ K v σ' := by
  obtain ⟨h1, h2⟩ := hv
  obtain ⟨b, σb, h3, rfl⟩ := (okP2_iff _ _).1 h1
  obtain ⟨v, σ', h4, hk⟩ := (okP2_iff _ _).1 h2
  refine ⟨v, σ', ?_, hk⟩
  obtain ⟨σ1, post, hp, hpost⟩ : ∃ σ1 : ASt, ∃ post : Res → Res, (∀ call : CallF, doOper T call bar draw op ρ σ = post (operV T call op ρ σ1)) ∧ ∀ r a s, post r = some (a, s) → ∃ s', r = some (a, s') := by
    cases draw with
    | false => exact ⟨σ, id, fun _ => rfl, fun r a s hr => ⟨s, hr⟩⟩
    | true =>
      refine ⟨⟨σ.heap, σ.next, σ.next, σ.klow⟩, fun r => andThen2 r fun v σ' => iff (or (Nat.ble σ.next σ'.low) bar) (some (v, ⟨σ'.heap, σ'.next, minN σ.low σ'.low, σ'.klow⟩)) none, fun _ => rfl, fun r a s hr => ?_⟩
      obtain ⟨v, s', h5, h6⟩ := andThen2_eq hr
      obtain ⟨_, h7⟩ := iff_some h6
      cases h7
      exact ⟨s', h5⟩
  rw [hp] at h3 h4 ⊢
  rcases operV_call T op ρ σ1 with ⟨r, hr⟩ | ⟨g, args, hr⟩
  · rw [hr] at h4 ⊢; exact h4
  · rw [hr] at h3 h4 ⊢
    obtain ⟨s', h5⟩ := hpost _ _ _ h3
    obtain ⟨⟨b, v1, s1⟩, h6, h7⟩ := andThen_eq (show andThen (h.cg.fn g args σ1) (fun p => some (Value.bool p.1, p.2.2)) = some (.bool true, s') from h5)
    obtain rfl : b = true := by cases h7; rfl
    rw [hg g args σ1 _ v1 s1 h6 rfl]
    have : callU h.cg.fn g args σ1 = some (v1, s1) := by
      show andThen (h.cg.fn g args σ1) (fun p => some p.2) = _
      rw [h6]; rfl
    rw [this] at h4
    exact h4

theorem vcLd_ok {bar draw : Bool} {op : Op} {ρ : Operand → Value} {σ : ASt} {K : Value → ASt → Prop} (hv : vcLd T draw op ρ σ K) : ∃ v σ', doOper T call bar draw op ρ σ = some (v, σ') ∧ K v σ' := by
  unfold vcLd at hv
  split at hv
  · rename_i t a
    refine vcKind_ok (op := .load t a) (show vcLoad T draw t (ρ a) σ K from ?_)
    simp only [vcLoadS, okP_iff, okP2_iff] at hv
    obtain ⟨k, off, h1, c, h2, i, h3, ss, h4, hv⟩ := hv
    obtain ⟨l, h5, hk⟩ := exSh_eq hv
    simp only [vcLoad, okP_iff, okP2_iff]
    exact ⟨k, off, h1, c, h2, _, h5, hk⟩
  · exact hv.elim

theorem vcOp_ok {kind : Nat} (hg : Guarded h call) {bar draw : Bool} {op : Op} {ρ : Operand → Value} {σ : ASt} {K : Value → ASt → Prop} (hv : vcOp T call h kind bar draw op ρ σ K) : ∃ v σ', doOper T call bar draw op ρ σ = some (v, σ') ∧ K v σ' := by
  unfold vcOp at hv
  rw [iffP_iff] at hv
  rcases hv with ⟨_, hv⟩ | ⟨_, hv⟩
  · exact (okP2_iff _ _).1 hv
  · rw [iffP_iff] at hv
    rcases hv with ⟨_, hv⟩ | ⟨_, hv⟩
    · exact vcKind_ok hv
    · rcases (iffP_iff _ _ _).1 hv with ⟨_, hv⟩ | ⟨_, hv⟩
      · exact vcG_ok hg hv
      · rcases (iffP_iff _ _ _).1 hv with ⟨_, hv⟩ | ⟨_, hv⟩
        · exact vcLd_ok hv
        · rcases (iffP_iff _ _ _).1 hv with ⟨_, hv⟩ | ⟨_, hv⟩
          · rcases (iffP_iff _ _ _).1 hv with ⟨_, hv⟩ | ⟨_, hv⟩
            · exact (okP2_iff _ _).1 hv
            · exact vcKind_ok hv
          · exact hv

theorem asBv_eq {v : Value} {b : Bool} (h : asBv v = some b) : v = .bool b := by
  cases v <;> simp [asBv] at h
  subst h; rfl

theorem set_same {e : Env} {d : Nat} {v : Value} (h : e.get d = some v) : ∀ t, (e.set d v).get t = e.get t := by
  intro t
  rw [Tr.get_set]
  by_cases ht : t = d
  · subst ht; rw [if_pos rfl, h]
  · rw [if_neg ht]

theorem vcGuard_ok {t : HT} {ops : List Oper} {e : Env} {g : Option (Nat × Bool)} {K : HT → Bool → Env → Prop} (hv : vcGuard t ops e g K) : ∃ t' b e', wanted ops e g = some b ∧ (∀ t, e'.get t = e.get t) ∧ K t' b e' := by
  cases g with
  | none => exact ⟨t, true, e, rfl, fun _ => rfl, hv⟩
  | some p =>
    have hv : vcGuardS ops e p K t := hv
    cases t with
    | done => exact (show False from hv).elim
    | lit h =>
      obtain ⟨b, h1, hk⟩ := (okP_iff _ _).1 (show okP (wanted ops e (some p)) (fun b => K h b e) from hv)
      exact ⟨h, b, e, h1, fun _ => rfl, hk⟩
    | split t1 t2 =>
      have hv : okP (nthQ p.1 ops) fun oj => okP oj.dst fun d => okP (andThen (e.get d) asBv) fun b => (b = p.2 → K t1 true (e.set d (.bool p.2))) ∧ (b = not p.2 → K t2 false (e.set d (.bool (not p.2)))) := hv
      simp only [okP_iff] at hv
      obtain ⟨oj, h1, d, h2, b, h3, hv1, hv2⟩ := hv
      obtain ⟨v, h4, h5⟩ := andThen_eq h3
      obtain rfl := asBv_eq h5
      have hw : wanted ops e (some p) = some (b == p.2) := by
        show (match nthQ p.1 ops with | some oj => yields e p.2 oj | none => some false) = _
        rw [h1]
        show yields e p.2 oj = _
        unfold yields
        rw [h2]
        show andThen (e.get d) (guardOf p.2) = _
        rw [h4]; rfl
      by_cases hb : b = p.2
      · refine ⟨t1, true, _, by rw [hw, hb]; simp, ?_, hv1 hb⟩
        subst hb; exact set_same h4
      · have hb2 : b = not p.2 := by cases b <;> cases hp : p.2 <;> simp_all
        refine ⟨t2, false, _, by rw [hw, hb2]; cases p.2 <;> rfl, ?_, hv2 hb2⟩
        subst hb2; exact set_same h4
    | sure c t1 =>
      have hv : okP (nthQ p.1 ops) fun oj => okP oj.dst fun d => okP (andThen (e.get d) asBv) fun b => b = c ∧ K t1 (iff c p.2 (not p.2)) (e.set d (.bool c)) := hv
      simp only [okP_iff] at hv
      obtain ⟨oj, h1, d, h2, b, h3, rfl, hv2⟩ := hv
      obtain ⟨v, h4, h5⟩ := andThen_eq h3
      obtain rfl := asBv_eq h5
      refine ⟨t1, _, _, ?_, set_same h4, hv2⟩
      show (match nthQ p.1 ops with | some oj => yields e p.2 oj | none => some false) = _
      rw [h1]
      show yields e p.2 oj = _
      unfold yields
      rw [h2]
      show andThen (e.get d) (guardOf p.2) = _
      rw [h4]
      cases b <;> cases p.2 <;> rfl

theorem vcOps_ok {rg : Nat} (hg : Guarded h call) {ops : List Oper} {bar : Nat → Bool} {draw : Bool} {K : HT → Env → ASt → Prop} : ∀ (l : List Oper) (t : HT) (i : Nat) (e : Env) (σ : ASt), vcOps T call h rg ops bar draw K l t i e σ → ∃ t' e' e'' σ', runOps T call ops bar draw l i e σ = some (e', σ') ∧ (∀ t, e''.get t = e'.get t) ∧ K t' e'' σ'
  | [], t, i, e, σ, hv => ⟨t, e, e, σ, rfl, fun _ => rfl, hv⟩
  | o :: l, t, i, e, σ, hv => by
    obtain ⟨t1, b, e1, h1, h2, hv⟩ := vcGuard_ok (show vcGuard t ops e o.guard (fun t g e => iffP g (vcOp T call h (kindAt (Nat.add rg i) h.kd) (bar i) draw o.op (env e) σ fun v σ' => vcOps T call h rg ops bar draw K l t (i + 1) (put e v o.dst) σ') (vcOps T call h rg ops bar draw K l t (i + 1) (put e undef o.dst) σ)) from hv)
    rw [runOps_cons, h1, andThen_some]
    rcases (iffP_iff _ _ _).1 hv with ⟨rfl, hv⟩ | ⟨rfl, hv⟩
    · obtain ⟨v, σ1, h3, hv⟩ := vcOp_ok hg hv
      obtain ⟨t', e', e'', σ', h4, h5, hk⟩ := vcOps_ok hg l t1 (i + 1) _ _ hv
      obtain ⟨e2', h6, h7⟩ := runOps_ext l (i + 1) (put e1 v o.dst) (put e v o.dst) σ1 e' σ' (put_ext (fun t => (h2 t).symm) v o.dst) h4
      rw [env_ext h2] at h3
      rw [iff_true, h3, andThen2_some]
      exact ⟨t', e2', e'', σ', h6, fun t => (h5 t).trans (h7 t).symm, hk⟩
    · obtain ⟨t', e', e'', σ', h4, h5, hk⟩ := vcOps_ok hg l t1 (i + 1) _ _ hv
      obtain ⟨e2', h6, h7⟩ := runOps_ext l (i + 1) (put e1 undef o.dst) (put e undef o.dst) σ e' σ' (put_ext (fun t => (h2 t).symm) undef o.dst) h4
      rw [iff_false]
      exact ⟨t', e2', e'', σ', h6, fun t => (h5 t).trans (h7 t).symm, hk⟩

theorem vcCond_ok {c : Operand} {e : Env} {K : HT → Bool → Env → Prop} {t : HT} (hv : vcCond c e K t) : ∃ t' b e', asB (env e c) = some b ∧ (∀ t, e'.get t = e.get t) ∧ K t' b e' := by
  cases t with
  | done => exact (show False from hv).elim
  | lit h =>
    obtain ⟨b, h1, hk⟩ := (okP_iff _ _).1 (show okP (asBv (env e c)) (fun b => K h b e) from hv)
    rw [asBv_eq h1]
    exact ⟨h, b, e, rfl, fun _ => rfl, hk⟩
  | split t1 t2 =>
    have hv : okP (tmpOf c) fun d => okP (asBv (env e c)) fun b => (b = true → K t1 true (e.set d (.bool true))) ∧ (b = false → K t2 false (e.set d (.bool false))) := hv
    simp only [okP_iff] at hv
    obtain ⟨d, h1, b, h2, hv1, hv2⟩ := hv
    cases c <;> simp [tmpOf] at h1
    subst h1
    rename_i d
    have h3 := asBv_eq h2
    have h4 : e.get d = some (.bool b) := by
      cases hg : e.get d with
      | none => have : orUndef (e.get d) = .bool b := h3; rw [hg] at this; cases this
      | some v => have : orUndef (e.get d) = .bool b := h3; rw [hg] at this; rw [show v = .bool b from this]
    rw [h3]
    cases b with
    | true => exact ⟨t1, true, _, rfl, set_same h4, hv1 rfl⟩
    | false => exact ⟨t2, false, _, rfl, set_same h4, hv2 rfl⟩
  | sure c' t1 =>
    have hv : okP (tmpOf c) fun d => okP (asBv (env e c)) fun b => b = c' ∧ K t1 c' (e.set d (.bool c')) := hv
    simp only [okP_iff] at hv
    obtain ⟨d, h1, b, h2, rfl, hv2⟩ := hv
    cases c <;> simp [tmpOf] at h1
    subst h1
    rename_i d
    have h3 := asBv_eq h2
    have h4 : e.get d = some (.bool b) := by
      cases hg : e.get d with
      | none => have : orUndef (e.get d) = .bool b := h3; rw [hg] at this; cases this
      | some v => have : orUndef (e.get d) = .bool b := h3; rw [hg] at this; rw [show v = .bool b from this]
    rw [h3]
    exact ⟨t1, b, _, rfl, set_same h4, hv2⟩

theorem vcC_ok (hx : P.follows .mixedOrders = true) (hT : TyOk P T) (hc : CallSim P G call) (hm : MonoF call) (hg : Guarded h call) : ∀ (c : Code), codeOk G N c = true → ∀ t e σ K, vcC (loopT P G S N) T call h c t e σ K → TriC P G S N c e σ (Cl K) := by
  intro c
  induction c with
  | skip => intro _ t e σ K hv; exact tri_skip ⟨t, e, fun _ => rfl, hv⟩
  | region id ops draw =>
    intro hok t e σ K hv
    obtain ⟨t', e', e'', σ', h1, h2, h3⟩ := vcOps_ok (h := h) hg ops.toList t 0 e σ (show vcOps T call h (Nat.mul id (nat_lit 10000)) ops.toList (barrier ops.toList) draw (fun t e σ => K .normal t e (norm σ)) ops.toList t 0 e σ from hv)
    refine tri_run (sim_region (lf := 0) hx hT hc hm hok) (fun e σ x e' σ' hr => mono_code hm _ e σ x e' σ' hr) (x := .normal) (e' := e') (σ' := σ') ?_ ⟨t', e'', h2, h3⟩
    show regionO (runOps T call ops.toList (barrier ops.toList) draw ops.toList 0 e σ) = _
    rw [h1]; rfl
  | seq a b iha ihb =>
    intro hok t e σ K hv
    simp only [codeOk, Bool.and_eq_true] at hok
    apply tri_seq
    refine (iha hok.1 t e σ _ hv).mono fun x e1 σ1 ⟨t2, e2, h1, h2⟩ => ?_
    cases x with
    | normal => exact tri_env h1 (tri_norm (ihb hok.2 t2 e2 (norm σ1) K h2))
    | exit id => exact ⟨t2, e2, h1, h2⟩
    | ret => exact ⟨t2, e2, h1, h2⟩
  | cond c a b iha ihb =>
    intro hok t e σ K hv
    simp only [codeOk, Bool.and_eq_true] at hok
    obtain ⟨t1, g, e1, h1, h2, hv⟩ := vcCond_ok (show vcCond c e (fun t g e => iffP g (vcC (loopT P G S N) T call h a t e σ K) (vcC (loopT P G S N) T call h b t e σ K)) t from hv)
    refine tri_cond h1 hok.1 (fun ht => ?_) (fun ht => ?_)
    · subst ht; exact tri_env h2 (iha hok.2.1 t1 e1 σ K hv)
    · subst ht; exact tri_env h2 (ihb hok.2.2 t1 e1 σ K hv)
  | block id c ih =>
    intro hok t e σ K hv
    apply tri_block
    exact (ih hok t e σ _ hv).mono fun x e1 σ1 hq => hq
  | loop c ih =>
    intro hok t e σ K hv
    rcases (iffP_iff _ _ _).1 (show iffP (isZ (kindAt (firstId c) h.un)) (loopT P G S N (.loop c) e σ K) (unroll (vcC (loopT P G S N) T call h c) K (kindAt (firstId c) h.un) t e σ) from hv) with ⟨_, hv⟩ | ⟨_, hv⟩
    · exact hv
    · refine tri_loop (fun n e σ => ∃ t e' σ', (∀ t, e'.get t = e.get t) ∧ (σ' = σ ∨ σ' = norm σ) ∧ unroll (vcC (loopT P G S N) T call h c) K n t e' σ') (fun n e σ hI => ?_) ⟨t, e, σ, fun _ => rfl, .inl rfl, hv⟩
      obtain ⟨t, e', σ', h1, h2, h3⟩ := hI
      cases n with
      | zero => exact (show False from h3).elim
      | succ n =>
        have h4 : TriC P G S N c e' σ' (Cl (thenH (unroll (vcC (loopT P G S N) T call h c) K n) K)) := ih hok t e' σ' _ h3
        have h5 : TriC P G S N c e σ (Cl (thenH (unroll (vcC (loopT P G S N) T call h c) K n) K)) := by
          rcases h2 with rfl | rfl
          · exact tri_env h1 h4
          · exact tri_env h1 (tri_norm h4)
        refine h5.mono fun x e1 σ1 ⟨t2, e2, g1, g2⟩ => ?_
        cases x with
        | normal => exact ⟨n, Nat.lt_succ_self n, t2, e2, norm σ1, g1, .inr rfl, g2⟩
        | exit id => exact ⟨t2, e2, g1, g2⟩
        | ret => exact ⟨t2, e2, g1, g2⟩
  | rangeFunc => intro _ t e σ K hv; exact (show False from hv).elim
  | exit id => intro _ t e σ K hv; exact tri_exit ⟨t, e, fun _ => rfl, hv⟩
  | scope c ih => intro hok t e σ K hv; exact tri_scope (ih hok t e σ K hv)
  | label => intro _ t e σ K hv; exact tri_label ⟨t, e, fun _ => rfl, hv⟩
  | goto => intro _ t e σ K hv; exact (show False from hv).elim
  | ret => intro _ t e σ K hv; exact tri_ret ⟨t, e, fun _ => rfl, hv⟩
  | refuse => intro _ t e σ K hv; exact (show False from hv).elim
end
end Go.Abs

/- SPECIFICATIONS PUT TOGETHER; LOOPS CUT AT THEIR HEAD; RESULTS. -/
namespace Go.Abs

/-! ### specifications -/

abbrev SpecF := List Value → ASt → Res

def SpecSim (P : Program) (G : Globs) (f : FuncId) (s : SpecF) : Prop :=
  (∀ args σ v σ', s args σ = some (v, σ') → Mono σ σ') ∧ ∀ args σ v σ', s args σ = some (v, σ') → Enters P f ∧
    (σ.low ≤ σ.next → ∀ π δ D H w args', GlobR G π D → VRs π D args args' → Pre σ σ' π δ D H w → Calls P f ⟨args'⟩ w (Back σ σ' π δ D H w v))

theorem SpecSim.mono {P : Program} {G G' : Globs} {f : FuncId} {s : SpecF} (h : SpecSim P G f s) (hg : ∀ g, G g = true → G' g = true) : SpecSim P G' f s :=
  ⟨h.1, fun args σ v σ' hs => ⟨(h.2 args σ v σ' hs).1, fun hl π δ D H w args' hgl ha hp => (h.2 args σ v σ' hs).2 hl π δ D H w args' (fun g hgg => hgl g (hg g hgg)) ha hp⟩⟩

noncomputable def callL (l : List (FuncId × SpecF)) : CallF := @List.rec (FuncId × SpecF) (fun _ => CallF) (fun _ _ _ => none) (fun p _ ih f args σ => iff (Nat.beq f p.1) (p.2 args σ) (ih f args σ)) l

theorem callL_okE {P : Program} {G : Globs} : ∀ {l : List (FuncId × SpecF)}, (∀ p ∈ l, SpecSim P G p.1 p.2) → CallSimE P G (callL l) ∧ MonoF (callL l)
  | [], _ => ⟨fun f args σ v σ' h => (by cases (show none = some (v, σ') from h)), fun f args σ v σ' h => (by cases (show none = some (v, σ') from h))⟩
  | p :: l, hp => by
    have ih := callL_okE (l := l) fun q hq => hp q (by simp [hq])
    have h0 := hp p (by simp)
    have key : ∀ f args σ v σ', callL (p :: l) f args σ = some (v, σ') → (f = p.1 ∧ p.2 args σ = some (v, σ')) ∨ callL l f args σ = some (v, σ') := fun f args σ v σ' h => by
      have h' : iff (Nat.beq f p.1) (p.2 args σ) (callL l f args σ) = some (v, σ') := h
      rw [iff_eq] at h'
      split at h'
      · rename_i hb; exact .inl ⟨(beq_iff _ _).1 hb, h'⟩
      · exact .inr h'
    refine ⟨fun f args σ v σ' h => ?_, fun f args σ v σ' h => ?_⟩
    · rcases key f args σ v σ' h with ⟨rfl, h1⟩ | h1
      · exact h0.2 args σ v σ' h1
      · exact ih.1 f args σ v σ' h1
    · rcases key f args σ v σ' h with ⟨rfl, h1⟩ | h1
      · exact h0.1 args σ v σ' h1
      · exact ih.2 f args σ v σ' h1
theorem callL_ok {P : Program} {G : Globs} {l : List (FuncId × SpecF)} (h : ∀ p ∈ l, SpecSim P G p.1 p.2) : CallSim P G (callL l) ∧ MonoF (callL l) := ⟨(callL_okE h).1.sim, (callL_okE h).2⟩

def noG : Globs := fun _ => false

/-! ### results -/

theorem resultsV_ext {T : Tab} {e e' : Env} {σ : ASt} (he : ∀ t, e'.get t = e.get t) : ∀ rs : List ResultVar, resultsV T (norm σ) e' rs = resultsV T σ e rs
  | [] => rfl
  | .tmp t :: rs => by
    show andThen (resultsV T (norm σ) e' rs) (fun vs => some (env e' (.tmp t) :: vs)) = andThen (resultsV T σ e rs) (fun vs => some (env e (.tmp t) :: vs))
    rw [resultsV_ext he rs, env_ext he]
  | .cell a t :: rs => by
    show andThen2 (asPtr (env e' (.tmp a))) (fun k off => andThen (loadV T σ t k off) fun v => andThen (resultsV T (norm σ) e' rs) fun vs => some (v :: vs)) = andThen2 (asPtr (env e (.tmp a))) (fun k off => andThen (loadV T σ t k off) fun v => andThen (resultsV T σ e rs) fun vs => some (v :: vs))
    rw [resultsV_ext he rs, env_ext he]

/-- a function's end, as the tools ask for it -/
noncomputable def vcEnd (T : Tab) (fn : Func) (R : Value → ASt → Prop) (x : AEx) (_t : HT) (e : Env) (σ : ASt) : Prop :=
  @AEx.rec (fun _ => Prop) (okP (resultsV T σ e fn.results.toList) fun vs => R (oneOrTuple vs) σ) (fun _ => False) (okP (resultsV T σ e fn.results.toList) fun vs => R (oneOrTuple vs) σ) x

theorem vcEnd_ok {T : Tab} {fn : Func} {R : Value → ASt → Prop} {x : AEx} {e : Env} {σ : ASt} (h : Cl (vcEnd T fn R) x e σ) : EndsIn T fn (fun v σ => R v (norm σ)) x e σ := by
  obtain ⟨_, e', he, h⟩ := h
  cases x with
  | normal => obtain ⟨vs, h1, h2⟩ := (okP_iff _ _).1 h; exact ⟨vs, (resultsV_ext he _).symm.trans h1, h2⟩
  | exit id => exact h.elim
  | ret => obtain ⟨vs, h1, h2⟩ := (okP_iff _ _).1 h; exact ⟨vs, (resultsV_ext he _).symm.trans h1, h2⟩

/-! ### calls that bring back no address, from arguments that bear none -/

/-- nothing is named; data is told of -/
def noRen : Ren := ⟨fun _ => none, fun _ => none, false, true⟩
theorem noAddr_leave {S : Nat → Bool} {ι : Ren} (hf : ∀ b, ι.fz b = none) {σ σ1 : ASt} {v : Value} (hv : VA noRen v v) : Leave S ι noRen id σ σ σ1 v v :=
  ⟨Nat.le_refl _, rfl, rfl, fun _ _ => rfl, fun j h1 h2 => (by omega), fun k k' sh h => (by cases h), hv, rfl, fun _ => hf⟩

theorem noAddr_entry {args : List Value} (ha : VAs noRen args args) (σ : ASt) : Entry noG (fun _ => false) noRen args args σ ⟨.leaf, 0, 0, 0⟩ :=
  ⟨Nat.le_refl _, fun _ _ => rfl, fun _ _ => rfl, fun k h => (by cases h), fun k p h => (by cases h), ha, fun g h => (by cases h), fun b cells h => (by cases h)⟩

/-- a function of plain values -/
theorem spec_plain {P : Program} {T : Tab} {f : FuncId} {fn : Func} {c : Code} {s : SpecF} (hfn : FnOk1 P noG f fn) (hb : fn.body = some c) (hT : TyOk P T)
    (h : ∀ args σ v σ', s args σ = some (v, σ') → σ' = σ ∧ VAs noRen args args ∧ VA noRen v v ∧ ∀ N, fn.ntmps ≤ N → TriC P noG (fun _ => false) N c (initEnv args 0 .leaf) ⟨.leaf, 0, 0, 0⟩ (Cl (vcEnd T fn fun v1 _ => v1 = v))) :
    SpecSim P noG f s := by
  refine ⟨fun args σ v σ' hs => by rw [(h args σ v σ' hs).1]; exact .refl σ, fun args σ v σ' hs => ?_⟩
  obtain ⟨rfl, h1, h2, h3⟩ := h args σ v σ' hs
  exact call_spec hfn hb hT (noAddr_entry h1 σ') fun N hN => (h3 N hN).mono fun x e σ1 hq => by
    have := vcEnd_ok hq
    cases x with
    | normal => obtain ⟨vs, g1, g2⟩ := this; exact ⟨vs, g1, _, id, by rw [g2]; exact noAddr_leave (fun _ => rfl) h2⟩
    | exit id => exact this.elim
    | ret => obtain ⟨vs, g1, g2⟩ := this; exact ⟨vs, g1, _, id, by rw [g2]; exact noAddr_leave (fun _ => rfl) h2⟩

/-! ### loops -/

noncomputable def mkTr {α : Type} (l : List (Nat × α)) : Tr α := @List.rec (Nat × α) (fun _ => Tr α) .leaf (fun p _ ih => ih.set p.1 p.2) l
noncomputable def mkTr2 {α : Type} : List Nat → List α → Tr α
  | k :: ks, a :: as => (mkTr2 ks as).set k a
  | _, _ => .leaf
def look2 {α : Type} : List Nat → List α → Nat → Option α
  | k :: ks, a :: as, n => if n = k then some a else look2 ks as n
  | _, _, _ => none

theorem mkTr2_get {α : Type} : ∀ (ks : List Nat) (as : List α) (n : Nat), (mkTr2 ks as).get n = look2 ks as n
  | k :: ks, a :: as, n => by
    rw [show mkTr2 (k :: ks) (a :: as) = (mkTr2 ks as).set k a from rfl, Tr.get_set, mkTr2_get ks as n]; rfl
  | [], _, n => by cases ‹List α› <;> rfl
  | _ :: _, [], n => rfl

noncomputable def obsL {α : Type} (get : Nat → Option α) (ks : List Nat) : Option (List α) := @List.rec Nat (fun _ => Option (List α)) (some []) (fun k _ ih => andThen (get k) fun a => andThen ih fun r => some (a :: r)) ks

theorem obsL_cons {α : Type} {get : Nat → Option α} {k : Nat} {ks : List Nat} {l : List α} (h : obsL get (k :: ks) = some l) : ∃ a r, get k = some a ∧ obsL get ks = some r ∧ l = a :: r := by
  obtain ⟨a, h1, h2⟩ := andThen_eq (show andThen (get k) (fun a => andThen (obsL get ks) fun r => some (a :: r)) = some l from h)
  obtain ⟨r, h3, h4⟩ := andThen_eq h2
  cases h4
  exact ⟨a, r, h1, h3, rfl⟩

/-- the places of a cut: the anchored blocks keep their numbers, the own ones get those of the cut -/
def renLoc : List Nat → List Nat → Nat → Option (Nat × Nat)
  | k :: ks, k' :: ks', n => if n = k then some (k', 0) else renLoc ks ks' n
  | _, _, _ => none
def renF (F : Nat → Option (List Value)) (ks ks' : List Nat) : Ren := ⟨renLoc ks ks', F, true, true⟩
def renL (ks ks' : List Nat) : Ren := renF (fun _ => none) ks ks'
/-- an own block's cells -/
noncomputable def ownRow (σ : ASt) (b : Nat) : Option (List Value) := andThen (σ.obj b) fun o => andThen3 (rowsOf o) fun c _ _ => some c
/-- what may become data: own blocks that are not named -/
noncomputable def fzOf (σ : ASt) (kb' : List Nat) : Nat → Option (List Value) := fun b => iff (memN b kb') none (ownRow σ b)

def ObjAs (ι : Ren) : List Nat → List AObj → List AObj → Prop
  | k :: ks, o :: os, o' :: os' => ObjA ι k 0 o o' ∧ ObjAs ι ks os os'
  | [], [], [] => True
  | _, _, _ => False

theorem renL_some : ∀ {ks ks' : List Nat} {k : Nat} {p : Nat × Nat}, renLoc ks ks' k = some p → ∃ i : Nat, ks[i]? = some k ∧ ks'[i]? = some p.1 ∧ p.2 = 0
  | a :: ks, b :: ks', k, p, h => by
    unfold renLoc at h
    split at h
    · rename_i hk; cases h; exact ⟨0, by rw [hk]; rfl, rfl, rfl⟩
    · obtain ⟨i, h1, h2, h3⟩ := renL_some h
      exact ⟨i + 1, h1, h2, h3⟩
  | [], _, k, p, h => by cases ‹List Nat› <;> cases h
  | _ :: _, [], k, p, h => by cases h

theorem look2_some {α : Type} : ∀ {ks : List Nat} {as : List α} {k : Nat} {a : α}, look2 ks as k = some a → ∃ i : Nat, ks[i]? = some k ∧ as[i]? = some a
  | x :: ks, b :: as, k, a, h => by
    unfold look2 at h
    split at h
    · rename_i hk; cases h; exact ⟨0, by rw [hk]; rfl, rfl⟩
    · obtain ⟨i, h1, h2⟩ := look2_some h
      exact ⟨i + 1, h1, h2⟩
  | [], _, k, a, h => by cases ‹List α› <;> cases h
  | _ :: _, [], k, a, h => by cases h

/-- the state of a cut -/
noncomputable def cutE (sl : List Nat) (vs : List Value) : Env := mkTr2 sl vs
noncomputable def cutS (kb : List Nat) (os : List AObj) (n : Nat) : ASt := ⟨mkTr2 kb os, n, n, n⟩

/-- what a state shows at a cut -/
noncomputable def Shows (sl kb : List Nat) (R : List Value → List AObj → Prop) (e : Env) (σ : ASt) : Prop := okP (obsL e.get sl) fun vs => okP (obsL σ.obj kb) fun os => R vs os

def allLt (n : Nat) (l : List Nat) : Bool := l.all fun k => Nat.blt k n
def noDup : List Nat → Bool
  | [] => true
  | a :: l => and (not (l.contains a)) (noDup l)
/-- the numbers are as they should be: each once, below n; the anchored ones are the same on both sides -/
def cutB (sb kb kb' : List Nat) (n : Nat) : Bool := and (and (noDup kb) (noDup kb')) (and (and (allLt n kb) (Nat.beq kb.length kb'.length)) (sb.isPrefixOf kb && sb.isPrefixOf kb'))

theorem noDup_inj : ∀ {l : List Nat}, noDup l = true → ∀ {i j k : Nat}, l[i]? = some k → l[j]? = some k → i = j
  | a :: l, h, i, j, k, h1, h2 => by
    simp only [noDup, Bool.and_eq_true, Bool.not_eq_true', List.contains_eq_mem, decide_eq_false_iff_not] at h
    cases i with
    | zero =>
      cases j with
      | zero => rfl
      | succ j =>
        simp only [List.getElem?_cons_zero, Option.some.injEq] at h1
        subst h1
        exact absurd (List.mem_of_getElem? (by simpa using h2)) h.1
    | succ i =>
      cases j with
      | zero =>
        simp only [List.getElem?_cons_zero, Option.some.injEq] at h2
        subst h2
        exact absurd (List.mem_of_getElem? (by simpa using h1)) h.1
      | succ j => rw [noDup_inj h.2 (i := i) (j := j) (by simpa using h1) (by simpa using h2)]
  | [], _, i, j, k, h1, _ => by simp at h1

theorem obsL_get {α : Type} {get : Nat → Option α} : ∀ {ks : List Nat} {l : List α}, obsL get ks = some l → l.length = ks.length ∧ ∀ (i k : Nat), ks[i]? = some k → ∃ a, l[i]? = some a ∧ get k = some a
  | [], l, h => by cases (show some [] = some l from h); exact ⟨rfl, fun i k h => by simp at h⟩
  | x :: ks, l, h => by
    obtain ⟨a, r, h1, h2, rfl⟩ := obsL_cons h
    obtain ⟨h3, h4⟩ := obsL_get h2
    refine ⟨by simp [h3], fun i k hi => ?_⟩
    cases i with
    | zero => simp only [List.getElem?_cons_zero, Option.some.injEq] at hi; subst hi; exact ⟨a, rfl, h1⟩
    | succ i => exact h4 i k (by simpa using hi)

theorem ObjAs.get {ι : Ren} : ∀ {ks : List Nat} {os os' : List AObj}, ObjAs ι ks os os' → os.length = ks.length ∧ os'.length = ks.length ∧ ∀ (i k : Nat) o, ks[i]? = some k → os[i]? = some o → ∃ o', os'[i]? = some o' ∧ ObjA ι k 0 o o'
  | [], [], [], _ => ⟨rfl, rfl, fun i k o h => by simp at h⟩
  | k :: ks, o :: os, o' :: os', ⟨h1, h2⟩ => by
    obtain ⟨h3, h4, h5⟩ := ObjAs.get h2
    refine ⟨by simp [h3], by simp [h4], fun i k2 o2 hi ho => ?_⟩
    cases i with
    | zero =>
      simp only [List.getElem?_cons_zero, Option.some.injEq] at hi ho
      subst hi; subst ho
      exact ⟨o', rfl, h1⟩
    | succ i => exact h5 i k2 o2 (by simpa using hi) (by simpa using ho)
  | [], [], _ :: _, h => h.elim
  | [], _ :: _, _, h => by cases ‹List AObj› <;> exact h.elim
  | _ :: _, [], _, h => by cases ‹List AObj› <;> exact h.elim
  | _ :: _, _ :: _, [], h => h.elim

theorem renL_at : ∀ {ks ks' : List Nat} {i k k' : Nat}, noDup ks = true → ks[i]? = some k → ks'[i]? = some k' → renLoc ks ks' k = some (k', 0)
  | a :: ks, b :: ks', i, k, k', hn, h1, h2 => by
    unfold renLoc
    by_cases hk : k = a
    · subst hk
      have : i = 0 := noDup_inj hn h1 rfl
      subst this
      simp only [List.getElem?_cons_zero, Option.some.injEq] at h2
      subst h2
      rw [if_pos rfl]
    · rw [if_neg hk]
      cases i with
      | zero => simp only [List.getElem?_cons_zero, Option.some.injEq] at h1; exact absurd h1.symm hk
      | succ i =>
        simp only [noDup, Bool.and_eq_true] at hn
        exact renL_at hn.2 (by simpa using h1) (by simpa using h2)
  | [], _, i, k, k', _, h1, _ => by simp at h1
  | _ :: _, [], i, k, k', _, _, h2 => by simp at h2

theorem look2_at {α : Type} : ∀ {ks : List Nat} {as : List α} {i k : Nat} {a : α}, noDup ks = true → ks[i]? = some k → as[i]? = some a → look2 ks as k = some a
  | x :: ks, b :: as, i, k, a, hn, h1, h2 => by
    unfold look2
    by_cases hk : k = x
    · subst hk
      have : i = 0 := noDup_inj hn h1 rfl
      subst this
      simp only [List.getElem?_cons_zero, Option.some.injEq] at h2
      subst h2
      rw [if_pos rfl]
    · rw [if_neg hk]
      cases i with
      | zero => simp only [List.getElem?_cons_zero, Option.some.injEq] at h1; exact absurd h1.symm hk
      | succ i =>
        simp only [noDup, Bool.and_eq_true] at hn
        exact look2_at hn.2 (by simpa using h1) (by simpa using h2)
  | [], _, i, k, a, _, h1, _ => by simp at h1
  | _ :: _, [], i, k, a, _, _, h2 => by simp at h2

theorem prefix_get {a b : List Nat} (h : a.isPrefixOf b = true) {i k : Nat} (hk : a[i]? = some k) : b[i]? = some k := by
  rw [List.isPrefixOf_iff_prefix] at h
  obtain ⟨t, rfl⟩ := h
  rw [List.getElem?_append_left (List.getElem?_eq_some_iff.1 hk).1]
  exact hk

theorem memN_iff (n : Nat) : ∀ l : List Nat, memN n l = true ↔ n ∈ l
  | [] => by simp [memN]
  | a :: l => by
    show iff (Nat.beq n a) true (memN n l) = true ↔ _
    rw [iff_eq]
    by_cases h : Nat.beq n a = true
    · rw [if_pos h]; simp [(beq_iff _ _).1 h]
    · rw [if_neg h, memN_iff n l]
      have : n ≠ a := fun hn => h ((beq_iff _ _).2 hn)
      simp [this]

/-- what the state at a cut must be, of what the state shows -/
def Fits (F : Nat → Option (List Value)) (sb kb kb' : List Nat) (so : List AObj) (vs : List Value) (os : List AObj) (xs : List Value) (ys : List AObj) : Prop :=
  VAs (renF F kb kb') vs xs ∧ ObjAs (renF F kb kb') kb (so ++ os) ys ∧ ys.take sb.length = so
theorem fzOf_ok {σ : ASt} {kb kb' : List Nat} {b : Nat} {cells : List Value} (h : fzOf σ kb' b = some cells) : (∃ e org, σ.obj b = some (.cells cells e org false false)) ∧ ∀ k sh, renLoc kb kb' k ≠ some (b, sh) := by
  have h' : iff (memN b kb') none (ownRow σ b) = some cells := h
  rw [iff_eq] at h'
  split at h'
  · cases h'
  · rename_i hn
    obtain ⟨o, h1, h2⟩ := andThen_eq h'
    obtain ⟨c, e, org, h3, h4⟩ := andThen3_eq h2
    cases h4
    rw [rowsOf_eq h3] at h1
    refine ⟨⟨e, org, h1⟩, fun k sh hk => ?_⟩
    obtain ⟨i, _, h5, _⟩ := renL_some hk
    exact hn ((memN_iff b kb').2 (List.mem_of_getElem? h5))

theorem shows_match {G : Globs} {sb kb kb' sl : List Nat} {n : Nat} {so os ys : List AObj} {vs xs : List Value} {e : Env} {σ : ASt} (hb : cutB sb kb kb' n = true) (hG : ∀ g, G g = true → memN g sb = true) (hlen : so.length = sb.length)
    (h1 : obsL e.get sl = some xs) (h2 : obsL σ.obj kb' = some ys) (hf : Fits (fzOf σ kb') sb kb kb' so vs os xs ys) : Match (fun k => memN k sb) G (renF (fzOf σ kb') kb kb') e σ (cutE sl vs) (cutS kb (so ++ os) n) := by
  simp only [cutB, Bool.and_eq_true, beq_iff, allLt, List.all_eq_true] at hb
  obtain ⟨⟨hn1, hn2⟩, ⟨hlt, hll⟩, hp1, hp2⟩ := hb
  obtain ⟨f1, f2, f3⟩ := hf
  obtain ⟨g1, g2, g3⟩ := f2.get
  obtain ⟨o1, o2⟩ := obsL_get h2
  obtain ⟨e1, e2⟩ := obsL_get h1
  have hobj : ∀ k o, (cutS kb (so ++ os) n).obj k = some o → ∃ i, kb[i]? = some k ∧ (so ++ os)[i]? = some o := fun k o ho => by
    have : look2 kb (so ++ os) k = some o := by rw [← mkTr2_get]; exact ho
    exact look2_some this
  have anch : ∀ k, memN k sb = true → ∃ i, sb[i]? = some k := fun k hk => by
    rw [memN_iff] at hk
    obtain ⟨i, hi, rfl⟩ := List.getElem_of_mem hk
    exact ⟨i, List.getElem?_eq_getElem hi⟩
  refine ⟨Nat.le_refl _, fun k hk => ?_, fun k₁ k₂ k s₁ s₂ hk1 hk2 => ?_, fun k o ho => ?_, fun t v hv => ?_, fun k p hk => ?_, fun g hg => ?_, fun k hk => ?_, fun b cells hF => fzOf_ok hF⟩
  · cases ho : (cutS kb (so ++ os) n).obj k with
    | none => rfl
    | some o =>
      obtain ⟨i, hi, _⟩ := hobj k o ho
      have := (blt_iff _ _).1 (hlt k (List.mem_of_getElem? hi))
      have hk' : n ≤ k := hk
      omega
  · obtain ⟨i, a1, a2, _⟩ := renL_some hk1
    obtain ⟨j, b1, b2, _⟩ := renL_some hk2
    have : i = j := noDup_inj hn2 a2 b2
    subst this
    rw [a1] at b1
    exact Option.some.inj b1
  · obtain ⟨i, hi, hoi⟩ := hobj k o ho
    obtain ⟨o', h3, h4⟩ := g3 i k o hi hoi
    have hlt2 : i < kb'.length := by have := (List.getElem?_eq_some_iff.1 hi).1; omega
    obtain ⟨y, h5, h6⟩ := o2 i kb'[i] (List.getElem?_eq_getElem hlt2)
    rw [h3] at h5
    cases h5
    exact ⟨kb'[i], 0, o', renL_at hn1 hi (List.getElem?_eq_getElem hlt2), h6, h4⟩
  · have : look2 sl vs t = some v := by rw [← mkTr2_get]; exact hv
    obtain ⟨i, hi, hvi⟩ := look2_some this
    obtain ⟨x, h3, h4⟩ := e2 i t hi
    obtain ⟨x', h5, h6⟩ := f1.get hvi
    rw [h3] at h5
    cases h5
    exact ⟨x, h4, h6⟩
  · obtain ⟨i, hi, _⟩ := renL_some hk
    have hil : i < (so ++ os).length := by have := (List.getElem?_eq_some_iff.1 hi).1; omega
    have : (cutS kb (so ++ os) n).obj k = some (so ++ os)[i] := by
      show (mkTr2 kb (so ++ os)).get k = _
      rw [mkTr2_get]
      exact look2_at hn1 hi (List.getElem?_eq_getElem hil)
    rw [this]; rfl
  · obtain ⟨i, hi⟩ := anch g (hG g hg)
    exact renL_at hn1 (prefix_get hp1 hi) (prefix_get hp2 hi)
  · obtain ⟨i, hi⟩ := anch k hk
    have hi1 := prefix_get hp1 hi
    have hi2 := prefix_get hp2 hi
    refine ⟨renL_at hn1 hi1 hi2, ?_⟩
    have hisb : i < sb.length := (List.getElem?_eq_some_iff.1 hi).1
    have hso : (so ++ os)[i]? = so[i]? := List.getElem?_append_left (by omega)
    have hiso : i < so.length := by omega
    have hL : (cutS kb (so ++ os) n).obj k = some so[i] := by
      show (mkTr2 kb (so ++ os)).get k = _
      rw [mkTr2_get]
      exact look2_at hn1 hi1 (hso.trans (List.getElem?_eq_getElem hiso))
    obtain ⟨y, h5, h6⟩ := o2 i k hi2
    rw [hL, h6]
    have : so[i]? = ys[i]? := by rw [← f3, List.getElem?_take, if_pos hisb]
    rw [List.getElem?_eq_getElem hiso, h5] at this
    exact this

/-- **a loop, cut at its head**: X says where it stands -/
theorem tri_cut {P : Program} {G : Globs} {N : Nat} {X : Type} {c : Code} {e : Env} {σ : ASt} {Q : AEx → Env → ASt → Prop} (sb : List Nat) (kb : X → List Nat) (sl : List Nat) (n : Nat) (so : List AObj) (Iv : X → Prop) (μ : X → Nat) (vs : X → List Value) (os : X → List AObj)
    (hG : ∀ g, G g = true → memN g sb = true) (hlen : so.length = sb.length)
    (body : ∀ x, Iv x → TriC P G (fun k => memN k sb) N c (cutE sl (vs x)) (cutS (kb x) (so ++ os x) n) (thenQ (fun e σ => ∃ x' kb', μ x' < μ x ∧ Iv x' ∧ cutB sb (kb x') kb' n = true ∧ Shows sl kb' (Fits (fzOf σ kb') sb (kb x') kb' so (vs x') (os x')) e σ) Q))
    (x : X) (kb0 : List Nat) (hx : Iv x) (hb : cutB sb (kb x) kb0 n = true) (start : Shows sl kb0 (Fits (fzOf σ kb0) sb (kb x) kb0 so (vs x) (os x)) e σ) : TriC P G (fun k => memN k sb) N (.loop c) e σ Q := by
  have hm : ∀ x kb' e σ, Iv x → cutB sb (kb x) kb' n = true → Shows sl kb' (Fits (fzOf σ kb') sb (kb x) kb' so (vs x) (os x)) e σ → Match (fun k => memN k sb) G (renF (fzOf σ kb') (kb x) kb') e σ (cutE sl (vs x)) (cutS (kb x) (so ++ os x) n) := fun x kb' e σ hi hc hs => by
    obtain ⟨xs, h1, h2⟩ := (okP_iff _ _).1 hs
    obtain ⟨ys, h3, h4⟩ := (okP_iff _ _).1 h2
    exact shows_match hc hG hlen h1 h3 h4
  refine tri_loop (fun m e σ => ∃ x kb', m = μ x ∧ Iv x ∧ cutB sb (kb x) kb' n = true ∧ Shows sl kb' (Fits (fzOf σ kb') sb (kb x) kb' so (vs x) (os x)) e σ) (fun m e σ hI => ?_) ⟨x, kb0, rfl, hx, hb, start⟩
  obtain ⟨x, kb', rfl, hi, hc, hs⟩ := hI
  refine tri_match (hm x kb' e σ hi hc hs) ((body x hi).mono fun x2 e2 σ2 hq => ?_)
  cases x2 with
  | normal =>
    obtain ⟨x', kb2, h1, h2, h3, h4⟩ := hq
    exact ⟨μ x', h1, x', kb2, rfl, h2, h3, h4⟩
  | exit id => exact hq
  | ret => exact hq

/-! ### a loop within a function -/

/-- a piece of code, by its place: 0 and 1 are the two of a 'seq' or 'cond', 0 is the inside of the others -/
def subC : List Nat → Code → Code
  | [], c => c
  | 0 :: p, .seq a _ => subC p a
  | _ :: p, .seq _ b => subC p b
  | 0 :: p, .cond _ a _ => subC p a
  | _ :: p, .cond _ _ b => subC p b
  | _ :: p, .block _ c => subC p c
  | _ :: p, .loop c => subC p c
  | _ :: p, .scope c => subC p c
  | _ :: _, c => c

/-- what comes behind a piece -/
noncomputable def vcCtx (L : Code → Env → ASt → (AEx → HT → Env → ASt → Prop) → Prop) (T : Tab) (call : CallF) (h : Hint) : List Nat → Code → (AEx → HT → Env → ASt → Prop) → (AEx → HT → Env → ASt → Prop)
  | [], _, K => K
  | 0 :: p, .seq a b, K => vcCtx L T call h p a (thenH (fun t e σ => vcC L T call h b t e σ K) K)
  | _ :: p, .seq _ b, K => vcCtx L T call h p b K
  | 0 :: p, .cond _ a _, K => vcCtx L T call h p a K
  | _ :: p, .cond _ _ b, K => vcCtx L T call h p b K
  | _ :: p, .block id c, K => vcCtx L T call h p c (fun x => K (leaves id x))
  | _ :: p, .scope c, K => vcCtx L T call h p c K
  | _ :: _, _, K => K

/-- where a round ends, of the slots xs and the state σ: the loop stands again at its head, further on -/
def CutC {X : Type} (sb : List Nat) (kb : X → List Nat) (n : Nat) (so : List AObj) (Iv : X → Prop) (μ : X → Nat) (vs : X → List Value) (os : X → List AObj) (m : Nat) (xs : List Value) (σ : ASt) : Prop :=
  ∃ x' kb', μ x' < m ∧ Iv x' ∧ cutB sb (kb x') kb' n = true ∧ okP (obsL σ.obj kb') fun ys => Fits (fzOf σ kb') sb (kb x') kb' so (vs x') (os x') xs ys

noncomputable def cutQ (sl : List Nat) (C : List Value → ASt → Prop) (K : AEx → HT → Env → ASt → Prop) : AEx → HT → Env → ASt → Prop := thenH (fun _ e σ => okP (obsL e.get sl) fun xs => C xs σ) K

theorem obsL_congr {α : Type} {g g' : Nat → Option α} (h : ∀ t, g' t = g t) : ∀ ks, obsL g' ks = obsL g ks := fun ks => by
  have : g' = g := funext h
  rw [this]

/-- **the rule of a loop within a function** -/
theorem loop_rule {P : Program} {G : Globs} {N : Nat} {T : Tab} {call : CallF} {h : Hint} (hx : P.follows .mixedOrders = true) (hT : TyOk P T) (hc : CallSim P G call) (hm : MonoF call) (hg : Guarded h call) {X : Type} {c : Code} (hok : codeOk G N c = true) {e : Env} {σ : ASt} {K : AEx → HT → Env → ASt → Prop}
    (sb : List Nat) (kb : X → List Nat) (sl : List Nat) (n : Nat) (so : List AObj) (Iv : X → Prop) (μ : X → Nat) (vs : X → List Value) (os : X → List AObj)
    (hG : ∀ g, G g = true → memN g sb = true) (hlen : so.length = sb.length)
    (body : ∀ x, Iv x → ∃ t, vcC (loopT P G (fun k => memN k sb) N) T call h c t (cutE sl (vs x)) (cutS (kb x) (so ++ os x) n) (cutQ sl (CutC sb kb n so Iv μ vs os (μ x)) K))
    (x : X) (kb0 : List Nat) (hiv : Iv x) (hb : cutB sb (kb x) kb0 n = true) (start : Shows sl kb0 (Fits (fzOf σ kb0) sb (kb x) kb0 so (vs x) (os x)) e σ) : loopT P G (fun k => memN k sb) N (.loop c) e σ K := by
  refine tri_cut sb kb sl n so Iv μ vs os hG hlen (fun x hi => ?_) x kb0 hiv hb start
  obtain ⟨t, hb⟩ := body x hi
  refine (vcC_ok hx hT hc hm hg c hok t _ _ _ hb).mono fun x2 e2 σ2 hq => ?_
  obtain ⟨t3, e3, h1, h2⟩ := hq
  cases x2 with
  | normal =>
    obtain ⟨xs, h3, x', kb', h4, h5, h6, h7⟩ := (okP_iff _ _).1 (show okP (obsL e3.get sl) _ from h2)
    refine ⟨x', kb', h4, h5, h6, (okP_iff _ _).2 ⟨xs, (obsL_congr h1 sl).symm.trans h3, h7⟩⟩
  | exit id => exact ⟨t3, e3, h1, h2⟩
  | ret => exact ⟨t3, e3, h1, h2⟩
end Go.Abs

/- PLAIN FUNCTIONS: small words for their specifications. -/
namespace Go.Abs

def codeOf (fn : Func) : Code := match fn.body with | some c => c | none => .skip
theorem codeOf_ok {fn : Func} (h : fn.body.isSome = true) : fn.body = some (codeOf fn) := by
  unfold codeOf
  cases hb : fn.body with
  | none => rw [hb] at h; cases h
  | some c => rfl

/-- the words that arguments are read by -/
noncomputable def gI (k : IntKind) (v : Value) : Option Int := andThen2 (asI v) fun k' n => iff (sameKind k' k) (some n) none
theorem gI_eq {k : IntKind} {v : Value} {n : Int} (h : gI k v = some n) : v = .int k n := by
  obtain ⟨k', m, h1, h2⟩ := andThen2_eq h
  obtain ⟨h3, h4⟩ := iff_some h2
  cases h4
  rw [sameKind_iff] at h3
  subst h3
  exact asI_eq h1
noncomputable def gB (v : Value) : Option Bool := asB v
theorem gB_eq {v : Value} {b : Bool} (h : gB v = some b) : v = .bool b := asB_eq h

def gCons {α : Type} : List α → Option (α × List α) | a :: r => some (a, r) | [] => none
def gNil {α : Type} : List α → Option Unit | [] => some () | _ :: _ => none
theorem gCons_eq {α : Type} {l r : List α} {a : α} (h : gCons l = some (a, r)) : l = a :: r := by
  match l, h with
  | _ :: _, h => cases h; rfl
theorem gNil_eq {α : Type} {l : List α} {u : Unit} (h : gNil l = some u) : l = [] := by
  match l, h with
  | [], _ => rfl
noncomputable def gS (v : Value) : Option ByteArray := match v with | .string s => some s | _ => none
theorem gS_eq {v : Value} {s : ByteArray} (h : gS v = some s) : v = .string s := by
  cases v <;> simp [gS] at h
  subst h; rfl
theorem of_eq {a b : Prop} (h : a = b) (hb : b) : a := h ▸ hb

/-- a list of just so many -/
def g1 {α : Type} : List α → Option α | [a] => some a | _ => none
def g2 {α : Type} : List α → Option (α × α) | [a, b] => some (a, b) | _ => none
def g3 {α : Type} : List α → Option (α × α × α) | [a, b, c] => some (a, b, c) | _ => none
def g4 {α : Type} : List α → Option (α × α × α × α) | [a, b, c, d] => some (a, b, c, d) | _ => none
theorem g1_eq {α : Type} {l : List α} {a : α} (h : g1 l = some a) : l = [a] := by
  match l, h with
  | [_], h => cases h; rfl
theorem g2_eq {α : Type} {l : List α} {a b : α} (h : g2 l = some (a, b)) : l = [a, b] := by
  match l, h with
  | [_, _], h => cases h; rfl
theorem g3_eq {α : Type} {l : List α} {a b c : α} (h : g3 l = some (a, b, c)) : l = [a, b, c] := by
  match l, h with
  | [_, _, _], h => cases h; rfl
theorem g4_eq {α : Type} {l : List α} {a b c d : α} (h : g4 l = some (a, b, c, d)) : l = [a, b, c, d] := by
  match l, h with
  | [_, _, _, _], h => cases h; rfl

noncomputable def gIs (k : IntKind) (l : List Value) : Option (List Int) := @List.rec Value (fun _ => Option (List Int)) (some []) (fun v _ ih => andThen (gI k v) fun n => andThen ih fun r => some (n :: r)) l
theorem gIs_eq {k : IntKind} : ∀ {l : List Value} {r : List Int}, gIs k l = some r → l = r.map (.int k)
  | [], r, h => by cases (show some [] = some r from h); rfl
  | v :: l, r, h => by
    obtain ⟨n, h1, h2⟩ := andThen_eq (show andThen (gI k v) (fun n => andThen (gIs k l) fun r => some (n :: r)) = some r from h)
    obtain ⟨s, h3, h4⟩ := andThen_eq h2
    cases h4
    rw [gI_eq h1, gIs_eq h3]; rfl

theorem VA.bareA {ι : Ren} {v : Value} (h : Abs.bareA v = true) : VA ι v v := by
  cases v with
  | agg cs =>
    obtain ⟨cs⟩ := cs
    refine (VAs.bare fun v hv => ?_).agg
    have h' : bareAll cs = true := h
    clear h
    induction cs with
    | nil => simp at hv
    | cons a cs ih =>
      have h2 : Abs.iff (Abs.bare a) (bareAll cs) false = true := h'
      rw [iff_eq] at h2
      split at h2
      · rename_i ha
        rcases List.mem_cons.1 hv with rfl | hv
        · exact ha
        · exact ih hv h2
      · cases h2
  | _ => exact VA.bare h
theorem VA.bareR {ι : Ren} {v : Value} (h : Abs.bareR v = true) : VA ι v v := by
  cases v with
  | tuple cs =>
    obtain ⟨cs⟩ := cs
    have h0 : Abs.iff (isDatL cs) false (bareAllA cs) = true := h
    clear h
    rw [iff_eq] at h0
    by_cases hd : isDatL cs = true
    · rw [if_pos hd] at h0; cases h0
    have hd' : isDatL cs = false := by simpa using hd
    rw [if_neg hd] at h0
    refine VAs.tuple hd' hd' ?_
    have h' := h0
    clear h0 hd hd'
    induction cs with
    | nil => exact .nil
    | cons a cs ih =>
      have h2 : Abs.iff (Abs.bareA a) (bareAllA cs) false = true := h'
      rw [iff_eq] at h2
      split at h2
      · rename_i ha
        exact .cons (VA.bareA ha) (ih h2)
      · cases h2
  | agg cs => exact VA.bareA (v := .agg cs) h
  | _ => exact VA.bare h

theorem VA.ints {ι : Ren} {k : IntKind} (r : List Int) : VA ι (.agg ⟨r.map (.int k)⟩) (.agg ⟨r.map (.int k)⟩) :=
  (VAs.bare fun v hv => by obtain ⟨n, _, rfl⟩ := List.mem_map.1 hv; rfl).agg

section
variable {P : Program} {T : Tab} {call : CallF}

/-- a plain function, by what is left to show of it -/
theorem plain_of {f : FuncId} {fn : Func} {s : SpecF} (h : Hint) (hx : P.follows .mixedOrders = true) (hT : TyOk P T) (hc : CallSim P noG call ∧ MonoF call) (hfn : P.funcs[f]? = some fn) (hb : fn.body.isSome = true) (hok : fnB noG fn = true)
    (hs : ∀ args σ v σ', s args σ = some (v, σ') → σ' = σ ∧ VAs noRen args args ∧ VA noRen v v ∧ ∀ L, ∃ t, vcC L T call h (codeOf fn) t (initEnv args 0 .leaf) ⟨.leaf, 0, 0, 0⟩ (vcEnd T fn fun v1 _ => v1 = v)) (hg : Guarded h call := by exact guarded_none) : SpecSim P noG f s := by
  have h1 : FnOk1 P noG f fn := .of hfn hok
  refine spec_plain h1 (codeOf_ok hb) hT fun args σ v σ' he => ?_
  obtain ⟨a, b, c, d⟩ := hs args σ v σ' he
  refine ⟨a, b, c, fun N hN => ?_⟩
  obtain ⟨t, d⟩ := d (loopT P noG (fun _ => false) N)
  exact vcC_ok hx hT hc.1 hc.2 hg (codeOf fn) (codeOk_mono hN _ (h1.2.2 _ (codeOf_ok hb))) t _ _ _ d
end

/-! ### functions of plain values that look into tables -/

noncomputable def hasTab (k : Nat) (c : List Value) (σ : ASt) : Bool := match σ.obj k with | some (.cells c' none _ _ false) => sameInts c c' | _ => false
noncomputable def hasTabs (tabs : List (Nat × List Value)) (σ : ASt) : Bool := @List.rec (Nat × List Value) (fun _ => Bool) true (fun p _ ih => iff (hasTab p.1 p.2 σ) ih false) tabs

theorem hasTab_eq {k : Nat} {c : List Value} {σ : ASt} (h : hasTab k c σ = true) : ∃ org ro, σ.obj k = some (.cells c none org ro false) := by
  unfold hasTab at h
  split at h
  · rename_i c' org ro ho
    exact ⟨org, ro, by rw [ho, (sameInts_eq _ _ h).1]⟩
  · cases h

theorem hasTabs_eq : ∀ {tabs : List (Nat × List Value)} {σ : ASt}, hasTabs tabs σ = true → ∀ p ∈ tabs, ∃ org ro, σ.obj p.1 = some (.cells p.2 none org ro false)
  | [], _, _, p, hp => by cases hp
  | q :: tabs, σ, h, p, hp => by
    have h' : Abs.iff (hasTab q.1 q.2 σ) (hasTabs tabs σ) false = true := h
    rw [iff_eq] at h'
    split at h'
    · rename_i h1
      rcases List.mem_cons.1 hp with rfl | hp
      · exact hasTab_eq h1
      · exact hasTabs_eq h' p hp
    · cases h'

def tabRo (k : Nat) (c : List Value) : AObj := .cells c none k true false
noncomputable def tabS (tabs : List (Nat × List Value)) (n : Nat) : ASt := cutS (tabs.map (·.1)) (tabs.map fun p => tabRo p.1 p.2) n
def intsB (c : List Value) : Bool := c.all fun v => (asI v).isSome

theorem intsB_bare {c : List Value} (h : intsB c = true) : ∀ v ∈ c, Abs.bare v = true := fun v hv => by
  have := List.all_eq_true.1 h v hv
  cases v <;> simp [asI] at this ⊢
  rfl

theorem tab_entryF {G : Globs} {F : Nat → Option (List Value)} {tabs : List (Nat × List Value)} {n : Nat} {args argsc : List Value} {σ : ASt} (hb : cutB [] (tabs.map (·.1)) (tabs.map (·.1)) n = true) (hi : ∀ p ∈ tabs, intsB p.2 = true) (hG : ∀ g, G g = true → memN g (tabs.map (·.1)) = true) (ht : hasTabs tabs σ = true)
    (hva : VAs (renF F (tabs.map (·.1)) (tabs.map (·.1))) argsc args) (hF : ∀ b cells, F b = some cells → ∃ e org ro, σ.obj b = some (.cells cells e org ro false)) : Entry G (fun k => memN k (tabs.map (·.1))) (renF F (tabs.map (·.1)) (tabs.map (·.1))) args argsc σ (tabS tabs n) := by
  simp only [cutB, Bool.and_eq_true, beq_iff, allLt, List.all_eq_true] at hb
  obtain ⟨⟨hn1, _⟩, ⟨hlt, _⟩, _⟩ := hb
  have hobj : ∀ k, (tabS tabs n).obj k = look2 (tabs.map (·.1)) (tabs.map fun p => tabRo p.1 p.2) k := fun k => mkTr2_get _ _ k
  have hat : ∀ k, memN k (tabs.map (·.1)) = true → ∃ p ∈ tabs, p.1 = k ∧ (tabS tabs n).obj k = some (tabRo k p.2) ∧ renLoc (tabs.map (·.1)) (tabs.map (·.1)) k = some (k, 0) := fun k hk => by
    rw [memN_iff, List.mem_map] at hk
    obtain ⟨p, hp, rfl⟩ := hk
    obtain ⟨i, hi2, rfl⟩ := List.getElem_of_mem hp
    have h1 : (tabs.map (·.1))[i]? = some tabs[i].1 := by rw [List.getElem?_map, List.getElem?_eq_getElem hi2]; rfl
    refine ⟨_, hp, rfl, ?_, renL_at hn1 h1 h1⟩
    rw [hobj]
    refine look2_at hn1 h1 ?_
    rw [List.getElem?_map, List.getElem?_eq_getElem hi2]; rfl
  refine ⟨Nat.le_refl _, fun k hk => ?_, fun k hk => ?_, fun k hk => ?_, fun k p hk => ?_, hva, fun g hg => ?_, hF⟩
  · rw [hobj]
    cases hl : look2 (tabs.map (·.1)) (tabs.map fun p => tabRo p.1 p.2) k with
    | none => rfl
    | some o =>
      obtain ⟨i, h1, _⟩ := look2_some hl
      have := (blt_iff _ _).1 (hlt k (List.mem_of_getElem? h1))
      have : n ≤ k := hk
      omega
  · rw [hobj]
    cases hl : look2 (tabs.map (·.1)) (tabs.map fun p => tabRo p.1 p.2) k with
    | none => rfl
    | some o =>
      obtain ⟨i, h1, _⟩ := look2_some hl
      rw [(memN_iff k _).2 (List.mem_of_getElem? h1)] at hk
      cases hk
  · obtain ⟨p, hp, rfl, h1, h2⟩ := hat k hk
    obtain ⟨org, ro, h3⟩ := hasTabs_eq ht p hp
    refine ⟨p.1, 0, p.2, none, _, h2, h1, h3, rfl, rfl, rfl, rfl, by omega, ?_, fun h => by cases h⟩
    rw [List.drop_zero, List.take_length]
    exact VAs.bare (intsB_bare (hi p hp))
  · obtain ⟨i, h1, _⟩ := renL_some hk
    exact (memN_iff k _).2 (List.mem_of_getElem? h1)
  · obtain ⟨p, _, _, _, h2⟩ := hat g (hG g hg)
    exact h2

theorem tab_entry {G : Globs} {tabs : List (Nat × List Value)} {n : Nat} {args : List Value} {σ : ASt} (hb : cutB [] (tabs.map (·.1)) (tabs.map (·.1)) n = true) (hi : ∀ p ∈ tabs, intsB p.2 = true) (hG : ∀ g, G g = true → memN g (tabs.map (·.1)) = true) (ht : hasTabs tabs σ = true)
    (hva : VAs (renL (tabs.map (·.1)) (tabs.map (·.1))) args args) : Entry G (fun k => memN k (tabs.map (·.1))) (renL (tabs.map (·.1)) (tabs.map (·.1))) args args σ (tabS tabs n) :=
  tab_entryF hb hi hG ht hva fun _ cells h => (by cases (show none = some cells from h))

theorem plain_tab {P : Program} {T : Tab} {call : CallF} {f : FuncId} {fn : Func} {s : SpecF} (G : Globs) (tabs : List (Nat × List Value)) (n : Nat) (h : Hint) (hx : P.follows .mixedOrders = true) (hT : TyOk P T) (hc : CallSim P G call ∧ MonoF call) (hfn : P.funcs[f]? = some fn) (hb : fn.body.isSome = true) (hok : fnB G fn = true)
    (hcb : cutB [] (tabs.map (·.1)) (tabs.map (·.1)) n = true) (hi : (tabs.all fun p => intsB p.2) = true) (hG : ∀ g, G g = true → memN g (tabs.map (·.1)) = true)
    (hs : ∀ args σ v σ', s args σ = some (v, σ') → σ' = σ ∧ hasTabs tabs σ = true ∧ (∀ ι : Ren, ι.dt = true → VAs ι args args) ∧ VA noRen v v ∧ ∀ L, ∃ t, vcC L T call h (codeOf fn) t (initEnv args 0 .leaf) (tabS tabs n) (vcEnd T fn fun v1 _ => v1 = v)) (hg : Guarded h call := by exact guarded_none) : SpecSim P G f s := by
  have h1 : FnOk1 P G f fn := .of hfn hok
  refine ⟨fun args σ v σ' he => by rw [(hs args σ v σ' he).1]; exact .refl σ, fun args σ v σ' he => ?_⟩
  obtain ⟨rfl, ht, ha, hv, hd⟩ := hs args σ v σ' he
  refine call_spec h1 (codeOf_ok hb) hT (tab_entry hcb (fun p hp => List.all_eq_true.1 hi p hp) hG ht (ha _ rfl)) fun N hN => ?_
  obtain ⟨t, d⟩ := hd (loopT P G (fun k => memN k (tabs.map (·.1))) N)
  refine (vcC_ok hx hT hc.1 hc.2 hg (codeOf fn) (codeOk_mono hN _ (h1.2.2 _ (codeOf_ok hb))) t _ _ _ d).mono fun x e σ1 hq => ?_
  have := vcEnd_ok hq
  cases x with
  | normal => obtain ⟨vs, g1, g2⟩ := this; exact ⟨vs, g1, _, id, by rw [g2]; exact noAddr_leave (fun _ => rfl) hv⟩
  | exit id => exact this.elim
  | ret => obtain ⟨vs, g1, g2⟩ := this; exact ⟨vs, g1, _, id, by rw [g2]; exact noAddr_leave (fun _ => rfl) hv⟩

/-- the same, of a function with loops that are cut -/
theorem plain_loop {P : Program} {T : Tab} {call : CallF} {f : FuncId} {fn : Func} {s : SpecF} (G : Globs) (tabs : List (Nat × List Value)) (n : Nat) (h : Hint) (hx : P.follows .mixedOrders = true) (hT : TyOk P T) (hc : CallSim P G call ∧ MonoF call) (hfn : P.funcs[f]? = some fn) (hb : fn.body.isSome = true) (hok : fnB G fn = true)
    (hcb : cutB [] (tabs.map (·.1)) (tabs.map (·.1)) n = true) (hi : (tabs.all fun p => intsB p.2) = true) (hG : ∀ g, G g = true → memN g (tabs.map (·.1)) = true)
    (hs : ∀ args σ v σ', s args σ = some (v, σ') → σ' = σ ∧ hasTabs tabs σ = true ∧ (∀ ι : Ren, ι.dt = true → VAs ι args args) ∧ VA noRen v v ∧ ∀ N, fn.ntmps ≤ N → ∃ t, vcC (loopT P G (fun k => memN k (tabs.map (·.1))) N) T call h (codeOf fn) t (initEnv args 0 .leaf) (tabS tabs n) (vcEnd T fn fun v1 _ => v1 = v)) (hg : Guarded h call := by exact guarded_none) : SpecSim P G f s := by
  have h1 : FnOk1 P G f fn := .of hfn hok
  refine ⟨fun args σ v σ' he => by rw [(hs args σ v σ' he).1]; exact .refl σ, fun args σ v σ' he => ?_⟩
  obtain ⟨rfl, ht, ha, hv, hd⟩ := hs args σ v σ' he
  refine call_spec h1 (codeOf_ok hb) hT (tab_entry hcb (fun p hp => List.all_eq_true.1 hi p hp) hG ht (ha _ rfl)) fun N hN => ?_
  obtain ⟨t, d⟩ := hd N hN
  refine (vcC_ok hx hT hc.1 hc.2 hg (codeOf fn) (codeOk_mono hN _ (h1.2.2 _ (codeOf_ok hb))) t _ _ _ d).mono fun x e σ1 hq => ?_
  have := vcEnd_ok hq
  cases x with
  | normal => obtain ⟨vs, g1, g2⟩ := this; exact ⟨vs, g1, _, id, by rw [g2]; exact noAddr_leave (fun _ => rfl) hv⟩
  | exit id => exact this.elim
  | ret => obtain ⟨vs, g1, g2⟩ := this; exact ⟨vs, g1, _, id, by rw [g2]; exact noAddr_leave (fun _ => rfl) hv⟩

/-- a function without arguments, by its run -/
theorem spec_ran {P : Program} {T : Tab} {f : FuncId} {v : Value} (G : Globs) (tabs : List (Nat × List Value)) (n : Nat) {lf m : Nat} (hT : TyOk P T) (hF : FnsOk P T G)
    (hcb : cutB [] (tabs.map (·.1)) (tabs.map (·.1)) n = true) (hi : (tabs.all fun p => intsB p.2) = true) (hG : ∀ g, G g = true → memN g (tabs.map (·.1)) = true) (hv : VA noRen v v)
    (hr : ∃ σ', callN T lf (m + 1) f [] (tabS tabs n) = some (v, σ')) : SpecSim P G f (fun args σ => andThen (gNil args) fun _ => iff (hasTabs tabs σ) (some (v, σ)) none) := by
  obtain ⟨σr, hr⟩ := hr
  obtain ⟨fn, c, x, e, vs, σ1, h1, h2, h3, h4, h5, h6, _⟩ := callN_eq hr
  have hfn := hF.2 f fn h1
  have inv : ∀ {args : List Value} {σ : ASt} {v' : Value} {σ' : ASt}, (andThen (gNil args) fun _ => iff (hasTabs tabs σ) (some (v, σ)) none) = some (v', σ') → args = [] ∧ hasTabs tabs σ = true ∧ v' = v ∧ σ' = σ := fun {args σ v' σ'} he => by
    obtain ⟨u, a1, a2⟩ := andThen_eq he
    obtain ⟨a3, a4⟩ := iff_some a2
    cases a4
    exact ⟨gNil_eq a1, a3, rfl, rfl⟩
  refine ⟨fun args σ v' σ' he => by rw [(inv he).2.2.2]; exact .refl σ, fun args σ v' σ' he => ?_⟩
  obtain ⟨rfl, ht, rfl, rfl⟩ := inv he
  refine call_spec hfn h2 hT (tab_entry hcb (fun p hp => List.all_eq_true.1 hi p hp) hG ht .nil) fun N hN => ?_
  refine tri_run (sim_code hF.1 hT (sim_callN hT hF m).sim (mono_callN m) c (codeOk_mono hN c (hfn.2.2 c h2))) (fun e σ x e' σ' h => mono_code (mono_callN m) c _ _ _ _ _ h) (show runCode c T (callN T lf m) lf (initEnv [] 0 .leaf) (tabS tabs n) = some (x, e, σ1) from h3) ?_
  rcases h4 with rfl | rfl
  · exact ⟨vs, h5, _, id, by rw [← h6]; exact noAddr_leave (fun _ => rfl) hv⟩
  · exact ⟨vs, h5, _, id, by rw [← h6]; exact noAddr_leave (fun _ => rfl) hv⟩

theorem some_of_asB {v : Option (Value × ASt)} {b : Bool} (h : (andThen2 v fun v _ => asB v) = some b) : ∃ σ', v = some (.bool b, σ') := by
  obtain ⟨a, s, h1, h2⟩ := andThen2_eq h
  exact ⟨s, by rw [h1, asB_eq h2]⟩
end Go.Abs

/- INPUTS OF PLAIN DATA: what their laying is; and a law that is known by a specification. -/
namespace Go.Abs

def IsSh : Sh → Value → Prop
  | .int k, v => ∃ n, v = .int k n ∧ (Lit.int k n).wf = true
  | .bool, v => ∃ b, v = .bool b
  | .str, v => ∃ s : ByteArray, v = .string s ∧ s.size ≤ maxLen
def Are : List Sh → List Value → Prop
  | [], [] => True
  | s :: ss, v :: vs => IsSh s v ∧ Are ss vs
  | _, _ => False

theorem Are.append : ∀ {a b : List Sh} {c d : List Value}, Are a c → Are b d → Are (a ++ b) (c ++ d)
  | [], _, [], _, _, h => h
  | _ :: _, _, _ :: _, _, h, h' => ⟨h.1, Are.append h.2 h'⟩
  | [], _, _ :: _, _, h, _ => h.elim
  | _ :: _, _, [], _, h, _ => h.elim
theorem Are.cons_inv {s : Sh} {ss : List Sh} {l : List Value} (h : Are (s :: ss) l) : ∃ v vs, l = v :: vs ∧ IsSh s v ∧ Are ss vs := by
  match l, h with
  | _ :: _, h => exact ⟨_, _, rfl, h.1, h.2⟩
theorem Are.nil_inv {l : List Value} (h : Are [] l) : l = [] := by
  match l, h with
  | [], _ => rfl

section
variable {P : Program} {T : Tab} {H : Type} {enc : TypeId × Value → H} {w : World} {base : Nat} {spare : Nat → Bool} {held : Bool} {D : Nat → Prop}

theorem layList_flat {f : TypeId → DataW H → Nat → Option Laid} {sh : TypeId → Option (List Sh)} : ∀ (l : List (TypeId × DataW H)) (ss : List Sh), shapesL sh (l.map (·.1)) = some ss →
    (∀ p ∈ l, ∀ s, sh p.1 = some s → ∀ n, ∃ acs, f p.1 p.2 n = some (acs, []) ∧ Are s acs) → ∀ n, ∃ acs, layList f l n = some (acs, []) ∧ Are ss acs
  | [], ss, h, _, n => by cases h; exact ⟨[], rfl, trivial⟩
  | p :: l, ss, h, hp, n => by
    obtain ⟨a, h1, h2⟩ := andThen_eq (show andThen (sh p.1) (fun a => andThen (shapesL sh (l.map (·.1))) fun b => some (a ++ b)) = some ss from h)
    obtain ⟨b, h3, h4⟩ := andThen_eq h2
    cases h4
    obtain ⟨c, g1, g2⟩ := hp p (by simp) a h1 n
    obtain ⟨c', g3, g4⟩ := layList_flat l b h3 (fun q hq => hp q (by simp [hq])) (n + ([] : List (List Value)).length)
    refine ⟨c ++ c', ?_, g2.append g4⟩
    show andThen2 (f p.1 p.2 n) (fun c b => andThen2 (layList f l (n + b.length)) fun c' b' => some (c ++ c', b ++ b')) = _
    rw [g1, andThen2_some, g3, andThen2_some]
    rfl

theorem flat_lay (hT : TyOk P T) : ∀ (fuel : Nat) (t : TypeId) (ss : List Sh) (d : DataW H) (cs : List Value), shapes T fuel t = some ss →
    (∃ fuel' ps, DataW.trod enc P w base spare held fuel' t cs = some (d, ps)) → ∀ n, ∃ acs, lay T fuel t d n = some (acs, []) ∧ Are ss acs
  | 0, _, _, _, _, h, _, _ => by cases h
  | fuel + 1, t, ss, d, cs, h, ⟨fuel', ps, hr⟩, n => by
    simp only [shapes] at h
    obtain ⟨ds, hd, h⟩ := andThen_eq h
    have hu := und_desc hT hd
    have hL : lay T (fuel + 1) t d n = andThen (desc T t) _ := rfl
    rw [hd, andThen_some] at hL
    split at h
    · cases h
      obtain ⟨b, rfl, hx⟩ := DataW.trod_bool hu hr
      cases hx
      exact ⟨_, hL, ⟨_, rfl⟩, trivial⟩
    · cases h
      obtain ⟨m, rfl, hx, hm⟩ := DataW.trod_int hu hr
      cases hx
      exact ⟨_, hL, ⟨_, rfl, hm⟩, trivial⟩
    · cases h
      obtain ⟨s, rfl, hx, hs⟩ := DataW.trod_string hu hr
      cases hx
      exact ⟨_, hL, ⟨s, rfl, hs⟩, trivial⟩
    · rename_i fs
      obtain ⟨z, hz, h⟩ := andThen_eq h
      obtain ⟨hc, h⟩ := iff_some h
      obtain ⟨ys, m, _, hx, hl, hyl, hy⟩ := DataW.trod_struct hu hr
      cases hx
      have hmap : ((fs.toList.zip (ys.map (·.1))).map fun x => (x.1.type, x.2)).map (·.1) = fs.toList.map (·.type) := by
        rw [List.map_map]
        have : (Prod.fst ∘ fun x : Field × DataW H => (x.1.type, x.2)) = (fun f : Field => f.type) ∘ Prod.fst := rfl
        rw [this, ← List.map_map, List.map_fst_zip (by simp [hyl])]
      obtain ⟨acs, g1, g2⟩ := layList_flat (f := lay T fuel) (sh := shapes T fuel) ((fs.toList.zip (ys.map (·.1))).map fun x => (x.1.type, x.2)) ss (by rw [hmap]; exact h) (fun p hp s hs n => by
        obtain ⟨i, hi, hpi⟩ := List.getElem_of_mem hp
        have hpi' : ((fs.toList.zip (ys.map (·.1))).map fun x => (x.1.type, x.2))[i]? = some p := by rw [List.getElem?_eq_getElem hi, hpi]
        obtain ⟨f, y, h5, h6, rfl⟩ := getElem?_zip_map hpi'
        have h9 := hy i f (by rw [← Array.getElem?_toList]; exact h5)
        rw [List.getElem?_map, Option.map_eq_some_iff] at h6
        obtain ⟨y', h10, rfl⟩ := h6
        rw [h10] at h9
        exact flat_lay hT fuel f.type s y'.1 _ hs ⟨m, y'.2, h9⟩ n) n
      refine ⟨acs, hL.trans ?_, g2⟩
      show andThen (size T t) (fun z => iff (and (Nat.beq fs.toList.length (ys.map (·.1)).length) (contig T fs.toList 0 z)) (layList (lay T fuel) _ n) none) = _
      rw [hz, andThen_some, hc, show Nat.beq fs.toList.length (ys.map (·.1)).length = true from (beq_iff _ _).2 (by simp [hyl])]
      exact g1
    · rename_i len e
      obtain ⟨z, hz, h⟩ := andThen_eq h
      obtain ⟨ze, hze, h⟩ := andThen_eq h
      obtain ⟨hc, h⟩ := iff_some h
      obtain ⟨ys, m, _, hx, hl, hyl, hy⟩ := DataW.trod_array hu hr
      cases hx
      have hmap : ((ys.map (·.1)).map fun x => (e, x)).map (·.1) = List.replicate len e := by
        rw [List.map_map, List.map_map, ← hyl]
        exact List.map_const' ..
      obtain ⟨acs, g1, g2⟩ := layList_flat (f := lay T fuel) (sh := shapes T fuel) ((ys.map (·.1)).map fun x => (e, x)) ss (by rw [hmap]; exact h) (fun p hp s hs n => by
        simp only [List.map_map, List.mem_map, Function.comp] at hp
        obtain ⟨y, hy2, rfl⟩ := hp
        obtain ⟨i, hi, hyi⟩ := List.getElem_of_mem hy2
        have h9 := hy i (by omega)
        rw [List.getElem?_eq_getElem hi, hyi] at h9
        exact flat_lay hT fuel e s y.1 _ hs ⟨m, y.2, h9⟩ n) n
      refine ⟨acs, hL.trans ?_, g2⟩
      show andThen (size T t) (fun z => andThen (size T e) fun ze => iff (and (Nat.beq len (ys.map (·.1)).length) (Nat.beq z (len * ze))) (layList (lay T fuel) _ n) none) = _
      rw [hz, andThen_some, hze, andThen_some, hc, show Nat.beq len (ys.map (·.1)).length = true from (beq_iff _ _).2 (by simp [hyl])]
      exact g1
    · cases h


theorem layList_rows {f : TypeId → DataW H → Nat → Option Laid} {e : TypeId} {ss : List Sh} : ∀ (l : List (DataW H)), (∀ x ∈ l, ∀ n, ∃ acs, f e x n = some (acs, []) ∧ Are ss acs) → ∀ n, ∃ rows : List (List Value), layList f (l.map fun x => (e, x)) n = some (rows.flatten, []) ∧ rows.length = l.length ∧ ∀ r ∈ rows, Are ss r
  | [], _, n => ⟨[], rfl, rfl, fun r hr => by cases hr⟩
  | x :: l, h, n => by
    obtain ⟨c, g1, g2⟩ := h x (by simp) n
    obtain ⟨rows, g3, g4, g5⟩ := layList_rows l (fun y hy => h y (by simp [hy])) (n + ([] : List (List Value)).length)
    refine ⟨c :: rows, ?_, by simp [g4], fun r hr => ?_⟩
    · show andThen2 (f e x n) (fun c b => andThen2 (layList f (l.map fun x => (e, x)) (n + b.length)) fun c' b' => some (c ++ c', b ++ b')) = _
      rw [g1, andThen2_some, g3, andThen2_some]
      rfl
    · rcases List.mem_cons.1 hr with rfl | hr
      · exact g2
      · exact g5 r hr

/-- a slice of plain data that came in -/
theorem slice_lay (hT : TyOk P T) {fuel z : Nat} {t e : TypeId} {ss : List Sh} {d : DataW H} {cs : List Value} (ht : desc T t = some (.slice e)) (hs : shapes T fuel e = some ss) (hz : size T e = some z) (hz0 : z ≠ 0)
    (hr : ∃ fuel' ps, DataW.trod enc P w base (fun _ => true) held fuel' t cs = some (d, ps)) (n : Nat) :
    lay T (fuel + 1) t d n = some ([.slice none 0 0], []) ∨ lay T (fuel + 1) t d n = some ([.slice (some ⟨0, 0, none⟩) 0 0], []) ∨
    ∃ (rows : List (List Value)) (len cap : Nat), lay T (fuel + 1) t d n = some ([.slice (some ⟨n, 0, none⟩) len cap], [rows.flatten]) ∧ rows.length = len ∧ len ≤ cap ∧ cap ≤ maxLen ∧ ∀ r ∈ rows, Are ss r := by
  obtain ⟨fuel', ps, hr⟩ := hr
  have hu := und_desc hT ht
  have hL : lay T (fuel + 1) t d n = andThen (desc T t) _ := rfl
  rw [ht, andThen_some] at hL
  rcases DataW.trod_slice hu hr with ⟨rfl, hx⟩ | ⟨a, len, cap, els, rest, m, _, rfl, hx, _, hlc, hcm, hlen, hel, hsp, _⟩
  · cases hx
    exact .inl hL
  · cases hx
    obtain ⟨hrl, _⟩ := hsp rfl
    have hL' : lay T (fuel + 1) t (.slice (els.map (·.1)) (rest.map (·.1))) n = iff (and (isZ (els.map (·.1)).length) (isZ (rest.map (·.1)).length)) (some ([.slice (some ⟨0, 0, none⟩) 0 0], []))
        (andThen (size T e) fun z => iff (isZ z) none (andThen2 (layList (lay T fuel) ((els.map (·.1)).map fun x => (e, x)) n) fun c b =>
          some ([.slice (some ⟨n + b.length, 0, none⟩) (els.map (·.1)).length ((els.map (·.1)).length + (rest.map (·.1)).length)], b ++ [c]))) := hL
    rw [hL', iff_eq]
    split
    · exact .inr (.inl rfl)
    · obtain ⟨rows, g1, g2, g3⟩ := layList_rows (f := lay T fuel) (e := e) (ss := ss) (els.map (·.1)) (fun x hx n => by
        obtain ⟨y, hy, rfl⟩ := List.mem_map.1 hx
        obtain ⟨i, hi, hyi⟩ := List.getElem_of_mem hy
        have h1 := hel i (by omega)
        rw [List.getElem?_eq_getElem hi, hyi, Option.bind_eq_some_iff] at h1
        obtain ⟨cs', _, h3⟩ := h1
        exact flat_lay hT fuel e ss y.1 cs' hs ⟨m, y.2, h3⟩ n) n
      refine .inr (.inr ⟨rows, len, cap, ?_, by rw [g2, List.length_map, hlen], hlc, hcm, g3⟩)
      have hz1 : isZ z = false := by rw [Bool.eq_false_iff]; exact fun h => hz0 ((Tr.isZ_iff z).1 h)
      rw [hz, andThen_some, hz1, iff_false, g1, andThen2_some, List.length_map, List.length_map, hlen, hrl, Nat.add_sub_cancel' hlc]
      rfl

/-- arguments of plain data -/
noncomputable def argShapes (T : Tab) (fuel : Nat) : List TypeId → Option (List (Bool × List Sh))
  | [] => some []
  | t :: ts => andThen (ty T t) fun i => andThen (shapes T fuel t) fun s => andThen (argShapes T fuel ts) fun r => some ((i.agg, s) :: r)
/-- a value of cells that are so shaped -/
def IsArg (p : Bool × List Sh) (v : Value) : Prop := if p.1 then ∃ cs, v = .agg ⟨cs⟩ ∧ Are p.2 cs else ∃ s, p.2 = [s] ∧ IsSh s v
def AreArgs : List (Bool × List Sh) → List Value → Prop
  | [], [] => True
  | s :: ss, v :: vs => IsArg s v ∧ AreArgs ss vs
  | _, _ => False

theorem AreArgs.cons_inv {s : Bool × List Sh} {ss : List (Bool × List Sh)} {l : List Value} (h : AreArgs (s :: ss) l) : ∃ v vs, l = v :: vs ∧ IsArg s v ∧ AreArgs ss vs := by
  match l, h with
  | _ :: _, h => exact ⟨_, _, rfl, h.1, h.2⟩
theorem AreArgs.nil_inv {l : List Value} (h : AreArgs [] l) : l = [] := by
  match l, h with
  | [], _ => rfl
theorem IsArg.agg {s : List Sh} {v : Value} (h : IsArg (true, s) v) : ∃ cs, v = .agg ⟨cs⟩ ∧ Are s cs := h
theorem IsArg.one {s : Sh} {v : Value} (h : IsArg (false, [s]) v) : IsSh s v := by
  obtain ⟨s', e, h⟩ := (show ∃ s', [s] = [s'] ∧ IsSh s' v from h)
  cases e; exact h

theorem flat_args (hT : TyOk P T) {fuel : Nat} : ∀ (ts : List TypeId) (ds : List (DataW H)) (vs' : List Value) (ss : List (Bool × List Sh)) (n : Nat) (ps : List MemPlace), argShapes T fuel ts = some ss → (ss.all fun p => p.1 || Nat.beq p.2.length 1) = true →
    DataW.TrodAll enc P w base spare held ts vs' ds ps → ∃ vs, layArgs T fuel ts ds n = some (vs, []) ∧ AreArgs ss vs
  | [], [], [], ss, n, ps, h, _, _ => by cases h; exact ⟨[], rfl, trivial⟩
  | t :: ts, d :: ds, v' :: vs', ss, n, ps, h, hb, ht => by
    obtain ⟨i, h1, h2⟩ := andThen_eq (show andThen (ty T t) (fun i => andThen (shapes T fuel t) fun s => andThen (argShapes T fuel ts) fun r => some ((i.agg, s) :: r)) = some ss from h)
    obtain ⟨s, h3, h4⟩ := andThen_eq h2
    obtain ⟨r, h5, h6⟩ := andThen_eq h4
    cases h6
    simp only [List.all_cons, Bool.and_eq_true] at hb
    obtain ⟨p, q, ⟨fl, t1⟩, t2, _⟩ := ht
    obtain ⟨acs, g1, g2⟩ := flat_lay hT fuel t s d _ h3 ⟨fl, p, t1⟩ n
    obtain ⟨vs, g3, g4⟩ := flat_args hT ts ds vs' r (n + ([] : List (List Value)).length) q h5 hb.2 t2
    have hv : ∃ v, valueOf T t acs = some v ∧ IsArg (i.agg, s) v := by
      unfold valueOf
      rw [h1, andThen_some]
      cases ha : i.agg with
      | true => exact ⟨_, rfl, acs, rfl, g2⟩
      | false =>
        rw [ha] at hb
        have hl : s.length = 1 := (beq_iff _ _).1 (by simpa using hb.1)
        match s, hl with
        | [s0], _ =>
          obtain ⟨v, rest, rfl, k1, k2⟩ := Are.cons_inv g2
          obtain rfl := Are.nil_inv k2
          exact ⟨v, rfl, s0, rfl, k1⟩
    obtain ⟨v, k1, k2⟩ := hv
    refine ⟨v :: vs, ?_, k2, g4⟩
    show andThen2 (lay T fuel t d n) (fun c b => andThen (valueOf T t c) fun v => andThen2 (layArgs T fuel ts ds (n + b.length)) fun vs b' => some (v :: vs, b ++ b')) = _
    rw [g1, andThen2_some, k1, andThen_some, g3, andThen2_some]
    rfl
  | [], [], _ :: _, _, _, _, _, _, ht => ht.elim
  | [], _ :: _, [], _, _, _, _, _, ht => ht.elim
  | [], _ :: _, _ :: _, _, _, _, _, _, ht => ht.elim
  | _ :: _, [], [], _, _, _, _, _, ht => ht.elim
  | _ :: _, [], _ :: _, _, _, _, _, _, ht => ht.elim
  | _ :: _, _ :: _, [], _, _, _, _, _, ht => ht.elim

theorem _root_.Go.DataW.TrodAll.length_ds : ∀ {ts : List TypeId} {vs : List Value} {ds : List (DataW H)} {ps : List MemPlace}, DataW.TrodAll enc P w base spare held ts vs ds ps → ts.length = ds.length
  | [], [], [], _, _ => rfl
  | _ :: _, _ :: _, _ :: _, _, ⟨_, _, _, h, _⟩ => congrArg Nat.succ h.length_ds
  | [], [], _ :: _, _, h => h.elim
  | [], _ :: _, [], _, h => h.elim
  | [], _ :: _, _ :: _, _, h => h.elim
  | _ :: _, [], [], _, h => h.elim
  | _ :: _, [], _ :: _, _, h => h.elim
  | _ :: _, _ :: _, [], _, h => h.elim

/-- a law that answers true, by its specification -/
theorem spec_true (hT : TyOk P T) {G : Globs} {f : FuncId} {s : SpecF} (hs : SpecSim P G f s) {args' : List Value} {base : Nat} {fuel : Nat} {held : Bool} {ts : List TypeId} {ds : List (DataW H)} {ps qs : List MemPlace}
    {xs : List (Nat × TypeId × DataW Unit)} {laid : List (String × DataW Unit)} {gs : List (Nat × List Value)} {n : Nat} {bs bs' : List (List Value)} {vs : List Value} {σ' : ASt}
    (hargs : DataW.TrodAll enc P w base (fun _ => true) held ts args' ds ps) (hok : ∀ (j : Nat) t v, ts[j]? = some t → args'[j]? = some v → Value.okWide P w .any base t v)
    (hxs : VarsAre P xs laid) (hlaid : DataW.LaidVars P w laid qs)
    (h1 : layVars T fuel xs n = some (gs, bs)) (hn : ∀ g c, lookG gs g = some c → g < n) (h2 : layArgs T fuel ts ds (n + bs.length) = some (vs, bs')) (hG : ∀ g, G g = true → (lookG gs g).isSome = true)
    (h : s vs (start gs n (bs ++ bs')) = some (.bool true, σ')) :
    Calls P f ⟨args'⟩ w fun e w' => e = .returned (.bool true) ∧ Go.RowKit.Below w.heap.size w w' := by
  obtain ⟨f1, g1⟩ := vars_ok (w := w) (D := No) hT xs laid n gs bs qs hxs hlaid h1
  obtain ⟨f2, g2⟩ := args_ok (w := w) (D := No) (enc := enc) hT ts ds args' (n + bs.length) vs bs' ps hargs hok h2
  have hf : ∀ π, Agree n (bs ++ bs') (fun k => if k < n + bs.length then f1 k else f2 k) π → Agree n bs f1 π ∧ Agree (n + bs.length) bs' f2 π := fun π hπ =>
    ⟨fun k hk hk2 => (hπ k hk (by simp; omega)).trans (if_pos hk2), fun k hk hk2 => (hπ k (by omega) (by simp; omega)).trans (if_neg (by omega))⟩
  obtain ⟨π, hag, hpre, hro, hgl, _⟩ := start_ok (w := w) (gs := gs) (n := n) (bs := bs ++ bs') hn (fun π hπ => by
    obtain ⟨a, b⟩ := hf π hπ
    obtain ⟨c1, c2⟩ := g1 π a
    exact ⟨c1.append (g2 π b).1, c2⟩)
  have hmono := hs.1 vs _ _ _ h
  obtain ⟨_, hsim⟩ := hs.2 vs _ _ _ h
  have := hsim (Nat.le_refl _) π No No (fun _ => none) w args' (fun g hg => by
    have := hG g hg
    cases hl : lookG gs g with
    | none => rw [hl] at this; cases this
    | some c => exact hgl g c hl) (g2 π (hf π hag).2).2 (hpre σ' hmono.next)
  refine this.mono fun e w' ⟨v', π', D', he, hv, hpo⟩ => ?_
  rw [hv.bool_inv] at he
  exact ⟨he, hpo.fr.os, hpo.fr.tape, hpo.fr.output, hpo.fr.size, fun B hB => hpo.fr.keep B hB fun k i hk hro2 => by rw [hro k i hk] at hro2; cases hro2⟩
end
end Go.Abs

/- CUTS AT WHICH NOTHING IS RENAMED. -/
namespace Go.Abs
noncomputable def goodV (kb : List Nat) : Value → Bool
  | .pointer (some a) => memN a.block kb
  | .slice (some a) _ _ => memN a.block kb
  | v => bare v
noncomputable def goodAll (kb : List Nat) (l : List Value) : Bool := @List.rec Value (fun _ => Bool) true (fun v _ ih => iff (goodV kb v) ih false) l
noncomputable def goodO (kb : List Nat) (k : Nat) : AObj → Bool
  | .cells c _ org _ d => and (Nat.beq org k) (and (not d) (goodAll kb c))
  | _ => false
noncomputable def goodOs (kb : List Nat) : List Nat → List AObj → Bool
  | k :: ks, o :: os => and (goodO kb k o) (goodOs kb ks os)
  | [], [] => true
  | _, _ => false

theorem renL_self {kb : List Nat} {k : Nat} (hn : noDup kb = true) (h : memN k kb = true) : renLoc kb kb k = some (k, 0) := by
  obtain ⟨i, hi, rfl⟩ := List.getElem_of_mem ((memN_iff k kb).1 h)
  exact renL_at hn (List.getElem?_eq_getElem hi) (List.getElem?_eq_getElem hi)
theorem goodV_ok {F : Nat → Option (List Value)} {kb : List Nat} (hn : noDup kb = true) {v : Value} (h : goodV kb v = true) : VA (renF F kb kb) v v := by
  unfold goodV at h
  split at h
  · rename_i a
    obtain ⟨b, off, s⟩ := a
    exact .ptr (renL_self hn h) (Nat.zero_add off).symm
  · rename_i a n c
    obtain ⟨b, off, s⟩ := a
    exact .sl n c (renL_self hn h) (Nat.zero_add off).symm
  · exact .bare h
theorem goodAll_ok {F : Nat → Option (List Value)} {kb : List Nat} (hn : noDup kb = true) : ∀ {l : List Value}, goodAll kb l = true → VAs (renF F kb kb) l l
  | [], _ => .nil
  | v :: l, h => by
    have h' : Abs.iff (goodV kb v) (goodAll kb l) false = true := h
    rw [iff_eq] at h'
    split at h'
    · rename_i h1; exact .cons (goodV_ok hn h1) (goodAll_ok hn h')
    · cases h'
theorem goodO_ok {F : Nat → Option (List Value)} {kb : List Nat} (hn : noDup kb = true) {k : Nat} {o : AObj} (h : goodO kb k o = true) : ObjA (renF F kb kb) k 0 o o := by
  cases o with
  | cells c e org ro d =>
    have h' : and (Nat.beq org k) (and (not d) (goodAll kb c)) = true := h
    simp only [Bool.and_eq_true, beq_iff, Bool.not_eq_true'] at h'
    obtain ⟨rfl, rfl, h3⟩ := h'
    refine ⟨rfl, rfl, rfl, rfl, by omega, ?_, fun hr => ⟨hr, rfl, rfl⟩⟩
    rw [List.drop_zero, List.take_length]
    exact goodAll_ok hn h3
  | _ => cases h
theorem goodOs_ok {F : Nat → Option (List Value)} {kb : List Nat} (hn : noDup kb = true) : ∀ {ks : List Nat} {os : List AObj}, goodOs kb ks os = true → ObjAs (renF F kb kb) ks os os
  | [], [], _ => trivial
  | k :: ks, o :: os, h => by
    have h' : and (goodO kb k o) (goodOs kb ks os) = true := h
    rw [Bool.and_eq_true] at h'
    exact ⟨goodO_ok hn h'.1, goodOs_ok hn h'.2⟩
  | [], _ :: _, h => by cases h
  | _ :: _, [], h => by cases h
theorem fits_same {F : Nat → Option (List Value)} {sb kb : List Nat} {so os : List AObj} {vs : List Value} (hn : noDup kb = true) (hv : goodAll kb vs = true) (ho : goodOs kb kb (so ++ os) = true) (hl : so.length = sb.length) : Fits F sb kb kb so vs os vs (so ++ os) :=
  ⟨goodAll_ok hn hv, goodOs_ok hn ho, by rw [← hl, List.take_left]⟩
theorem objA_bare {ι : Ren} {k k' : Nat} {c : List Value} {e : Option Nat} {ro : Bool} (h : ∀ v ∈ c, Abs.bare v = true) : ObjA ι k 0 (.cells c e k ro false) (.cells c e k' ro false) :=
  ⟨rfl, rfl, rfl, rfl, by omega, by rw [List.drop_zero, List.take_length]; exact VAs.bare h, fun hr => ⟨hr, rfl, rfl⟩⟩
theorem bareAll_mem {c : List Value} (h : bareAll c = true) : ∀ v ∈ c, Abs.bare v = true := by
  induction c with
  | nil => intro v hv; cases hv
  | cons a c ih =>
    have h' : Abs.iff (Abs.bare a) (bareAll c) false = true := h
    rw [iff_eq] at h'
    split at h'
    · rename_i ha
      intro v hv
      rcases List.mem_cons.1 hv with rfl | hv
      · exact ha
      · exact ih h' v hv
    · cases h'
theorem objA_lit {ι : Ren} {k k' : Nat} {c : List Value} {e : Option Nat} {ro : Bool} (h : bareAll c = true) : ObjA ι k 0 (.cells c e k ro false) (.cells c e k' ro false) := objA_bare (bareAll_mem h)
theorem bare_ints {k : IntKind} (l : List Int) : ∀ v ∈ l.map (Value.int k), Abs.bare v = true := fun v hv => by
  obtain ⟨n, _, rfl⟩ := List.mem_map.1 hv
  rfl
end Go.Abs

/- CALLS WITH BLOCKS: what they are given, and one that they leave. -/
namespace Go.Abs
/-- blocks that are read: under the function's number, under the caller's, what they hold -/
structure Blk where
  own : Nat
  at_ : Nat
  cells : List Value
noncomputable def ownS (bl : List Blk) (n : Nat) : ASt := cutS (bl.map (·.own)) (bl.map fun b => tabRo b.own b.cells) n
def Given (bl : List Blk) (σ : ASt) : Prop := ∀ b ∈ bl, ∃ org ro, σ.obj b.at_ = some (.cells b.cells none org ro false)

theorem blocks_entry {G : Globs} {bl : List Blk} {n : Nat} {args argsc : List Value} {σ : ASt} (hn : noDup (bl.map (·.own)) = true) (hlt : allLt n (bl.map (·.own)) = true) (hb : ∀ b ∈ bl, ∀ v ∈ b.cells, Abs.bare v = true)
    (hG : ∀ g, G g = true → renL (bl.map (·.own)) (bl.map (·.at_)) g = some (g, 0)) (ht : Given bl σ)
    (hva : VAs (renL (bl.map (·.own)) (bl.map (·.at_))) argsc args) : Entry G (fun k => memN k (bl.map (·.own))) (renL (bl.map (·.own)) (bl.map (·.at_))) args argsc σ (ownS bl n) := by
  simp only [allLt, List.all_eq_true] at hlt
  have hobj : ∀ k, (ownS bl n).obj k = look2 (bl.map (·.own)) (bl.map fun b => tabRo b.own b.cells) k := fun k => mkTr2_get _ _ k
  have hat : ∀ k, memN k (bl.map (·.own)) = true → ∃ b ∈ bl, b.own = k ∧ (ownS bl n).obj k = some (tabRo k b.cells) ∧ renL (bl.map (·.own)) (bl.map (·.at_)) k = some (b.at_, 0) := fun k hk => by
    rw [memN_iff, List.mem_map] at hk
    obtain ⟨b, hp, rfl⟩ := hk
    obtain ⟨i, hi2, rfl⟩ := List.getElem_of_mem hp
    have h1 : (bl.map (·.own))[i]? = some bl[i].own := by rw [List.getElem?_map, List.getElem?_eq_getElem hi2]; rfl
    have h2 : (bl.map (·.at_))[i]? = some bl[i].at_ := by rw [List.getElem?_map, List.getElem?_eq_getElem hi2]; rfl
    refine ⟨_, hp, rfl, ?_, renL_at hn h1 h2⟩
    rw [hobj]
    refine look2_at hn h1 ?_
    rw [List.getElem?_map, List.getElem?_eq_getElem hi2]; rfl
  refine ⟨Nat.le_refl _, fun k hk => ?_, fun k hk => ?_, fun k hk => ?_, fun k p hk => ?_, hva, hG, fun b cells h => (by cases (show none = some cells from h))⟩
  · rw [hobj]
    cases hl : look2 (bl.map (·.own)) (bl.map fun b => tabRo b.own b.cells) k with
    | none => rfl
    | some o =>
      obtain ⟨i, h1, _⟩ := look2_some hl
      have := (blt_iff _ _).1 (hlt k (List.mem_of_getElem? h1))
      have : n ≤ k := hk
      omega
  · rw [hobj]
    cases hl : look2 (bl.map (·.own)) (bl.map fun b => tabRo b.own b.cells) k with
    | none => rfl
    | some o =>
      obtain ⟨i, h1, _⟩ := look2_some hl
      rw [(memN_iff k _).2 (List.mem_of_getElem? h1)] at hk
      cases hk
  · obtain ⟨b, hp, rfl, h1, h2⟩ := hat k hk
    obtain ⟨org, ro, h3⟩ := ht b hp
    refine ⟨b.at_, 0, b.cells, none, _, h2, h1, h3, rfl, rfl, rfl, rfl, by omega, ?_, fun h => by cases h⟩
    rw [List.drop_zero, List.take_length]
    exact VAs.bare (hb b hp)
  · obtain ⟨i, h1, _⟩ := renL_some hk
    exact (memN_iff k _).2 (List.mem_of_getElem? h1)

/-- the state behind a call that leaves one new block -/
noncomputable def plus (σ : ASt) (c : List Value) (e : Option Nat) : ASt := ⟨σ.heap.set σ.next (.cells c e σ.next false false), Nat.succ σ.next, σ.low, σ.klow⟩
def renOne (b k : Nat) : Ren := ⟨fun j => if j = b then some (k, 0) else none, fun _ => none, false, true⟩

theorem leave_one {S : Nat → Bool} {ι : Ren} (hfz : ∀ b, ι.fz b = none) {σ σ1 : ASt} {v1 v : Value} {b org : Nat} {c : List Value} {e : Option Nat} (hS : S b = false) (ho : σ1.obj b = some (.cells c e org false false)) (hc : VAs (renOne b σ.next) c c) (hv : VA (renOne b σ.next) v1 v) :
    Leave S ι (renOne b σ.next) (fun _ => b) σ (plus σ c e) σ1 v1 v := by
  have hobj : ∀ k, (plus σ c e).obj k = if k = σ.next then some (.cells c e σ.next false false) else σ.obj k := fun k => Tr.get_set ..
  refine ⟨Nat.le_succ _, rfl, rfl, fun k hk => ?_, fun j h1 h2 => ?_, fun k k' sh hk => ?_, hv, rfl, fun _ => hfz⟩
  · rw [hobj, if_neg (by have : (plus σ c e).next = σ.next + 1 := rfl; omega)]
  · have : j = σ.next := by have : (plus σ c e).next = σ.next + 1 := rfl; omega
    subst this
    exact ⟨if_pos rfl, c, org, e, c, ho, by rw [hobj, if_pos rfl], hc⟩
  · simp only [renOne] at hk
    split at hk
    · rename_i hkb
      cases hk
      exact .inr ⟨by rw [hkb]; exact hS, rfl, Nat.le_refl _, Nat.lt_succ_self _, hkb.symm⟩
    · cases hk
theorem mono_plus (σ : ASt) (c : List Value) (e : Option Nat) : Mono σ (plus σ c e) := mono_new σ _

/-- is it so? -/
noncomputable def dec (p : Prop) : Bool := @decide p (Classical.propDecidable p)
theorem dec_iff {p : Prop} : dec p = true ↔ p := @decide_eq_true_iff p (Classical.propDecidable p)

/-- a specification that asks for something -/
abbrev SpecG := List Value → ASt → Option (Bool × (Value × ASt))
noncomputable def ofG (g : SpecG) : SpecF := fun args σ => andThen (g args σ) fun p => iff p.1 (some p.2) none
theorem ofG_eq {g : SpecG} {args : List Value} {σ σ' : ASt} {v : Value} (h : ofG g args σ = some (v, σ')) : g args σ = some (true, v, σ') := by
  obtain ⟨⟨b, v1, s1⟩, h1, h2⟩ := andThen_eq (show andThen (g args σ) (fun p => iff p.1 (some p.2) none) = some (v, σ') from h)
  obtain ⟨h3, h4⟩ := iff_some h2
  cases h4
  have h3 : b = true := h3
  subst h3
  exact h1
noncomputable def cgL (l : List (FuncId × SpecG)) : FuncId → List Value → ASt → Option (Bool × (Value × ASt)) :=
  @List.rec (FuncId × SpecG) (fun _ => FuncId → List Value → ASt → Option (Bool × (Value × ASt))) (fun _ _ _ => none) (fun p _ ih f args σ => iff (Nat.beq f p.1) (p.2 args σ) (ih f args σ)) l
noncomputable def callG (gl : List (FuncId × SpecG)) (l : List (FuncId × SpecF)) : CallF := fun f args σ =>
  @List.rec (FuncId × SpecG) (fun _ => CallF) (callL l) (fun p _ ih f args σ => iff (Nat.beq f p.1) (ofG p.2 args σ) (ih f args σ)) gl f args σ
theorem guarded_L {kd un : List (Nat × Nat)} {l : List (FuncId × SpecF)} : ∀ gl : List (FuncId × SpecG), Guarded (@Hint.mk kd un ⟨cgL gl⟩) (callG gl l)
  | [], f, args, σ, b, v, σ', h, _ => by cases (show none = some (b, v, σ') from h)
  | p :: gl, f, args, σ, b, v, σ', h, hb => by
    have h' : iff (Nat.beq f p.1) (p.2 args σ) (cgL gl f args σ) = some (b, v, σ') := h
    show iff (Nat.beq f p.1) (ofG p.2 args σ) (callG gl l f args σ) = _
    rw [iff_eq] at h' ⊢
    split at h'
    · rename_i hf
      rw [if_pos hf]
      show andThen (p.2 args σ) (fun p => iff p.1 (some p.2) none) = _
      rw [h', andThen_some, hb]; rfl
    · rename_i hf
      rw [if_neg hf]
      exact guarded_L (kd := kd) (un := un) gl f args σ b v σ' h' hb
theorem callG_okE {P : Program} {G : Globs} {l : List (FuncId × SpecF)} (hl : ∀ p ∈ l, SpecSim P G p.1 p.2) : ∀ gl : List (FuncId × SpecG), (∀ p ∈ gl, SpecSim P G p.1 (ofG p.2)) → CallSimE P G (callG gl l) ∧ MonoF (callG gl l)
  | [], _ => callL_okE hl
  | p :: gl, hg => by
    have ih := callG_okE hl gl fun q hq => hg q (by simp [hq])
    have h0 := hg p (by simp)
    have key : ∀ f args σ v σ', callG (p :: gl) l f args σ = some (v, σ') → (f = p.1 ∧ ofG p.2 args σ = some (v, σ')) ∨ callG gl l f args σ = some (v, σ') := fun f args σ v σ' h => by
      have h' : iff (Nat.beq f p.1) (ofG p.2 args σ) (callG gl l f args σ) = some (v, σ') := h
      rw [iff_eq] at h'
      split at h'
      · rename_i hb; exact .inl ⟨(beq_iff _ _).1 hb, h'⟩
      · exact .inr h'
    refine ⟨fun f args σ v σ' h => ?_, fun f args σ v σ' h => ?_⟩
    · rcases key f args σ v σ' h with ⟨rfl, h1⟩ | h1
      · exact h0.2 args σ v σ' h1
      · exact ih.1 f args σ v σ' h1
    · rcases key f args σ v σ' h with ⟨rfl, h1⟩ | h1
      · exact h0.1 args σ v σ' h1
      · exact ih.2 f args σ v σ' h1
theorem callG_ok {P : Program} {G : Globs} {l : List (FuncId × SpecF)} (hl : ∀ p ∈ l, SpecSim P G p.1 p.2) (gl : List (FuncId × SpecG)) (hg : ∀ p ∈ gl, SpecSim P G p.1 (ofG p.2)) : CallSim P G (callG gl l) ∧ MonoF (callG gl l) := ⟨(callG_okE hl gl hg).1.sim, (callG_okE hl gl hg).2⟩
end Go.Abs

/- DATA THAT CAME IN, BY WHAT IT HOLDS: slices of slices, of structs, as rows of cells; and a law that is known by a specification of data. -/
namespace Go.Abs

/-- the shapes of cells; a slice has rows of such cells -/
inductive Ds where
  | int (k : IntKind)
  | bool
  | str
  | sl (ss : List Ds)

noncomputable def shapesDL (f : TypeId → Option (List Ds)) : List TypeId → Option (List Ds)
  | [] => some []
  | t :: ts => andThen (f t) fun a => andThen (shapesDL f ts) fun b => some (a ++ b)

noncomputable def shapesD (T : Tab) : Nat → TypeId → Option (List Ds)
  | 0, _ => none
  | fuel + 1, t => andThen (desc T t) fun ds => match ds with
    | .bool => some [.bool]
    | .int k => some [.int k]
    | .string => some [.str]
    | .slice e => andThen (size T e) fun z => iff (isZ z) none (andThen (shapesD T fuel e) fun ss => iff (Nat.beq ss.length z) (some [.sl ss]) none)
    | .struct fs => andThen (size T t) fun z => iff (contig T fs.toList 0 z) (shapesDL (shapesD T fuel) (fs.toList.map (·.type))) none
    | .array len e => andThen (size T t) fun z => andThen (size T e) fun ze => iff (Nat.beq z (len * ze)) (shapesDL (shapesD T fuel) (List.replicate len e)) none
    | _ => none

def aggs (rows : List (List Value)) : List Value := rows.map fun c => .agg ⟨c⟩

mutual
def IsD : Ds → Value → Prop
  | .int k, v => ∃ n, v = .int k n ∧ (Lit.int k n).wf = true
  | .bool, v => ∃ b, v = .bool b
  | .str, v => ∃ s : ByteArray, v = .string s ∧ s.size ≤ maxLen
  | .sl ss, v => ∃ rows : List (List Value), v = dat (aggs rows) ∧ rows.length ≤ maxLen ∧ ∀ r ∈ rows, AreD ss r
def AreD : List Ds → List Value → Prop
  | [], [] => True
  | s :: ss, v :: vs => IsD s v ∧ AreD ss vs
  | _, _ => False
end

theorem AreD.append : ∀ {a b : List Ds} {c d : List Value}, AreD a c → AreD b d → AreD (a ++ b) (c ++ d)
  | [], _, [], _, _, h => h
  | _ :: _, _, _ :: _, _, h, h' => by
    simp only [AreD, List.cons_append] at h ⊢
    exact ⟨h.1, AreD.append h.2 h'⟩
  | [], _, _ :: _, _, h, _ => by simp only [AreD] at h
  | _ :: _, _, [], _, h, _ => by simp only [AreD] at h
theorem AreD.cons_inv {s : Ds} {ss : List Ds} {l : List Value} (h : AreD (s :: ss) l) : ∃ v vs, l = v :: vs ∧ IsD s v ∧ AreD ss vs := by
  match l, h with
  | _ :: _, h => simp only [AreD] at h; exact ⟨_, _, rfl, h.1, h.2⟩
  | [], h => simp only [AreD] at h
theorem AreD.nil_inv {l : List Value} (h : AreD [] l) : l = [] := by
  match l, h with
  | [], _ => rfl
  | _ :: _, h => simp only [AreD] at h
theorem AreD.one {s : Ds} {v : Value} (h : IsD s v) : AreD [s] [v] := by simp only [AreD]; exact ⟨h, trivial⟩
theorem AreD.length : ∀ {ss : List Ds} {l : List Value}, AreD ss l → l.length = ss.length
  | [], l, h => by rw [h.nil_inv]; rfl
  | _ :: _, l, h => by
    obtain ⟨v, vs, rfl, _, h2⟩ := h.cons_inv
    simp [h2.length]
theorem IsD.int_inv {k : IntKind} {v : Value} (h : IsD (.int k) v) : ∃ n, v = .int k n ∧ (Lit.int k n).wf = true := by simpa only [IsD] using h
theorem IsD.bool_inv {v : Value} (h : IsD .bool v) : ∃ b, v = .bool b := by simpa only [IsD] using h
theorem IsD.str_inv {v : Value} (h : IsD .str v) : ∃ s : ByteArray, v = .string s ∧ s.size ≤ maxLen := by simpa only [IsD] using h
theorem IsD.sl_inv {ss : List Ds} {v : Value} (h : IsD (.sl ss) v) : ∃ rows : List (List Value), v = dat (aggs rows) ∧ rows.length ≤ maxLen ∧ ∀ r ∈ rows, AreD ss r := by simpa only [IsD] using h

/-- rows of one length -/
theorem rowsCells_aggs {z : Nat} : ∀ {rows : List (List Value)}, (∀ r ∈ rows, r.length = z) → rowsCells z (aggs rows) = some rows.flatten
  | [], _ => rfl
  | r :: rows, h => by
    rw [List.flatten_cons]
    exact rowsCells_mk (h r (by simp)) (rowsCells_aggs fun q hq => h q (by simp [hq]))
theorem aggs_length (rows : List (List Value)) : (aggs rows).length = rows.length := List.length_map ..
theorem VA.closed {ι : Ren} (hd : ι.dt = true) {v : Value} (h : closed1 v = true) : VA ι v v := by
  unfold closed1 at h
  rw [Bool.or_eq_true, Bool.or_eq_true] at h
  rcases h with (h | h) | h
  · exact .bare h
  · obtain ⟨l, hl⟩ := Option.isSome_iff_exists.1 h
    rw [asDat_eq hl]
    exact .data l hd
  · obtain ⟨a, rfl, hs⟩ := noRoom_eq h
    exact .slz _ _ hs hs
theorem VAs.closed {ι : Ren} (hd : ι.dt = true) : ∀ {l : List Value}, (∀ v ∈ l, closed1 v = true) → VAs ι l l
  | [], _ => .nil
  | v :: _, h => .cons (VA.closed hd (h v (by simp))) (VAs.closed hd fun u hu => h u (by simp [hu]))
theorem IsD.closed1 {s : Ds} {v : Value} (h : IsD s v) : Abs.closed1 v = true := by
  match s, h with
  | .int k, h => obtain ⟨n, rfl, _⟩ := h.int_inv; rfl
  | .bool, h => obtain ⟨b, rfl⟩ := h.bool_inv; rfl
  | .str, h => obtain ⟨s, rfl, _⟩ := h.str_inv; rfl
  | .sl ss, h => obtain ⟨rows, rfl, _⟩ := h.sl_inv; rfl
theorem AreD.closed1 : ∀ {ss : List Ds} {l : List Value}, AreD ss l → ∀ v ∈ l, Abs.closed1 v = true
  | [], l, h => by rw [h.nil_inv]; intro v hv; cases hv
  | s :: ss, l, h => by
    obtain ⟨v, vs, rfl, h1, h2⟩ := h.cons_inv
    intro u hu
    rcases List.mem_cons.1 hu with rfl | hu
    · exact h1.closed1
    · exact h2.closed1 u hu
theorem IsD.oneA {s : Ds} {v : Value} (h : IsD s v) : Abs.oneA v = true := by
  match s, h with
  | .int k, h => obtain ⟨n, rfl, _⟩ := h.int_inv; rfl
  | .bool, h => obtain ⟨b, rfl⟩ := h.bool_inv; rfl
  | .str, h => obtain ⟨s, rfl, _⟩ := h.str_inv; rfl
  | .sl ss, h => obtain ⟨rows, rfl, _⟩ := h.sl_inv; rfl
theorem AreD.oneA : ∀ {ss : List Ds} {l : List Value}, AreD ss l → ∀ v ∈ l, Abs.oneA v = true
  | [], l, h => by rw [h.nil_inv]; intro v hv; cases hv
  | s :: ss, l, h => by
    obtain ⟨v, vs, rfl, h1, h2⟩ := h.cons_inv
    intro u hu
    rcases List.mem_cons.1 hu with rfl | hu
    · exact h1.oneA
    · exact h2.oneA u hu

/-! ### how much it holds -/
mutual
def bulkD {H : Type} : DataW H → Nat
  | .lit (.string bytes) => bytes.length + 1
  | .lit _ => 1
  | .nil => 1
  | .ptr d => bulkD d + 1
  | .slice elems spare => bulkAll elems + bulkAll spare + 1
  | .agg parts => bulkAll parts + 1
  | .iface _ d => bulkD d + 1
  | .map entries => bulkEntries entries + 1
  | .held _ => 1
def bulkAll {H : Type} : List (DataW H) → Nat
  | [] => 0
  | d :: r => bulkD d + bulkAll r
def bulkEntries {H : Type} : List (Lit × DataW H) → Nat
  | [] => 0
  | x :: r => bulkEntry x + bulkEntries r
def bulkEntry {H : Type} : Lit × DataW H → Nat
  | (.string bytes, d) => bytes.length + bulkD d + 1
  | (_, d) => bulkD d + 1
end
mutual
/-- how many elements and letters there are in it -/
def wtD : Ds → Value → Nat
  | .str, v => (match asS v with | some l => l.length | none => 0)
  | .sl ss, v => (match asDat v with | some rows => (rows.map fun r => match asA r with | some c => 1 + wtL ss c | none => 1).sum | none => 0)
  | .int _, _ => 0
  | .bool, _ => 0
def wtL : List Ds → List Value → Nat
  | s :: ss, v :: vs => wtD s v + wtL ss vs
  | [], _ => 0
  | _ :: _, [] => 0
end
theorem wtL_append : ∀ {a b : List Ds} {c d : List Value}, a.length = c.length → wtL (a ++ b) (c ++ d) = wtL a c + wtL b d
  | [], _, [], _, _ => by simp only [List.nil_append, wtL, Nat.zero_add]
  | _ :: _, _, _ :: _, _, h => by
    simp only [List.cons_append, wtL]
    rw [wtL_append (by simpa using h), Nat.add_assoc]
  | [], _, _ :: _, _, h => by simp at h
  | _ :: _, _, [], _, h => by simp at h
theorem wtD_sl {ss : List Ds} {rows : List (List Value)} : wtD (.sl ss) (dat (aggs rows)) = (rows.map fun c => 1 + wtL ss c).sum := by
  simp only [wtD]
  show ((aggs rows).map fun r => match asA r with | some c => 1 + wtL ss c | none => 1).sum = _
  unfold aggs
  rw [List.map_map]
  rfl
theorem bulkAll_sum {H : Type} : ∀ l : List (DataW H), bulkAll l = (l.map bulkD).sum
  | [] => by simp [bulkAll]
  | d :: l => by simp only [bulkAll, List.map_cons, List.sum_cons, bulkAll_sum l]
theorem bulkD_slice {H : Type} (a b : List (DataW H)) : bulkD (.slice a b) = bulkAll a + bulkAll b + 1 := by simp only [bulkD]
theorem bulkD_agg {H : Type} (a : List (DataW H)) : bulkD (.agg a) = bulkAll a + 1 := by simp only [bulkD]

/-! ### what came in has such a form -/
section
variable {P : Program} {T : Tab} {H : Type} {enc : TypeId × Value → H} {w : World} {base : Nat} {held : Bool} {D : Nat → Prop}

/-- cells that are such data, and are read so wherever all that lies there is data; b: what they hold at most -/
def DatOk (w : World) (ss : List Ds) (cs : List Value) (b : Nat) : Prop := ∃ acs, AreD ss acs ∧ acs.length = cs.length ∧ Rds (frAll w) acs cs ∧ wtL ss acs ≤ b

theorem DatOk.nil : DatOk w [] [] 0 := ⟨[], by simp only [AreD], rfl, .nil, by simp only [wtL]; exact Nat.le_refl 0⟩
theorem DatOk.append {a b : List Ds} {c d : List Value} {m n : Nat} (h : DatOk w a c m) (h' : DatOk w b d n) : DatOk w (a ++ b) (c ++ d) (m + n) := by
  obtain ⟨x, h1, h2, h3, h7⟩ := h
  obtain ⟨y, h4, h5, h6, h8⟩ := h'
  refine ⟨x ++ y, h1.append h4, by simp [h2, h5], h3.append h6, ?_⟩
  rw [wtL_append h1.length.symm]
  omega
theorem DatOk.one {s : Ds} {v v' : Value} {b : Nat} (h : IsD s v) (hv : Rd (frAll w) v v') (hb : wtD s v ≤ b) : DatOk w [s] [v'] b := ⟨[v], .one h, rfl, .cons hv .nil, by simp only [wtL, Nat.add_zero]; exact hb⟩
theorem DatOk.mono {s : List Ds} {c : List Value} {m n : Nat} (h : DatOk w s c m) (hm : m ≤ n) : DatOk w s c n := by
  obtain ⟨x, h1, h2, h3, h4⟩ := h
  exact ⟨x, h1, h2, h3, by omega⟩

theorem shapesDL_ok {sh : TypeId → Option (List Ds)} : ∀ (ts : List TypeId) (ss : List Ds) (css : List (List Value)) (bs : List Nat), shapesDL sh ts = some ss → css.length = ts.length → bs.length = ts.length →
    (∀ (i : Nat) t c s b, ts[i]? = some t → css[i]? = some c → bs[i]? = some b → sh t = some s → DatOk w s c b) → DatOk w ss css.flatten bs.sum
  | [], ss, css, bs, h, hl, hb, _ => by
    cases (show some [] = some ss from h)
    have : css = [] := List.eq_nil_of_length_eq_zero hl
    subst this
    have : bs = [] := List.eq_nil_of_length_eq_zero hb
    subst this
    exact .nil
  | t :: ts, ss, css, bs, h, hl, hb, hp => by
    obtain ⟨a, h1, h2⟩ := andThen_eq (show andThen (sh t) (fun a => andThen (shapesDL sh ts) fun b => some (a ++ b)) = some ss from h)
    obtain ⟨b, h3, h4⟩ := andThen_eq h2
    cases h4
    cases css with
    | nil => simp at hl
    | cons c css =>
      cases bs with
      | nil => simp at hb
      | cons n bs =>
        rw [List.flatten_cons, List.sum_cons]
        exact (hp 0 t c a n rfl rfl rfl h1).append (shapesDL_ok ts b css bs h3 (by simpa using hl) (by simpa using hb) fun i u x s m hu hx hm hs => hp (i + 1) u x s m (by simpa using hu) (by simpa using hx) (by simpa using hm) hs)

/-- lists of rows, one by one -/
theorem choose_rows {α : Type} {p : Nat → α → Prop} : ∀ (n : Nat), (∀ i, i < n → ∃ x, p i x) → ∃ l : List α, l.length = n ∧ ∀ (i : Nat) x, l[i]? = some x → p i x
  | 0, _ => ⟨[], rfl, fun i x h => by simp at h⟩
  | n + 1, h => by
    obtain ⟨l, h1, h2⟩ := choose_rows n fun i hi => h i (by omega)
    obtain ⟨x, hx⟩ := h n (by omega)
    refine ⟨l ++ [x], by simp [h1], fun i y hy => ?_⟩
    by_cases hi : i < l.length
    · rw [List.getElem?_append_left hi] at hy
      exact h2 i y hy
    · rw [List.getElem?_append_right (by omega)] at hy
      have hi2 := (List.getElem?_eq_some_iff.1 hy).1
      have : i = n := by simp at hi2; omega
      subst this
      rw [h1, Nat.sub_self] at hy
      cases hy
      exact hx
theorem Rds.flatten {fr : Nat → Option (List Value)} : ∀ {rows rows' : List (List Value)}, rows.length = rows'.length → (∀ (i : Nat) r r', rows[i]? = some r → rows'[i]? = some r' → Rds fr r r') → Rds fr rows.flatten rows'.flatten
  | [], [], _, _ => .nil
  | r :: rows, r' :: rows', hl, h => by
    rw [List.flatten_cons, List.flatten_cons]
    exact (h 0 r r' rfl rfl).append (Rds.flatten (by simpa using hl) fun i q q' hq hq' => h (i + 1) q q' (by simpa using hq) (by simpa using hq'))
  | [], _ :: _, hl, _ => by simp at hl
  | _ :: _, [], hl, _ => by simp at hl

theorem sum_le : ∀ {a b : List Nat}, a.length = b.length → (∀ (i : Nat) x y, a[i]? = some x → b[i]? = some y → x ≤ y) → a.sum ≤ b.sum
  | [], [], _, _ => Nat.le_refl _
  | x :: a, y :: b, hl, h => by
    rw [List.sum_cons, List.sum_cons]
    exact Nat.add_le_add (h 0 x y rfl rfl) (sum_le (by simpa using hl) fun i x y hx hy => h (i + 1) x y (by simpa using hx) (by simpa using hy))
  | [], _ :: _, hl, _ => by simp at hl
  | _ :: _, [], hl, _ => by simp at hl
theorem dat_ok (hT : TyOk P T) : ∀ (fuel : Nat) (t : TypeId) (ss : List Ds) (d : DataW H) (cs : List Value), shapesD T fuel t = some ss →
    (∃ fuel' ps, DataW.trod enc P w base (fun _ => true) held fuel' t cs = some (d, ps)) → ∃ b, b + 1 ≤ bulkD d ∧ DatOk w ss cs b
  | 0, _, _, _, _, h, _ => by cases (show none = some _ from h)
  | fuel + 1, t, ss, d, cs, h, ⟨fuel', ps, hr⟩ => by
    simp only [shapesD] at h
    obtain ⟨ds, hd, h⟩ := andThen_eq h
    have hu := und_desc hT hd
    split at h
    · cases h
      obtain ⟨b, rfl, hx⟩ := DataW.trod_bool hu hr
      cases hx
      exact ⟨0, by simp only [bulkD]; omega, .one (s := .bool) (by simp only [IsD]; exact ⟨b, rfl⟩) (.bool b) (by simp only [wtD]; omega)⟩
    · rename_i k
      cases h
      obtain ⟨m, rfl, hx, hm⟩ := DataW.trod_int hu hr
      cases hx
      exact ⟨0, by simp only [bulkD]; omega, .one (s := .int k) (by simp only [IsD]; exact ⟨m, rfl, hm⟩) (.int _ m) (by simp only [wtD]; omega)⟩
    · cases h
      obtain ⟨s, rfl, hx, hs⟩ := DataW.trod_string hu hr
      cases hx
      exact ⟨s.data.toList.length, by simp only [bulkD]; omega, .one (s := .str) (by simp only [IsD]; exact ⟨s, rfl, hs⟩) (.string s) (by simp only [wtD, asS]; exact Nat.le_refl _)⟩
    · rename_i e
      obtain ⟨z, hsz, h⟩ := andThen_eq h
      obtain ⟨hzz, h⟩ := iff_else h
      obtain ⟨es, he, h⟩ := andThen_eq h
      obtain ⟨hel0, h⟩ := iff_some h
      cases h
      rw [beq_iff] at hel0
      have hzn : z ≠ 0 := fun h0 => by rw [(Tr.isZ_iff z).2 h0] at hzz; cases hzz
      rcases DataW.trod_slice hu hr with ⟨rfl, hx⟩ | ⟨a, len, cap, els, rest, m, _, rfl, hx, _, hlc, hcm, hlen, hel, hsp, _⟩
      · cases hx
        exact ⟨0, by simp only [bulkD]; omega, .one (s := .sl es) (by simp only [IsD]; exact ⟨[], rfl, Nat.zero_le _, fun r hr => by cases hr⟩) (.data0 0 0 rfl) (by rw [show dat [] = dat (aggs []) from rfl, wtD_sl]; exact Nat.le_refl _)⟩
      · cases hx
        rw [cellsOf_eq hT hsz] at hel
        have hw : ∀ i, i < len → ∃ cs', w.cells? base (a.add (i * z)) z = some cs' ∧ ∃ y, els[i]? = some y ∧ DataW.trod enc P w base (fun _ => true) held m e cs' = some y := fun i hi => by
          have := hel i hi
          rw [List.getElem?_eq_getElem (by omega), Option.bind_eq_some_iff] at this
          obtain ⟨cs', g1, g2⟩ := this
          exact ⟨cs', g1, _, List.getElem?_eq_getElem (by omega), g2⟩
        obtain ⟨css, hcl, hcs⟩ := choose_rows len hw
        obtain ⟨rows, hrl, hrs⟩ := choose_rows (p := fun i (r : List Value) => ∀ c y, css[i]? = some c → els[i]? = some y → AreD es r ∧ r.length = c.length ∧ Rds (frAll w) r c ∧ 1 + wtL es r ≤ bulkD y.1) len fun i hi => by
          have hi2 : i < css.length := by omega
          obtain ⟨_, y, hy0, hy⟩ := hcs i css[i] (List.getElem?_eq_getElem hi2)
          obtain ⟨b, hb, r, h1, h2, h3, h4⟩ := dat_ok hT fuel e es y.1 css[i] he ⟨m, y.2, hy⟩
          exact ⟨r, fun c y' hc hy' => by
            rw [List.getElem?_eq_getElem hi2] at hc
            rw [hy0] at hy'
            cases hc; cases hy'
            exact ⟨h1, h2, h3, by omega⟩⟩
        have hrow : ∀ r ∈ rows, AreD es r := fun r hr => by
          obtain ⟨i, hi, rfl⟩ := List.getElem_of_mem hr
          have hi2 : i < css.length := by omega
          exact (hrs i _ (List.getElem?_eq_getElem hi) css[i] els[i] (List.getElem?_eq_getElem hi2) (List.getElem?_eq_getElem (by omega))).1
        have hz : ∀ r ∈ rows, r.length = z := fun r hr => (hrow r hr).length.trans hel0
        have hD : IsD (.sl es) (dat (aggs rows)) := by
          simp only [IsD]
          exact ⟨rows, rfl, by omega, hrow⟩
        have hwt : wtD (.sl es) (dat (aggs rows)) ≤ bulkAll (els.map (·.1)) := by
          rw [wtD_sl, bulkAll_sum, List.map_map]
          refine sum_le (by simp; omega) fun i x y hx hy => ?_
          rw [List.getElem?_map, Option.map_eq_some_iff] at hx hy
          obtain ⟨r, hr, rfl⟩ := hx
          obtain ⟨q, hq, rfl⟩ := hy
          have hi := (List.getElem?_eq_some_iff.1 hr).1
          exact (hrs i r hr css[i] q (List.getElem?_eq_getElem (by omega)) hq).2.2.2
        refine ⟨bulkAll (els.map (·.1)), by rw [bulkD_slice]; omega, [dat (aggs rows)], .one hD, rfl, .cons ?_ .nil, by simp only [wtL, Nat.add_zero]; exact hwt⟩
        have hv : Rds (frAll w) rows.flatten css.flatten := Rds.flatten (by omega) fun i r c hr hc => by
          have hi := (List.getElem?_eq_some_iff.1 hr).1
          have hi2 : i < els.length := by omega
          exact (hrs i r hr c els[i] hc (List.getElem?_eq_getElem hi2)).2.2.1
        have hlen2 : (aggs rows).length = len := by rw [aggs_length]; exact hrl
        rw [← hlen2]
        refine .data (rowsCells_aggs hz) (by omega) ?_ hv.1 hv.2
        · rcases Nat.eq_zero_or_pos len with h0 | h0
          · exact .inl (List.eq_nil_of_length_eq_zero (hlen2.trans h0))
          · right
            obtain ⟨g1, _⟩ := hcs 0 css[0] (List.getElem?_eq_getElem (by omega))
            have ha0 : a.add (0 * z) = a := by rw [Nat.zero_mul]; unfold Addr.add; rw [if_pos rfl]
            rw [ha0] at g1
            obtain ⟨cc, elem, fz, hs, hB, hsz0, hw0⟩ := cells_window (by omega) g1
            have blk : ∀ k, (a.add k).block = a.block := fun k => by unfold Addr.add; split <;> rfl
            have offs : ∀ k, (a.add k).off = a.off + k := fun k => by unfold Addr.add; split <;> simp_all
            have hwin : ∀ (i : Nat) c, css[i]? = some c → a.off + i * z + z ≤ cc.size ∧ (cc.toList.drop (a.off + i * z)).take z = c := fun i c hc => by
              obtain ⟨g2, _⟩ := hcs i c hc
              obtain ⟨cc', elem', fz', _, hB', hsz', hw'⟩ := cells_window (by omega) g2
              rw [blk, hB] at hB'
              cases hB'
              rw [offs] at hsz' hw'
              exact ⟨hsz', hw'⟩
            have hflat := take_flatten (cc := cc.toList) (sz := z) css a.off fun i x hx => (hwin i x hx).2
            have hbound : a.off + len * z ≤ cc.size := by
              have := (hwin (len - 1) css[len - 1] (List.getElem?_eq_getElem (by omega))).1
              have e2 : len * z = (len - 1) * z + z := by rw [← Nat.succ_mul]; congr 1; omega
              omega
            have hfl : css.flatten.length = len * z := by rw [← hflat, hcl]; simp; omega
            refine ⟨hs, cc.toList, ?_, by rw [hfl]; exact hbound, by rw [hfl, ← hcl]; exact hflat⟩
            simp only [frAll, hB]
    · rename_i fs
      obtain ⟨z, hz, h⟩ := andThen_eq h
      obtain ⟨hc, h⟩ := iff_some h
      obtain ⟨ys, m, _, hx, hl, hyl, hy⟩ := DataW.trod_struct hu hr
      cases hx
      rw [cellsOf_eq hT hz] at hl
      obtain ⟨css, g1, g2, g3⟩ := contig_pieces fs.toList 0 cs hc hl (Nat.zero_le _)
      rw [List.drop_zero] at g2
      rw [← g2]
      refine ⟨bulkAll (ys.map (·.1)), by rw [bulkD_agg]; omega, ?_⟩
      rw [bulkAll_sum]
      refine shapesDL_ok _ _ css _ h (by simp [g1]) (by have h0 : fs.toList.length = fs.size := rfl; simp; omega) fun i t c s b ht hcx hb hs => ?_
      rw [List.getElem?_map, Option.map_eq_some_iff] at ht
      obtain ⟨f, h5, rfl⟩ := ht
      obtain ⟨zf, h7, h8⟩ := g3 i f h5
      rw [hcx] at h8
      cases h8
      have h9 := hy i f (by rw [← Array.getElem?_toList]; exact h5)
      rw [cellsOf_eq hT h7] at h9
      have hi : i < ys.length := by
        have := (List.getElem?_eq_some_iff.1 h5).1
        have h0 : fs.toList.length = fs.size := rfl
        omega
      rw [List.getElem?_eq_getElem hi] at h9
      obtain ⟨b', hb', hk⟩ := dat_ok hT fuel f.type s (ys[i]).1 _ hs ⟨m, _, h9⟩
      rw [List.map_map, List.getElem?_map, List.getElem?_eq_getElem hi] at hb
      cases hb
      exact hk.mono (by show b' ≤ bulkD (ys[i]).1; omega)
    · rename_i len e
      obtain ⟨z, hz, h⟩ := andThen_eq h
      obtain ⟨ze, hze, h⟩ := andThen_eq h
      obtain ⟨hc, h⟩ := iff_some h
      rw [beq_iff] at hc
      obtain ⟨ys, m, _, hx, hl, hyl, hy⟩ := DataW.trod_array hu hr
      cases hx
      rw [cellsOf_eq hT hz] at hl
      rw [cellsOf_eq hT hze] at hy
      let css : List (List Value) := (List.range len).map fun i => (cs.drop (i * ze)).take ze
      have hcsl : css.length = len := by simp [css]
      have hcsi : ∀ (i : Nat) x, css[i]? = some x → i < len ∧ (cs.drop (i * ze)).take ze = x := fun i x hx => by
        simp only [css, List.getElem?_map, Option.map_eq_some_iff] at hx
        obtain ⟨j, hj, rfl⟩ := hx
        have := (List.getElem?_eq_some_iff.1 hj).1
        rw [List.getElem?_range (by simpa using this)] at hj
        cases hj
        exact ⟨by simpa using this, rfl⟩
      have hflat := take_flatten (cc := cs) (sz := ze) css 0 fun i x hx => by rw [Nat.zero_add]; exact (hcsi i x hx).2
      rw [List.drop_zero, hcsl, ← hc, ← hl, List.take_length] at hflat
      rw [hflat]
      refine ⟨bulkAll (ys.map (·.1)), by rw [bulkD_agg]; omega, ?_⟩
      rw [bulkAll_sum]
      refine shapesDL_ok _ _ css _ h (by simp [hcsl]) (by simp; omega) fun i t c s b ht hcx hb hs => ?_
      obtain ⟨hi, hx2⟩ := hcsi i c hcx
      rw [List.getElem?_replicate] at ht
      rw [if_pos hi] at ht
      cases ht
      have h9 := hy i hi
      rw [hx2, List.getElem?_eq_getElem (by omega)] at h9
      obtain ⟨b', hb', hk⟩ := dat_ok hT fuel e s (ys[i]).1 _ hs ⟨m, _, h9⟩
      rw [List.map_map, List.getElem?_map, List.getElem?_eq_getElem (by omega)] at hb
      cases hb
      exact hk.mono (by show b' ≤ bulkD (ys[i]).1; omega)
    · cases h

/-- arguments that are data -/
noncomputable def argDs (T : Tab) (fuel : Nat) : List TypeId → Option (List (Bool × List Ds))
  | [] => some []
  | t :: ts => andThen (ty T t) fun i => andThen (shapesD T fuel t) fun s => iff (or i.agg (Nat.beq s.length 1)) (andThen (argDs T fuel ts) fun r => some ((i.agg, s) :: r)) none
def IsArgD (p : Bool × List Ds) (v : Value) : Prop := if p.1 then ∃ cs, v = .agg ⟨cs⟩ ∧ AreD p.2 cs else ∃ s, p.2 = [s] ∧ IsD s v
def AreArgsD : List (Bool × List Ds) → List Value → Prop
  | [], [] => True
  | s :: ss, v :: vs => IsArgD s v ∧ AreArgsD ss vs
  | _, _ => False
/-- how much arguments hold -/
def wtA (p : Bool × List Ds) (v : Value) : Nat := if p.1 then (match asA v with | some cs => wtL p.2 cs | none => 0) else wtL p.2 [v]
def wtAs : List (Bool × List Ds) → List Value → Nat
  | p :: ss, v :: vs => wtA p v + wtAs ss vs
  | _, _ => 0
theorem AreArgsD.cons_inv {s : Bool × List Ds} {ss : List (Bool × List Ds)} {l : List Value} (h : AreArgsD (s :: ss) l) : ∃ v vs, l = v :: vs ∧ IsArgD s v ∧ AreArgsD ss vs := by
  match l, h with
  | _ :: _, h => exact ⟨_, _, rfl, h.1, h.2⟩
theorem AreArgsD.nil_inv {l : List Value} (h : AreArgsD [] l) : l = [] := by
  match l, h with
  | [], _ => rfl
theorem IsArgD.agg {s : List Ds} {v : Value} (h : IsArgD (true, s) v) : ∃ cs, v = .agg ⟨cs⟩ ∧ AreD s cs := h
theorem IsArgD.one {s : Ds} {v : Value} (h : IsArgD (false, [s]) v) : IsD s v := by
  obtain ⟨s', e, h⟩ := (show ∃ s', [s] = [s'] ∧ IsD s' v from h)
  cases e; exact h

theorem dat_args (hT : TyOk P T) {fuel : Nat} : ∀ (ts : List TypeId) (ds : List (DataW H)) (vs' : List Value) (ss : List (Bool × List Ds)) (ps : List MemPlace), argDs T fuel ts = some ss →
    DataW.TrodAll enc P w base (fun _ => true) held ts vs' ds ps → (∀ (j : Nat) t v, ts[j]? = some t → vs'[j]? = some v → Value.okWide P w .any base t v) →
    ∃ vs, AreArgsD ss vs ∧ wtAs ss vs ≤ bulkAll ds ∧ ∀ π : PMap, π.fr = frAll w → VRs π D vs vs'
  | [], [], [], ss, ps, h, _, _ => by cases (show some [] = some ss from h); exact ⟨[], trivial, Nat.zero_le _, fun _ _ => .nil⟩
  | t :: ts, d :: ds, v' :: vs', ss, ps, h, ht, hok => by
    obtain ⟨i, h1, h2⟩ := andThen_eq (show andThen (ty T t) (fun i => andThen (shapesD T fuel t) fun s => iff (or i.agg (Nat.beq s.length 1)) (andThen (argDs T fuel ts) fun r => some ((i.agg, s) :: r)) none) = some ss from h)
    obtain ⟨s, h3, h4⟩ := andThen_eq h2
    obtain ⟨h0, h4⟩ := iff_some h4
    obtain ⟨r, h5, h6⟩ := andThen_eq h4
    cases h6
    obtain ⟨p, q, ⟨fl, t1⟩, t2, _⟩ := ht
    obtain ⟨bb, hbb, acs, g1, g2, g3, g7⟩ := dat_ok hT fuel t s d _ h3 ⟨fl, p, t1⟩
    obtain ⟨vs, g4, g8, g5⟩ := dat_args hT ts ds vs' r q h5 t2 fun j t v hj hv => hok (j + 1) t v (by simpa using hj) (by simpa using hv)
    have hone : ∀ u ∈ acs, oneA u = true := g1.oneA
    have hv : ∃ v, valueOf T t acs = some v ∧ IsArgD (i.agg, s) v ∧ wtA (i.agg, s) v = wtL s acs := by
      unfold valueOf
      rw [h1, andThen_some]
      cases ha : i.agg with
      | true => exact ⟨_, rfl, ⟨acs, rfl, g1⟩, rfl⟩
      | false =>
        rw [ha, Bool.false_or, beq_iff] at h0
        match s, h0 with
        | [s0], _ =>
          obtain ⟨v, rest, rfl, k1, k2⟩ := g1.cons_inv
          obtain rfl := k2.nil_inv
          exact ⟨v, rfl, ⟨s0, rfl, k1⟩, rfl⟩
    obtain ⟨v, k1, k2, k3⟩ := hv
    exact ⟨v :: vs, ⟨k2, g4⟩, by show wtA (i.agg, s) v + wtAs r vs ≤ bulkAll (d :: ds); rw [k3]; simp only [bulkAll]; omega, fun π hπ => .cons (valueOf_ok hT k1 (hok 0 t v' rfl rfl) (Rds.vrs (by rw [hπ]; exact g3)) hone hone) (g5 π hπ)⟩
  | [], [], _ :: _, _, _, _, ht, _ => ht.elim
  | [], _ :: _, [], _, _, _, ht, _ => ht.elim
  | [], _ :: _, _ :: _, _, _, _, ht, _ => ht.elim
  | _ :: _, [], [], _, _, _, ht, _ => ht.elim
  | _ :: _, [], _ :: _, _, _, _, ht, _ => ht.elim
  | _ :: _, _ :: _, [], _, _, _, ht, _ => ht.elim

/-- a law that answers true, by its specification on data -/
theorem spec_trueD (hT : TyOk P T) {G : Globs} {f : FuncId} {s : Nat → SpecF} (hs : ∀ n, SpecSim P G f (s n)) {args' : List Value} {base : Nat} {fuel : Nat} {held : Bool} {ts : List TypeId} {ds : List (DataW H)} {ps qs : List MemPlace}
    {xs : List (Nat × TypeId × DataW Unit)} {laid : List (String × DataW Unit)} {gs : List (Nat × List Value)} {n : Nat} {bs : List (List Value)} {ss : List (Bool × List Ds)}
    (hargs : DataW.TrodAll enc P w base (fun _ => true) held ts args' ds ps) (hok : ∀ (j : Nat) t v, ts[j]? = some t → args'[j]? = some v → Value.okWide P w .any base t v)
    (hxs : VarsAre P xs laid) (hlaid : DataW.LaidVars P w laid qs)
    (h1 : layVars T fuel xs n = some (gs, bs)) (hn : ∀ g c, lookG gs g = some c → g < n) (h2 : argDs T fuel ts = some ss) (hG : ∀ g, G g = true → (lookG gs g).isSome = true)
    (h : ∀ vs, AreArgsD ss vs → wtAs ss vs ≤ bulkAll ds → ∃ m σ', s m vs (start gs n bs) = some (.bool true, σ')) :
    Calls P f ⟨args'⟩ w fun e w' => e = .returned (.bool true) ∧ Go.RowKit.Below w.heap.size w w' := by
  obtain ⟨f1, g1⟩ := vars_ok (w := w) (D := No) hT xs laid n gs bs qs hxs hlaid h1
  obtain ⟨vs, g2, g6, g3⟩ := dat_args (D := No) hT ts ds args' ss ps h2 hargs hok
  obtain ⟨m, σ', h⟩ := h vs g2 g6
  obtain ⟨π, hag, hpre, hro, hgl, hfr⟩ := start_ok (w := w) (gs := gs) (n := n) (bs := bs) hn g1
  have hmono := (hs m).1 vs _ _ _ h
  obtain ⟨_, hsim⟩ := (hs m).2 vs _ _ _ h
  have := hsim (Nat.le_refl _) π No No (fun _ => none) w args' (fun g hg => by
    have := hG g hg
    cases hl : lookG gs g with
    | none => rw [hl] at this; cases this
    | some c => exact hgl g c hl) (g3 π hfr) (hpre σ' hmono.next)
  refine this.mono fun e w' ⟨v', π', D', he, hv, hpo⟩ => ?_
  rw [hv.bool_inv] at he
  exact ⟨he, hpo.fr.os, hpo.fr.tape, hpo.fr.output, hpo.fr.size, fun B hB => hpo.fr.keep B hB fun k i hk hro2 => by rw [hro k i hk] at hro2; cases hro2⟩
end

/-! ### rows as lists of what they hold -/
theorem rows_are {α : Type} {enc : α → List Value} {ok : α → Prop} : ∀ {rows : List (List Value)}, (∀ r ∈ rows, ∃ x, r = enc x ∧ ok x) → ∃ l : List α, rows = l.map enc ∧ ∀ x ∈ l, ok x
  | [], _ => ⟨[], rfl, fun x hx => by cases hx⟩
  | r :: rows, h => by
    obtain ⟨x, rfl, hx⟩ := h r (by simp)
    obtain ⟨l, rfl, hl⟩ := rows_are (rows := rows) fun q hq => h q (List.mem_cons_of_mem _ hq)
    exact ⟨x :: l, rfl, fun y hy => by rcases List.mem_cons.1 hy with rfl | hy; exact hx; exact hl y hy⟩
end Go.Abs

/- CONTRACTS OF FUNCTIONS OF DATA: how things are told as cells, and a function that is known by what it answers to each of them. -/
namespace Go.Abs

theorem VA.dat_inv {ι : Ren} {rows : List Value} {v : Value} (h : VA ι (dat rows) v) :
    (v = dat rows ∧ ι.dt = true) ∨ (rows = [] ∧ ∃ c, v = .slice none 0 c) ∨
    (∃ cs cs' cells z b off n c s, v = .slice (some ⟨b, off, s⟩) n c ∧ ι.fz b = some cells ∧ RowsAre z rows cs ∧ rows.length = n ∧ Win cells off cs' ∧ VAs ι cs cs') := by
  generalize hd : dat rows = d at h
  cases h with
  | tuple h1 _ _ _ => unfold dat at hd; cases hd; cases h1
  | data rows2 h1 => unfold dat at hd; cases hd; exact .inl ⟨rfl, h1⟩
  | dataP _ _ => unfold dat datP at hd; cases hd
  | nil0 c _ => unfold dat at hd; cases hd; exact .inr (.inl ⟨rfl, c, rfl⟩)
  | @fz rows2 cs cs' cells z b off n c s _ hF hr hn hw _ hl hcs =>
    unfold dat at hd; cases hd
    exact .inr (.inr ⟨cs, cs', cells, z, b, off, n, c, s, rfl, hF, hr, hn, hw, hl, hcs⟩)
  | fzP _ _ _ _ _ _ => unfold dat datP at hd; cases hd
  | _ => unfold dat at hd; cases hd

/-! ### tellings -/

/-- a thing as a value -/
structure EncV (α : Type) where
  val : α → Value
  closed : ∀ (ι : Ren) a, ι.dt = true → VA ι (val a) (val a)
  uniq : ∀ (ι : Ren) a b v, VA ι (val a) v → VA ι (val b) v → a = b
/-- a thing as cells -/
structure EncT (α : Type) where
  n : Nat
  cells : α → List Value
  len : ∀ a, (cells a).length = n
  closed : ∀ a, ∀ v ∈ cells a, closed1 v = true
  uniq : ∀ (ι : Ren) a b l, VAs ι (cells a) l → VAs ι (cells b) l → a = b
/-- things as arguments -/
structure EncL (α : Type) where
  vals : α → List Value
  closed : ∀ (ι : Ren) a, ι.dt = true → VAs ι (vals a) (vals a)
  uniq : ∀ (ι : Ren) a b l, VAs ι (vals a) l → VAs ι (vals b) l → a = b

def EncV.int (k : IntKind) : EncV Int := ⟨.int k, fun _ n _ => .int k n, fun ι a b v h1 h2 => by cases h1; cases h2; rfl⟩
def EncV.bool : EncV Bool := ⟨.bool, fun _ b _ => .bool b, fun ι a b v h1 h2 => by cases h1; cases h2; rfl⟩
def EncV.str : EncV ByteArray := ⟨.string, fun _ s _ => .string s, fun ι a b v h1 h2 => by cases h1; cases h2; rfl⟩
/-- a string, by its bytes -/
def EncV.text : EncV (List UInt8) := ⟨fun l => .string ⟨⟨l⟩⟩, fun _ s _ => .string _, fun ι a b v h1 h2 => by cases h1; cases h2; rfl⟩

theorem VAs.split_at {ι : Ren} {a b l : List Value} (h : VAs ι (a ++ b) l) : VAs ι a (l.take a.length) ∧ VAs ι b (l.drop a.length) := by
  have hl := h.1
  rw [List.length_append] at hl
  refine ⟨⟨by simp; omega, fun i v v' h1 h2 => ?_⟩, ⟨by simp; omega, fun i v v' h1 h2 => ?_⟩⟩
  · have hi := (List.getElem?_eq_some_iff.1 h1).1
    rw [List.getElem?_take, if_pos hi] at h2
    exact h.2 i v v' (by rw [List.getElem?_append_left hi]; exact h1) h2
  · rw [List.getElem?_drop] at h2
    exact h.2 (a.length + i) v v' (by rw [List.getElem?_append_right (by omega), Nat.add_sub_cancel_left]; exact h1) h2

namespace EncT
variable {α β : Type}
theorem rows_uniq (E : EncT α) {ι : Ren} : ∀ {l m : List α} {cs : List Value}, l.length = m.length → VAs ι (l.map E.cells).flatten cs → VAs ι (m.map E.cells).flatten cs → l = m
  | [], [], _, _, _, _ => rfl
  | a :: l, b :: m, cs, hl, h1, h2 => by
    rw [List.map_cons, List.flatten_cons] at h1 h2
    obtain ⟨g1, g2⟩ := h1.split_at
    obtain ⟨g3, g4⟩ := h2.split_at
    rw [E.len] at g1 g2 g3 g4
    rw [E.uniq ι a b _ g1 g3, rows_uniq E (by simpa using hl) g2 g4]
  | [], _ :: _, _, hl, _, _ => by simp at hl
  | _ :: _, [], _, hl, _, _ => by simp at hl
theorem rows_of (E : EncT α) {l : List α} : ∀ r ∈ l.map E.cells, r.length = E.n := fun r hr => by
  obtain ⟨a, _, rfl⟩ := List.mem_map.1 hr
  exact E.len a
theorem rows_flat (E : EncT α) {l : List α} {z : Nat} {cs : List Value} (h : RowsAre z (aggs (l.map E.cells)) cs) : cs = (l.map E.cells).flatten :=
  rowsCells_same h (rowsCells_aggs E.rows_of)
theorem flat_len (E : EncT α) (l : List α) : (l.map E.cells).flatten.length = l.length * E.n := by
  have := rowsCells_len (rowsCells_aggs (E.rows_of (l := l)))
  rw [aggs_length, List.length_map] at this
  exact this
/-- one value as the only cell -/
def ofV (V : EncV α) (h : ∀ a, closed1 (V.val a) = true) : EncT α :=
  ⟨1, fun a => [V.val a], fun _ => rfl, fun a v hv => by simp at hv; rw [hv]; exact h a, fun ι a b l h1 h2 => by
    obtain ⟨v, hv, g1⟩ := h1.get (i := 0) rfl
    obtain ⟨v', hv', g2⟩ := h2.get (i := 0) rfl
    rw [hv] at hv'; cases hv'
    exact V.uniq ι a b v g1 g2⟩
def int (k : IntKind) : EncT Int := ofV (.int k) fun _ => rfl
def bool : EncT Bool := ofV .bool fun _ => rfl
def text : EncT (List UInt8) := ofV .text fun _ => rfl
/-- two, one after the other -/
def pair (E : EncT α) (F : EncT β) : EncT (α × β) :=
  ⟨E.n + F.n, fun p => E.cells p.1 ++ F.cells p.2, fun p => by rw [List.length_append, E.len, F.len], fun p v hv => by
    rcases List.mem_append.1 hv with h | h
    · exact E.closed _ v h
    · exact F.closed _ v h, fun ι p q l h1 h2 => by
    obtain ⟨g1, g2⟩ := h1.split_at
    obtain ⟨g3, g4⟩ := h2.split_at
    rw [E.len] at g1 g2 g3 g4
    exact Prod.ext (E.uniq ι _ _ _ g1 g3) (F.uniq ι _ _ _ g2 g4)⟩
/-- under other words -/
def iso (E : EncT α) (f : β → α) (hf : ∀ a b, f a = f b → a = b) (c : β → List Value) (hc : ∀ b, c b = E.cells (f b)) : EncT β :=
  ⟨E.n, c, fun b => by rw [hc]; exact E.len _, fun b => by rw [hc]; exact E.closed _, fun ι a b l h1 h2 => by
    rw [hc] at h1 h2
    exact hf _ _ (E.uniq ι _ _ l h1 h2)⟩
/-- as many as they are -/
def vec (E : EncT α) (k : Nat) : EncT { l : List α // l.length = k } :=
  ⟨k * E.n, fun l => (l.1.map E.cells).flatten, fun l => by rw [E.flat_len, l.2], fun l v hv => by
    obtain ⟨r, hr, hv⟩ := List.mem_flatten.1 hv
    obtain ⟨a, _, rfl⟩ := List.mem_map.1 hr
    exact E.closed a v hv, fun ι a b l h1 h2 => Subtype.ext (E.rows_uniq (a.2.trans b.2.symm) h1 h2)⟩
end EncT

namespace EncV
variable {α β : Type}
/-- a slice -/
def list (E : EncT α) : EncV (List α) :=
  ⟨fun l => dat (aggs (l.map E.cells)), fun ι l hd => .data _ hd, fun ι l m v h1 h2 => by
    have hlen : ∀ {k : List α}, (aggs (k.map E.cells)).length = k.length := fun {k} => by rw [aggs_length, List.length_map]
    have hself : ∀ (k : List α), ι.dt = true → VAs ι (k.map E.cells).flatten (k.map E.cells).flatten := fun k hd => VAs.closed hd fun v hv => by
      obtain ⟨r, hr, hv⟩ := List.mem_flatten.1 hv
      obtain ⟨a, _, rfl⟩ := List.mem_map.1 hr
      exact E.closed a v hv
    rcases h1.dat_inv with ⟨rfl, hd⟩ | ⟨a1, c, rfl⟩ | ⟨cs, cs', cells, z, b, off, n, c, s, rfl, a1, a2, a3, a4, a5⟩
    · rcases h2.dat_inv with ⟨he, _⟩ | ⟨_, c, he⟩ | ⟨_, _, _, _, _, _, _, _, _, he, _⟩
      · unfold dat at he
        have he : aggs (l.map E.cells) = aggs (m.map E.cells) := by injection he with he; injection he with he; injection he with he _; injection he with he; injection he
        have h3 : l.length = m.length := by rw [← hlen (k := l), he, hlen]
        have h4 : (l.map E.cells).flatten = (m.map E.cells).flatten := by
          have g1 := rowsCells_aggs (E.rows_of (l := l))
          have g2 := rowsCells_aggs (E.rows_of (l := m))
          rw [he] at g1
          exact Option.some.inj (g1.symm.trans g2)
        exact E.rows_uniq h3 (hself l hd) (by rw [h4]; exact hself m hd)
      · unfold dat at he; cases he
      · unfold dat at he; cases he
    · have hl0 : l = [] := List.eq_nil_of_length_eq_zero (by rw [← hlen (k := l), a1]; rfl)
      rcases h2.dat_inv with ⟨he, _⟩ | ⟨b1, _⟩ | ⟨_, _, _, _, _, _, _, _, _, he, _⟩
      · unfold dat at he; cases he
      · rw [hl0, List.eq_nil_of_length_eq_zero (l := m) (by rw [← hlen (k := m), b1]; rfl)]
      · cases he
    · rcases h2.dat_inv with ⟨he, _⟩ | ⟨_, _, he⟩ | ⟨ds, ds', cells2, z2, b2, off2, n2, c2, s2, he, b1, b2', b3, b4, b5⟩
      · unfold dat at he; cases he
      · cases he
      · cases he
        rw [a1] at b1
        cases b1
        rw [E.rows_flat a2] at a5
        rw [E.rows_flat b2'] at b5
        rw [hlen] at a3 b3
        have e1 : cs'.length = ds'.length := by rw [← a5.1, ← b5.1, E.flat_len, E.flat_len, a3, b3]
        have e2 : cs' = ds' := by rw [← a4.2, ← b4.2, e1]
        subst e2
        exact E.rows_uniq (by omega) a5 b5⟩
/-- a struct, an array -/
def agg (E : EncT α) : EncV α := ⟨fun a => .agg ⟨E.cells a⟩, fun ι a hd => (VAs.closed hd (E.closed a)).agg, fun ι a b v h1 h2 => by
  cases h1 with
  | agg hc1 hcs1 =>
    cases h2 with
    | agg hc2 hcs2 => exact E.uniq ι a b _ ⟨hc1, hcs1⟩ ⟨hc2, hcs2⟩⟩
end EncV
/-- a slice as the only cell -/
def EncT.list {α : Type} (E : EncT α) : EncT (List α) := EncT.ofV (EncV.list E) fun _ => rfl

namespace EncL
variable {α β : Type}
def nil : EncL Unit := ⟨fun _ => [], fun _ _ _ => .nil, fun _ _ _ _ _ _ => rfl⟩
def cons (V : EncV α) (F : EncL β) : EncL (α × β) :=
  ⟨fun p => V.val p.1 :: F.vals p.2, fun ι p hd => .cons (V.closed ι p.1 hd) (F.closed ι p.2 hd), fun ι p q l h1 h2 => by
    match l, h1, h2 with
    | v :: l, h1, h2 =>
      have t : ∀ {x : Value} {xs : List Value}, VAs ι (x :: xs) (v :: l) → VA ι x v ∧ VAs ι xs l := fun h => ⟨h.2 0 _ _ rfl rfl, ⟨by have := h.1; simpa using this, fun i u u' g1 g2 => h.2 (i + 1) u u' (by simpa using g1) (by simpa using g2)⟩⟩
      exact Prod.ext (V.uniq ι _ _ v (t h1).1 (t h2).1) (F.uniq ι _ _ l (t h1).2 (t h2).2)
    | [], h1, _ => exact absurd h1.1 (by simp)⟩
/-- the last one -/
def one (V : EncV α) : EncL α := ⟨fun a => [V.val a], fun ι a hd => .cons (V.closed ι a hd) .nil, fun ι a b l h1 h2 => by
  obtain ⟨v, hv, g1⟩ := h1.get (i := 0) rfl
  obtain ⟨v', hv', g2⟩ := h2.get (i := 0) rfl
  rw [hv] at hv'; cases hv'
  exact V.uniq ι a b v g1 g2⟩
end EncL

/-! ### contracts -/

/-- all that is alive, lent as data -/
noncomputable def lend (tabs : List (Nat × List Value)) (σ : ASt) : Ren := renF (fun b => σ.row b) (tabs.map (·.1)) (tabs.map (·.1))
/-- nothing is named, no data is told of -/
def noDat : Ren := ⟨fun _ => none, fun _ => none, false, false⟩

/-- it answers 'res a' to the arguments that tell a, wherever 'ok a' -/
noncomputable def specE {α : Type} (E : EncL α) (tabs : List (Nat × List Value)) (ok : α → Prop) (res : α → Value) : SpecF := fun args σ =>
  @dite _ (hasTabs tabs σ = true ∧ ∃ a, ok a ∧ VAs (lend tabs σ) (E.vals a) args) (Classical.propDecidable _) (fun h => some (res (Classical.choose h.2), σ)) (fun _ => none)
theorem specE_eq {α : Type} {E : EncL α} {tabs : List (Nat × List Value)} {ok : α → Prop} {res : α → Value} {args : List Value} {σ : ASt} {a : α} (ht : hasTabs tabs σ = true) (ha : ok a) (hv : VAs (lend tabs σ) (E.vals a) args) : specE E tabs ok res args σ = some (res a, σ) := by
  have h : hasTabs tabs σ = true ∧ ∃ a, ok a ∧ VAs (lend tabs σ) (E.vals a) args := ⟨ht, a, ha, hv⟩
  unfold specE
  rw [dif_pos h]
  have := Classical.choose_spec h.2
  rw [E.uniq _ _ _ _ this.2 hv]
theorem specE_inv {α : Type} {E : EncL α} {tabs : List (Nat × List Value)} {ok : α → Prop} {res : α → Value} {args : List Value} {σ σ' : ASt} {v : Value} (h : specE E tabs ok res args σ = some (v, σ')) :
    σ' = σ ∧ hasTabs tabs σ = true ∧ ∃ a, ok a ∧ VAs (lend tabs σ) (E.vals a) args ∧ v = res a := by
  unfold specE at h
  split at h
  · rename_i hh
    cases h
    have := Classical.choose_spec hh.2
    exact ⟨rfl, hh.1, _, this.1, this.2, rfl⟩
  · cases h

/-- **a function of data that answers without data** -/
theorem plain_lent {P : Program} {T : Tab} {call : CallF} {f : FuncId} {fn : Func} {α : Type} (E : EncL α) (ok : α → Prop) (res : α → Value) (G : Globs) (tabs : List (Nat × List Value)) (n : Nat) (h : Hint) (hx : P.follows .mixedOrders = true) (hT : TyOk P T) (hc : CallSim P G call ∧ MonoF call)
    (hfn : P.funcs[f]? = some fn) (hb : fn.body.isSome = true) (hok : fnB G fn = true) (hcb : cutB [] (tabs.map (·.1)) (tabs.map (·.1)) n = true) (hi : (tabs.all fun p => intsB p.2) = true) (hG : ∀ g, G g = true → memN g (tabs.map (·.1)) = true)
    (hs : ∀ a, ok a → VA noDat (res a) (res a) ∧ ∀ N, fn.ntmps ≤ N → ∃ t, vcC (loopT P G (fun k => memN k (tabs.map (·.1))) N) T call h (codeOf fn) t (initEnv (E.vals a) 0 .leaf) (tabS tabs n) (vcEnd T fn fun v1 _ => v1 = res a)) (hg : Guarded h call := by exact guarded_none) :
    SpecSim P G f (specE E tabs ok res) := by
  have h1 : FnOk1 P G f fn := .of hfn hok
  refine ⟨fun args σ v σ' he => by rw [(specE_inv he).1]; exact .refl σ, fun args σ v σ' he => ?_⟩
  obtain ⟨rfl, ht, a, ha, hva, rfl⟩ := specE_inv he
  obtain ⟨hv, hd⟩ := hs a ha
  have hF : ∀ b cells, σ'.row b = some cells → ∃ e org ro, σ'.obj b = some (.cells cells e org ro false) := fun b cells hb => by
    obtain ⟨e, org, ro, ho⟩ := row_eq hb
    exact ⟨e, org, ro, ho⟩
  refine call_spec h1 (codeOf_ok hb) hT (tab_entryF hcb (fun p hp => List.all_eq_true.1 hi p hp) hG ht hva hF) fun N hN => ?_
  obtain ⟨t, d⟩ := hd N hN
  refine (vcC_ok hx hT hc.1 hc.2 hg (codeOf fn) (codeOk_mono hN _ (h1.2.2 _ (codeOf_ok hb))) t _ _ _ d).mono fun x e σ1 hq => ?_
  have := vcEnd_ok hq
  have key : ∀ {S : Nat → Bool} {ι : Ren} {σ1 : ASt}, Leave S ι noDat id σ' σ' σ1 (res a) (res a) := fun {S ι σ1} =>
    ⟨Nat.le_refl _, rfl, rfl, fun _ _ => rfl, fun j h1 h2 => (by omega), fun k k' sh h => (by cases h), hv, rfl, fun h => (by cases h)⟩
  cases x with
  | normal => obtain ⟨vs, g1, g2⟩ := this; exact ⟨vs, g1, _, id, by rw [g2]; exact key⟩
  | exit id => exact this.elim
  | ret => obtain ⟨vs, g1, g2⟩ := this; exact ⟨vs, g1, _, id, by rw [g2]; exact key⟩

/-! ### functions that answer with data -/

/-- it answers the data 'res a' to the arguments that tell a as data, wherever 'ok a' -/
noncomputable def specA {α : Type} (E : EncL α) (tabs : List (Nat × List Value)) (ok : α → Prop) (res : α → Value) : SpecF := fun args σ =>
  @dite _ (hasTabs tabs σ = true ∧ ∃ a, ok a ∧ VAs (renL (tabs.map (·.1)) (tabs.map (·.1))) (E.vals a) args) (Classical.propDecidable _) (fun h => some (res (Classical.choose h.2), σ)) (fun _ => none)
theorem specA_eq {α : Type} {E : EncL α} {tabs : List (Nat × List Value)} {ok : α → Prop} {res : α → Value} {args : List Value} {σ : ASt} {a : α} (ht : hasTabs tabs σ = true) (ha : ok a) (hv : VAs (renL (tabs.map (·.1)) (tabs.map (·.1))) (E.vals a) args) : specA E tabs ok res args σ = some (res a, σ) := by
  have h : hasTabs tabs σ = true ∧ ∃ a, ok a ∧ VAs (renL (tabs.map (·.1)) (tabs.map (·.1))) (E.vals a) args := ⟨ht, a, ha, hv⟩
  unfold specA
  rw [dif_pos h]
  have := Classical.choose_spec h.2
  rw [E.uniq _ _ _ _ this.2 hv]
theorem specA_inv {α : Type} {E : EncL α} {tabs : List (Nat × List Value)} {ok : α → Prop} {res : α → Value} {args : List Value} {σ σ' : ASt} {v : Value} (h : specA E tabs ok res args σ = some (v, σ')) :
    σ' = σ ∧ hasTabs tabs σ = true ∧ ∃ a, ok a ∧ VAs (renL (tabs.map (·.1)) (tabs.map (·.1))) (E.vals a) args ∧ v = res a := by
  unfold specA at h
  split at h
  · rename_i hh
    cases h
    have := Classical.choose_spec hh.2
    exact ⟨rfl, hh.1, _, this.1, this.2, rfl⟩
  · cases h

/-- what is left is seen as data -/
noncomputable def seen (σ : ASt) : Ren := ⟨fun _ => none, fun b => ownRow σ b, true, true⟩
theorem seen_match (σ : ASt) : Match (fun _ => false) noG (seen σ) .leaf σ .leaf ⟨.leaf, 0, 0, 0⟩ :=
  ⟨Nat.le_refl _, fun _ _ => rfl, fun _ _ _ _ _ h => (by cases h), fun _ _ h => (by cases h), fun _ _ h => (by cases h), fun _ _ h => (by cases h), fun _ h => (by cases h), fun _ h => (by cases h), fun b cells hF => by
    obtain ⟨o, h1, h2⟩ := andThen_eq (show andThen (σ.obj b) (fun o => andThen3 (rowsOf o) fun c _ _ => some c) = some cells from hF)
    obtain ⟨c, e, org, h3, h4⟩ := andThen3_eq h2
    cases h4
    rw [rowsOf_eq h3] at h1
    exact ⟨⟨e, org, h1⟩, fun k sh h => by cases h⟩⟩

/-- **a call whose answer is seen as data** -/
theorem call_spec_fz {P : Program} {T : Tab} {G : Globs} {S : Nat → Bool} {ι : Ren} {args argsc : List Value} {σ σc : ASt} {f : FuncId} {fn : Func} {c : Code} (hfn : FnOk1 P G f fn) (hb : fn.body = some c) (hT : TyOk P T) {v : Value} (hent : Entry G S ι args argsc σ σc)
    (hfz : ∀ b, ι.fz b = none) (hv : VA noRen v v) (hrun : ∀ N, fn.ntmps ≤ N → TriC P G S N c (initEnv argsc 0 .leaf) σc (EndsIn T fn fun v1 σ1 => VA (seen σ1) v v1)) :
    Enters P f ∧ (σ.low ≤ σ.next → ∀ π δ D H w args', GlobR G π D → VRs π D args args' → Pre σ σ π δ D H w → Calls P f ⟨args'⟩ w (Back σ σ π δ D H w v)) := by
  obtain ⟨g1, g2, g3⟩ := hfn
  refine ⟨⟨fn, g1, g2, by rw [hb]; rfl⟩, fun _ π δ D H w args' hg ha hp => ?_⟩
  obtain ⟨hP, hrep⟩ := hent.rep hp
  have hac : VRs (partOf ι π σc w) No argsc args' := hent.args.comp hP ha
  refine calls_of_wp g1 hb ?_
  have hsz : (⟨args'⟩ : Array Value).size = args'.length := rfl
  rw [hsz]
  have hgl : GlobR G (partOf ι π σc w) No := fun g hgg => by
    obtain ⟨h1, h2⟩ := hP.loc g g 0 (hent.glob g hgg)
    rcases (hg g hgg).2 with ⟨i, h3, h4, h5⟩ | ⟨_, h3⟩
    · obtain ⟨ic, a1, a2, a3, _⟩ := h2 i h3
      exact ⟨rfl, .inl ⟨ic, a1, h4.trans a2.symm, by rw [a3]; exact h5⟩⟩
    · exact absurd h3 h1
  refine hrun (args'.length + (fn.ntmps - args'.length)) (by omega) (partOf ι π σc w) w (partOf ι π σc w) No w _ _ hrep (EnvR.start hac fn.ntmps) hgl fun x e' σ1 π1 D1 w1 a1 hx hr1 he1 hg1 => ?_
  have hend : ∀ vs, resultsV T σ1 e' fn.results.toList = some vs → VA (seen σ1) v (oneOrTuple vs) → bodyPost P fn (Back σ σ π δ D H w v) .ret a1 w1 := fun vs h1 h2 => by
    obtain ⟨v', hv1, hv2⟩ := sim_results hT (hr1.pre (Nat.le_refl _)) he1 h1
    have hr0 : Rep (fun _ => false) (partOf ι π σc w) w σ1 π1 D1 w1 := { hr1 with anc := fun k hk => (by cases hk) }
    obtain ⟨hP2, hr2⟩ := match_rep (seen_match σ1) hr0
    have hl : Leave (fun _ => false) ι noRen id σ σ ⟨.leaf, 0, 0, 0⟩ v v := noAddr_leave hfz hv
    obtain ⟨π', h3, h4⟩ := hl.post hp hr2 (h2.comp hP2 hv2)
    exact ⟨he1.defers, v', hv1, v', π', D, rfl, h3, h4⟩
  cases x with
  | normal => obtain ⟨vs, h1, h2⟩ := hx; exact hend vs h1 h2
  | exit id => exact hx.elim
  | ret => obtain ⟨vs, h1, h2⟩ := hx; exact hend vs h1 h2

/-- **a function of data that answers with data** -/
theorem plain_data {P : Program} {T : Tab} {call : CallF} {f : FuncId} {fn : Func} {α : Type} (E : EncL α) (ok : α → Prop) (res : α → Value) (G : Globs) (tabs : List (Nat × List Value)) (n : Nat) (h : Hint) (hx : P.follows .mixedOrders = true) (hT : TyOk P T) (hc : CallSim P G call ∧ MonoF call)
    (hfn : P.funcs[f]? = some fn) (hb : fn.body.isSome = true) (hok : fnB G fn = true) (hcb : cutB [] (tabs.map (·.1)) (tabs.map (·.1)) n = true) (hi : (tabs.all fun p => intsB p.2) = true) (hG : ∀ g, G g = true → memN g (tabs.map (·.1)) = true)
    (hs : ∀ a, ok a → VA noRen (res a) (res a) ∧ ∀ N, fn.ntmps ≤ N → ∃ t, vcC (loopT P G (fun k => memN k (tabs.map (·.1))) N) T call h (codeOf fn) t (initEnv (E.vals a) 0 .leaf) (tabS tabs n) (vcEnd T fn fun v1 σ1 => VA (seen σ1) (res a) v1)) (hg : Guarded h call := by exact guarded_none) :
    SpecSim P G f (specA E tabs ok res) := by
  have h1 : FnOk1 P G f fn := .of hfn hok
  refine ⟨fun args σ v σ' he => by rw [(specA_inv he).1]; exact .refl σ, fun args σ v σ' he => ?_⟩
  obtain ⟨rfl, ht, a, ha, hva, rfl⟩ := specA_inv he
  obtain ⟨hv, hd⟩ := hs a ha
  refine call_spec_fz h1 (codeOf_ok hb) hT (tab_entryF hcb (fun p hp => List.all_eq_true.1 hi p hp) hG ht hva fun _ cells h => (by cases (show none = some cells from h))) (fun _ => rfl) hv fun N hN => ?_
  obtain ⟨t, d⟩ := hd N hN
  refine (vcC_ok hx hT hc.1 hc.2 hg (codeOf fn) (codeOk_mono hN _ (h1.2.2 _ (codeOf_ok hb))) t _ _ _ d).mono fun x e σ1 hq => ?_
  have := vcEnd_ok hq
  cases x with
  | normal => obtain ⟨vs, g1, g2⟩ := this; exact ⟨vs, g1, g2⟩
  | exit id => exact this.elim
  | ret => obtain ⟨vs, g1, g2⟩ := this; exact ⟨vs, g1, g2⟩
end Go.Abs
