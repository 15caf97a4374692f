/- The abstract machine, one part: see its own sections. Conditions: none. -/
import Derived.Test.YthojindafbcocaaGreatDoorMachC
import Derived.Test.YthojindafbcocaaGreatDoorMachD
import Derived.Lib.Bytealg
import Derived.Laws.Externs
/- RUNS THAT TAKE SOME CALLS BY WHAT THEY ANSWER, wherever they stand: calls whose arguments, told by their content, were run once under their own numbers, and that answer without an address. -/
namespace Go.Abs
open Go.RowKit

/-! ### a call, by a run under its own numbers -/
section
variable {P : Program} {G : Globs} {S : Nat → Bool} {ι : Ren} {args argsc : List Value} {σ σc σr : ASt} {call : CallF} {f : FuncId} {v : Value}
theorem own_call (hc : CallSim P G call) (hm : MonoF call) (hent : Entry G S ι args argsc σ σc) (hr : call f argsc σc = some (v, σr)) (hv : VA noDat v v) :
    Enters P f ∧ (σ.low ≤ σ.next → ∀ π δ D H w args', GlobR G π D → VRs π D args args' → Pre σ σ π δ D H w → Calls P f ⟨args'⟩ w (Back σ σ π δ D H w v)) := by
  obtain ⟨he, hs⟩ := hc f argsc σc v σr hr
  refine ⟨he, fun _ π δ D H w args' hg ha hp => ?_⟩
  obtain ⟨hP, hrep⟩ := hent.rep hp
  have hac : VRs (partOf ι π σc w) No argsc args' := hent.args.comp hP ha
  have hgl : GlobR G (partOf ι π σc w) No := fun g hgg => by
    obtain ⟨h1, h2⟩ := hP.loc g g 0 (hent.glob g hgg)
    rcases (hg g hgg).2 with ⟨i, h3, h4, h5⟩ | ⟨_, h3⟩
    · obtain ⟨ic, a1, a2, a3, _⟩ := h2 i h3
      exact ⟨rfl, .inl ⟨ic, a1, h4.trans a2.symm, by rw [a3]; exact h5⟩⟩
    · exact absurd h3 h1
  refine (hs hent.low (partOf ι π σc w) (deadIn σc) No (fun _ => none) w args' hgl hac (hrep.pre (hm f _ _ _ _ hr).next)).mono fun e w' ⟨v', π1, D1, he', hv', hpo⟩ => ?_
  have hr1 := hrep.post hpo
  have hl : Leave S ι noDat id σ σ σr v v := ⟨Nat.le_refl _, rfl, rfl, fun _ _ => rfl, fun j h1 h2 => (by omega), fun k k' sh h => (by cases h), hv, rfl, fun h => (by cases h)⟩
  obtain ⟨π', h3, h4⟩ := hl.post hp hr1 hv'
  exact ⟨v', π', D, he', h3, h4⟩
end

/-! ### content -/
noncomputable def closedAll (l : List Value) : Bool := @List.rec Value (fun _ => Bool) true (fun v _ ih => iff (closed1 v) ih false) l
theorem closedAll_eq : ∀ {l : List Value}, closedAll l = true → ∀ v ∈ l, closed1 v = true
  | [], _, v, hv => by cases hv
  | a :: l, h, v, hv => by
    have h : iff (closed1 a) (closedAll l) false = true := h
    rw [iff_eq] at h
    split at h
    · rename_i ha
      rcases List.mem_cons.1 hv with rfl | hv
      · exact ha
      · exact closedAll_eq h v hv
    · cases h
theorem sameVs_all {f : Value → Value → Bool} : ∀ {a b : List Value}, sameVs f a b = true → a.length = b.length ∧ ∀ (i : Nat) v v', a[i]? = some v → b[i]? = some v' → f v v' = true
  | [], [], _ => ⟨rfl, fun i v v' h _ => by simp at h⟩
  | [], _ :: _, h => by cases (show false = true from h)
  | _ :: _, [], h => by cases (show false = true from h)
  | x :: a, y :: b, h => by
    have h : (and (f x y) (sameVs f a b)) = true := h
    rw [Bool.and_eq_true] at h
    obtain ⟨h1, h2⟩ := sameVs_all h.2
    refine ⟨by simp [h1], fun i v v' g1 g2 => ?_⟩
    cases i with
    | zero => simp at g1 g2; rw [← g1, ← g2]; exact h.1
    | succ i => simp at g1 g2; exact h2 i v v' g1 g2
noncomputable def rowN (rows : List Value) : Nat := @List.rec Value (fun _ => Nat) (nat_lit 0) (fun r _ _ => @Option.rec (List Value) (fun _ => Nat) (nat_lit 0) (fun c => lenQ c) (asA r)) rows
/-- these cells, told, lie there -/
noncomputable def cellsLie (f : Value → Value → Bool) (cells : Option (List Value)) (off : Nat) (cs : List Value) : Bool :=
  @Option.rec (List Value) (fun _ => Bool) false (fun l => iff (Nat.ble (Nat.add off (lenQ cs)) (lenQ l)) (@Option.rec (List Value) (fun _ => Bool) false (fun d => and (sameVs f cs d) (closedAll cs)) (sub l off (lenQ cs))) false) cells
noncomputable def rowsLie (f : Value → Value → Bool) (cells : Option (List Value)) (off : Nat) (rows : List Value) : Bool :=
  @Option.rec (List Value) (fun _ => Bool) false (fun cs => cellsLie f cells off cs) (rowsCells (rowN rows) rows)
noncomputable def showsSl (f : Value → Value → Bool) (σ : ASt) (rows : List Value) : Value → Bool
  | .slice none n _ => and (isZ n) (isZ (lenQ rows))
  | .slice (some a) n _ => iff (Nat.beq (lenQ rows) n) (rowsLie f (σ.row a.block) a.off rows) false
  | v => sameV (nat_lit 12) (dat rows) v
noncomputable def showsPt (f : Value → Value → Bool) (σ : ASt) (cs : List Value) : Value → Bool
  | .pointer (some ⟨b, off, none⟩) => cellsLie f (σ.row b) off cs
  | v => sameV (nat_lit 12) (datP cs) v
noncomputable def showsTu (f : Value → Value → Bool) (σ : ASt) (v : Value) : List Value → Bool
  | [.agg rows] => showsSl f σ rows.toList v
  | [.tuple cs] => showsPt f σ cs.toList v
  | _ => false
/-- a slice without room that is not nil -/
def noRoom : Value → Bool
  | .slice (some ⟨_, _, none⟩) n c => and (isZ n) (isZ c)
  | _ => false
theorem noRoom_eq {v : Value} (h : noRoom v = true) : ∃ a : Addr, v = .slice (some a) 0 0 ∧ a.spot = none := by
  unfold noRoom at h
  split at h
  · rename_i b o n c
    simp only [Bool.and_eq_true, isZ, beq_iff] at h
    obtain ⟨rfl, rfl⟩ := h
    exact ⟨_, rfl, rfl⟩
  · cases h
/-- the first value, told by content, is what the second one is in this state -/
noncomputable def showsV (σ : ASt) : Nat → Value → Value → Bool
  | 0, _, _ => false
  | n + 1, a, v => match a with
    | .agg c => @Option.rec (List Value) (fun _ => Bool) false (fun d => sameVs (showsV σ n) c.toList d) (asA v)
    | .tuple c => showsTu (showsV σ n) σ v c.toList
    | .slice b m c => or (and (noRoom (.slice b m c)) (noRoom v)) (and (bare (.slice b m c)) (sameV (nat_lit 12) (.slice b m c) v))
    | a => and (bare a) (sameV (nat_lit 12) a v)

section
variable {σ : ASt} {tabs : List (Nat × List Value)}
theorem cellsLie_eq {f : Value → Value → Bool} {cells : Option (List Value)} {off : Nat} {cs : List Value} (h : cellsLie f cells off cs = true) :
    ∃ l d, cells = some l ∧ Win l off d ∧ (∀ v ∈ cs, closed1 v = true) ∧ cs.length = d.length ∧ ∀ (i : Nat) v v', cs[i]? = some v → d[i]? = some v' → f v v' = true := by
  cases cells with
  | none => cases (show false = true from h)
  | some l =>
    have h : iff (Nat.ble (Nat.add off (lenQ cs)) (lenQ l)) (@Option.rec (List Value) (fun _ => Bool) false (fun d => and (sameVs f cs d) (closedAll cs)) (sub l off (lenQ cs))) false = true := h
    rw [iff_eq] at h
    split at h
    · rename_i hle
      rw [lenQ_eq, lenQ_eq] at hle
      have hle : off + cs.length ≤ l.length := Nat.le_of_ble_eq_true hle
      cases hs : sub l off (lenQ cs) with
      | none => rw [hs] at h; cases (show false = true from h)
      | some d =>
        rw [hs] at h
        have h : and (sameVs f cs d) (closedAll cs) = true := h
        rw [Bool.and_eq_true] at h
        obtain ⟨g1, g2⟩ := sameVs_all h.1
        have g3 := (sub_eq hs).2
        refine ⟨l, d, rfl, ⟨by rw [← g1]; exact hle, ?_⟩, closedAll_eq h.2, g1, g2⟩
        rw [← g1, ← lenQ_eq, ← g3]
    · cases h
theorem rowsLie_eq {f : Value → Value → Bool} {cells : Option (List Value)} {off : Nat} {rows : List Value} (h : rowsLie f cells off rows = true) :
    ∃ z cs, RowsAre z rows cs ∧ cellsLie f cells off cs = true := by
  unfold rowsLie at h
  cases hr : rowsCells (rowN rows) rows with
  | none => rw [hr] at h; cases (show false = true from h)
  | some cs => rw [hr] at h; exact ⟨_, cs, hr, h⟩
theorem showsSl_ok {f : Value → Value → Bool} (hf : ∀ a v, f a v = true → VA (lend tabs σ) a v) {rows : List Value} {v : Value} (h : showsSl f σ rows v = true) : VA (lend tabs σ) (dat rows) v := by
  unfold showsSl at h
  split at h
  · rename_i n c
    simp only [Bool.and_eq_true, isZ, beq_iff] at h
    obtain ⟨rfl, h2⟩ := h
    rw [lenQ_eq] at h2
    rw [List.eq_nil_of_length_eq_zero h2]
    exact .nil0 c rfl
  · rename_i a n c
    rw [iff_eq] at h
    split at h
    · rename_i hn
      rw [beq_iff, lenQ_eq] at hn
      obtain ⟨z, cs, h1, h2⟩ := rowsLie_eq h
      obtain ⟨l, d, g1, g2, g3, g4, g5⟩ := cellsLie_eq h2
      obtain ⟨b, off, s⟩ := a
      exact .fz rfl g1 h1 hn g2 g3 g4 fun i v v' x y => hf _ _ (g5 i v v' x y)
    · cases h
  · rw [← sameV_eq _ _ _ h]
    exact .data rows rfl
theorem showsPt_ok {f : Value → Value → Bool} (hf : ∀ a v, f a v = true → VA (lend tabs σ) a v) {cs : List Value} {v : Value} (h : showsPt f σ cs v = true) : VA (lend tabs σ) (datP cs) v := by
  unfold showsPt at h
  split at h
  · obtain ⟨l, d, g1, g2, g3, g4, g5⟩ := cellsLie_eq h
    exact .fzP rfl g1 g2 g3 g4 fun i v v' x y => hf _ _ (g5 i v v' x y)
  · rw [← sameV_eq _ _ _ h]
    exact .dataP cs rfl
theorem showsV_ok : ∀ (n : Nat) (a v : Value), showsV σ n a v = true → VA (lend tabs σ) a v
  | 0, a, v, h => by cases (show false = true from h)
  | n + 1, a, v, h => by
    have ih := showsV_ok n
    have rest : and (bare a) (sameV (nat_lit 12) a v) = true → VA (lend tabs σ) a v := fun h => by
      rw [Bool.and_eq_true] at h
      rw [← sameV_eq _ _ _ h.2]
      exact VA.bare h.1
    cases a with
    | agg c =>
      obtain ⟨c⟩ := c
      replace h : @Option.rec (List Value) (fun _ => Bool) false (fun d => sameVs (showsV σ n) c d) (asA v) = true := h
      cases hv : asA v with
      | none => rw [hv] at h; cases (show false = true from h)
      | some d =>
        rw [hv] at h
        obtain ⟨g1, g2⟩ := sameVs_all (show sameVs (showsV σ n) c d = true from h)
        rw [asA_eq hv]
        exact .agg g1 fun i x y a b => ih _ _ (g2 i x y a b)
    | tuple c =>
      obtain ⟨c⟩ := c
      replace h : showsTu (showsV σ n) σ v c = true := h
      match c, h with
      | [.agg ⟨rows⟩], h => exact showsSl_ok ih h
      | [.tuple ⟨cs⟩], h => exact showsPt_ok ih h
    | slice b m c =>
      replace h : or (and (noRoom (.slice b m c)) (noRoom v)) (and (bare (.slice b m c)) (sameV (nat_lit 12) (.slice b m c) v)) = true := h
      rw [Bool.or_eq_true] at h
      rcases h with h | h
      · rw [Bool.and_eq_true] at h
        obtain ⟨a1, g1, g2⟩ := noRoom_eq h.1
        obtain ⟨a2, g3, g4⟩ := noRoom_eq h.2
        rw [g1, g3]
        exact .slz _ _ g2 g4
      · exact rest h
    | _ => exact rest h
end

/-! ### answers that are known -/
def TabsOk (G : Globs) (tabs : List (Nat × List Value)) (N : Nat) : Prop :=
  cutB [] (tabs.map (·.1)) (tabs.map (·.1)) N = true ∧ (tabs.all fun p => intsB p.2) = true ∧ ∀ g, G g = true → memN g (tabs.map (·.1)) = true
/-- an answer to arguments told by their content -/
structure Memo where
  args : List Value
  v : Value
def MemoOk (P : Program) (G : Globs) (tabs : List (Nat × List Value)) (N : Nat) (f : FuncId) (m : Memo) : Prop :=
  VA noDat m.v m.v ∧ ∃ call σr, CallSim P G call ∧ MonoF call ∧ call f m.args (tabS tabs N) = some (m.v, σr)
noncomputable def memoL (tabs : List (Nat × List Value)) (args : List Value) (σ : ASt) (l : List Memo) : Res :=
  @List.rec Memo (fun _ => Res) none (fun m _ ih => iff (sameVs (showsV σ (nat_lit 12)) m.args args) (iff (hasTabs tabs σ) (some (m.v, σ)) none) ih) l
noncomputable def memoC (tabs : List (Nat × List Value)) (mt : Tr (List Memo)) : CallF := fun f args σ => andThen (mt.get f) (memoL tabs args σ)
theorem memoL_eq {tabs : List (Nat × List Value)} {args : List Value} {σ σ' : ASt} {v : Value} : ∀ {l : List Memo}, memoL tabs args σ l = some (v, σ') →
    σ' = σ ∧ hasTabs tabs σ = true ∧ ∃ m ∈ l, m.v = v ∧ VAs (lend tabs σ) m.args args
  | [], h => by cases (show none = some (v, σ') from h)
  | m :: l, h => by
    have h : iff (sameVs (showsV σ (nat_lit 12)) m.args args) (iff (hasTabs tabs σ) (some (m.v, σ)) none) (memoL tabs args σ l) = some (v, σ') := h
    rw [iff_eq] at h
    split at h
    · rename_i hs
      obtain ⟨h1, h2⟩ := iff_some h
      cases h2
      obtain ⟨g1, g2⟩ := sameVs_all hs
      exact ⟨rfl, h1, m, List.mem_cons_self .., rfl, g1, fun i a b x y => showsV_ok _ _ _ (g2 i a b x y)⟩
    · obtain ⟨h1, h2, m', h3, h4⟩ := memoL_eq h
      exact ⟨h1, h2, m', List.mem_cons_of_mem _ h3, h4⟩
theorem mkTr_mem {α : Type} : ∀ {l : List (Nat × α)} {k : Nat} {a : α}, (mkTr l).get k = some a → (k, a) ∈ l
  | [], k, a, h => by cases (show none = some a from h)
  | p :: l, k, a, h => by
    rw [show mkTr (p :: l) = (mkTr l).set p.1 p.2 from rfl, Tr.get_set] at h
    split at h
    · rename_i hk
      cases h
      rw [hk]
      exact List.mem_cons_self ..
    · exact List.mem_cons_of_mem _ (mkTr_mem h)
theorem allN {α : Type} {p : α → Prop} : ∀ a ∈ ([] : List α), p a := fun _ h => by cases h
theorem allC {α : Type} {p : α → Prop} {a : α} {l : List α} (h : p a) (hl : ∀ b ∈ l, p b) : ∀ b ∈ a :: l, p b := fun b hb => by
  rcases List.mem_cons.1 hb with rfl | hb
  · exact h
  · exact hl b hb
section
variable {P : Program} {T : Tab} {G : Globs} {lf : Nat} {ks : List Known} {sp : CallF} {tabs : List (Nat × List Value)} {N : Nat}
theorem memoC_ok {mt : Tr (List Memo)} {ms : List (Nat × List Memo)} (ht : TabsOk G tabs N) (hmt : mt = mkTr ms) (h : ∀ p ∈ ms, ∀ m ∈ p.2, MemoOk P G tabs N p.1 m) : CallSim P G (memoC tabs mt) ∧ MonoF (memoC tabs mt) := by
  have key : ∀ {f args σ v σ'}, memoC tabs mt f args σ = some (v, σ') → σ' = σ ∧ hasTabs tabs σ = true ∧ ∃ m, MemoOk P G tabs N f m ∧ m.v = v ∧ VAs (lend tabs σ) m.args args := fun {f args σ v σ'} he => by
    obtain ⟨l, h1, h2⟩ := andThen_eq he
    rw [hmt] at h1
    obtain ⟨g1, g2, m, g3, g4, g5⟩ := memoL_eq h2
    exact ⟨g1, g2, m, h _ (mkTr_mem h1) m g3, g4, g5⟩
  refine ⟨fun f args σ v σ' he => ?_, fun f args σ v σ' he => ?_⟩
  · obtain ⟨rfl, g2, m, ⟨g3, call, σr, g4, g5, g6⟩, rfl, g7⟩ := key he
    have hF : ∀ b cells, σ'.row b = some cells → ∃ e org ro, σ'.obj b = some (.cells cells e org ro false) := fun b cells hb => by
      obtain ⟨e, org, ro, ho⟩ := row_eq hb
      exact ⟨e, org, ro, ho⟩
    exact own_call g4 g5 (tab_entryF ht.1 (fun p hp => List.all_eq_true.1 ht.2.1 p hp) ht.2.2 g2 g7 hF) g6 g3
  · rw [(key he).1]; exact .refl _

/-- calls: some by what they answer, some that have been run, the rest by their code -/
noncomputable def callS (sp : CallF) (ks : List Known) (T : Tab) (lf : Nat) : Nat → CallF
  | 0, _, _, _ => none
  | n + 1, f, args, σ => @Option.rec (Value × ASt) (fun _ => Res) (look ks f args σ (callStep T lf (callS sp ks T lf n) f args σ)) (fun p => some p) (sp f args σ)
theorem callS_ok (hT : TyOk P T) (hF : FnsOk P T G) (hsp : CallSim P G sp ∧ MonoF sp) (hks : ∀ k ∈ ks, KnownOk P G k) : ∀ n, CallSim P G (callS sp ks T lf n) ∧ MonoF (callS sp ks T lf n)
  | 0 => ⟨fun f args σ v σ' h => (by cases (show none = some (v, σ') from h)), fun f args σ v σ' h => (by cases (show none = some (v, σ') from h))⟩
  | n + 1 => by
    obtain ⟨h1, h2⟩ := callS_ok hT hF hsp hks n
    have key : ∀ f args σ v σ', callS sp ks T lf (n + 1) f args σ = some (v, σ') → CallAt P G f args σ v σ' := fun f args σ v σ' h => by
      have h : @Option.rec (Value × ASt) (fun _ => Res) (look ks f args σ (callStep T lf (callS sp ks T lf n) f args σ)) (fun p => some p) (sp f args σ) = some (v, σ') := h
      cases hs : sp f args σ with
      | some p =>
        rw [hs] at h
        have h : some p = some (v, σ') := h
        cases h
        exact ⟨hsp.2 _ _ _ _ _ hs, hsp.1 _ _ _ _ _ hs⟩
      | none =>
        rw [hs] at h
        rcases look_eq (show look ks f args σ (callStep T lf (callS sp ks T lf n) f args σ) = some (v, σ') from h) with h3 | ⟨k, hk, rfl, rfl, rfl, rfl, rfl⟩
        · exact ⟨mono_step h2 _ _ _ _ _ h3, sim_step hT hF h1 h2 _ _ _ _ _ h3⟩
        · exact hks k hk
    exact ⟨fun f args σ v σ' h => (key f args σ v σ' h).2, fun f args σ v σ' h => (key f args σ v σ' h).1⟩
noncomputable def runsS (sp : CallF) (ks : List Known) (T : Tab) (lf n : Nat) (k : Known) : Bool := ends (callS sp ks T lf n k.f k.args k.σ) k.v k.σ'
/-- **a call that has been run is known** -/
theorem knownS (hT : TyOk P T) (hF : FnsOk P T G) (hsp : CallSim P G sp ∧ MonoF sp) (hks : ∀ k ∈ ks, KnownOk P G k) {n : Nat} {k : Known} (h : runsS sp ks T lf n k = true) : KnownOk P G k :=
  have h := ends_eq h
  ⟨(callS_ok hT hF hsp hks n).2 _ _ _ _ _ h, (callS_ok hT hF hsp hks n).1 _ _ _ _ _ h⟩
/-- does a run answer so, with no address in it? -/
noncomputable def answers (o : Res) (v : Value) : Bool := @Option.rec (Value × ASt) (fun _ => Bool) false (fun p => and (sameV (nat_lit 12) v p.1) (bareR v)) o
theorem answers_eq {o : Res} {v : Value} (h : answers o v = true) : bareR v = true ∧ ∃ σ, o = some (v, σ) := by
  cases o with
  | none => cases (show false = true from h)
  | some p =>
    have h : and (sameV (nat_lit 12) v p.1) (bareR v) = true := h
    rw [Bool.and_eq_true] at h
    obtain ⟨a, b⟩ := p
    rw [sameV_eq _ _ _ h.1]
    exact ⟨by rw [← sameV_eq _ _ _ h.1]; exact h.2, b, rfl⟩
/-- **an answer that has been run is known** -/
theorem memo_run (hT : TyOk P T) (hF : FnsOk P T G) (hsp : CallSim P G sp ∧ MonoF sp) {n : Nat} {f : FuncId} {m : Memo} (h : answers (callS sp [] T lf n f m.args (tabS tabs N)) m.v = true) : MemoOk P G tabs N f m := by
  obtain ⟨h1, σr, h2⟩ := answers_eq h
  exact ⟨VA.bareR h1, _, σr, (callS_ok hT hF hsp all_nil n).1, (callS_ok hT hF hsp all_nil n).2, h2⟩
/-- **a law whose run tells true** -/
theorem abs_trueS {H : Type} {enc : TypeId × Value → H} {w : World} (hT : TyOk P T) (hF : FnsOk P T G) (hsp : CallSim P G sp ∧ MonoF sp) (hks : ∀ k ∈ ks, KnownOk P G k) {m : Nat} {f : FuncId} {args' : List Value} {base : Nat} {fuel : Nat} {held : Bool} {ts : List TypeId} {ds : List (DataW H)} {ps qs : List MemPlace}
    {xs : List (Nat × TypeId × DataW Unit)} {laid : List (String × DataW Unit)} {gs : List (Nat × List Value)} {n : Nat} {bs bs' : List (List Value)} {vs : List Value}
    (hargs : DataW.TrodAll enc P w base (fun _ => true) held ts args' ds ps) (hok : ∀ (j : Nat) t v, ts[j]? = some t → args'[j]? = some v → Value.okWide P w .any base t v)
    (hxs : VarsAre P xs laid) (hlaid : DataW.LaidVars P w laid qs)
    (h1 : layVars T fuel xs n = some (gs, bs)) (hn : ∀ g c, lookG gs g = some c → g < n) (h2 : layArgs T fuel ts ds (n + bs.length) = some (vs, bs')) (hG : ∀ g, G g = true → (lookG gs g).isSome = true)
    (h : tellsM (callS sp ks T lf m f vs (start gs n (bs ++ bs'))) = true) :
    Calls P f ⟨args'⟩ w fun e w' => e = .returned (.bool true) ∧ Go.RowKit.Below w.heap.size w w' := by
  obtain ⟨σ', h⟩ := tellsM_eq h
  obtain ⟨f1, g1⟩ := vars_ok (w := w) (D := No) hT xs laid n gs bs qs hxs hlaid h1
  obtain ⟨f2, g2⟩ := args_ok (w := w) (D := No) (enc := enc) hT ts ds args' (n + bs.length) vs bs' ps hargs hok h2
  have hf : ∀ π, Agree n (bs ++ bs') (fun k => if k < n + bs.length then f1 k else f2 k) π → Agree n bs f1 π ∧ Agree (n + bs.length) bs' f2 π := fun π hπ =>
    ⟨fun k hk hk2 => (hπ k hk (by simp; omega)).trans (if_pos hk2), fun k hk hk2 => (hπ k (by omega) (by simp; omega)).trans (if_neg (by omega))⟩
  obtain ⟨π, hag, hpre, hro, hgl, _⟩ := start_ok (w := w) (gs := gs) (n := n) (bs := bs ++ bs') hn (fun π hπ => by
    obtain ⟨a, b⟩ := hf π hπ
    obtain ⟨c1, c2⟩ := g1 π a
    exact ⟨c1.append (g2 π b).1, c2⟩)
  obtain ⟨hsims, hmonos⟩ := callS_ok (lf := lf) hT hF hsp hks m
  have hmono := hmonos f vs _ _ _ h
  obtain ⟨_, hsim⟩ := hsims f vs _ _ _ h
  have := hsim (Nat.le_refl _) π No No (fun _ => none) w args' (fun g hg => by
    have := hG g hg
    cases hl : lookG gs g with
    | none => rw [hl] at this; cases this
    | some c => exact hgl g c hl) (g2 π (hf π hag).2).2 (hpre σ' hmono.next)
  refine this.mono fun e w' ⟨v', π', D', he, hv, hpo⟩ => ?_
  rw [hv.bool_inv] at he
  exact ⟨he, hpo.fr.os, hpo.fr.tape, hpo.fr.output, hpo.fr.size, fun B hB => hpo.fr.keep B hB fun k i hk hro2 => by rw [hro k i hk] at hro2; cases hro2⟩
end
end Go.Abs

/- BYTES COMPARED: what internal/bytealg.Compare, which has no body, answers to two slices. -/
namespace Go.Abs
section
variable {P : Program} {G : Globs} {σ σ' : ASt} {π : PMap} {δ D : Nat → Prop} {H : Nat → Option AObj} {w : World}
noncomputable def bytesV (σ : ASt) : Value → Option (List UInt8)
  | .slice none _ _ => some []
  | .slice (some a) n _ => andThen (σ.cellsAt a.block a.off n) bytesOf
  | .tuple vs => andThen (datL vs.toList) fun rows => andThen (rowsCells (nat_lit 1) rows) bytesOf
  | _ => none
theorem run_extBytes {B : Nat} {elem : TypeId} {fz : Nat × Nat} {cc : Array Value} (hB : w.heap[B]? = some (.cells cc elem fz)) : ∀ (n x : Nat) (ns : List Int) (ba : ByteArray),
    x + n ≤ cc.size → (cc.toList.drop x).take n = ns.map (Value.int .u8) → (Extern.Bytes.loadBytes ⟨B, x, none⟩ n ba).run P w = .ok (ns.foldl (fun r n => r.push (UInt8.ofNat n.toNat)) ba) w
  | 0, x, ns, ba, _, h => by
    have : ns = [] := by simpa using h.symm
    subst this
    rfl
  | n + 1, x, ns, ba, hr, h => by
    have hsz : cc.toList.length = cc.size := rfl
    rw [List.drop_eq_getElem_cons (i := x) (by omega), List.take_succ_cons] at h
    cases ns with
    | nil => cases h
    | cons m ns =>
      rw [List.map_cons] at h
      injection h with h1 h2
      have hc : w.cell? ⟨B, x, none⟩ = some (.int .u8 m) := by
        simp only [World.cell?, hB, Option.isSome_none, Bool.false_eq_true, if_false]
        rw [Array.getElem?_eq_getElem (by omega)]
        exact congrArg some h1
      have hadd : (Addr.mk B x none).add 1 = ⟨B, x + 1, none⟩ := rfl
      simp only [Extern.Bytes.loadBytes, Sem.run_bind, run_load, hc, Result.andThen_ok, hadd]
      rw [run_extBytes hB n (x + 1) ns _ (by omega) h2]
      rfl
theorem push_bytes (ns : List Int) : ns.foldl (fun r n => r.push (UInt8.ofNat n.toNat)) ByteArray.empty = ⟨⟨ns.map fun n => UInt8.ofNat n.toNat⟩⟩ := by
  rw [foldl_push_bytes]
  simp [ByteArray.empty, ByteArray.emptyWithCapacity]
  rfl
theorem sim_bytes (hp : Pre σ σ' π δ D H w) {v v' : Value} {l : List UInt8} (h : bytesV σ v = some l) (hv : VR π D v v') : (Extern.Bytes.bytesOf v').run P w = .ok ⟨⟨l⟩⟩ w := by
  unfold bytesV at h
  split at h
  · cases h
    rw [hv.sl_none]; rfl
  · rename_i a n c
    obtain ⟨cs, h1, h2⟩ := andThen_eq h
    obtain ⟨ns, rfl, rfl⟩ := bytesOf_eq cs l h2
    have hle := hv.sl_le
    by_cases h0 : n = 0
    · subst h0
      obtain ⟨a', c', rfl⟩ := hv.sl_some
      have : ns.map (Value.int .u8) = [] := by
        obtain ⟨c, _, e1⟩ := andThen_eq h1
        obtain ⟨_, e2⟩ := sub_eq e1
        rw [e2]; simp
      have hns : ns = [] := by simpa using this
      subst hns
      rfl
    · obtain ⟨a', c', rfl, _, ha⟩ := slice_room hv (by omega)
      obtain ⟨c, g1, g2⟩ := andThen_eq h1
      obtain ⟨B, x, cc, elem, fz, rfl, hB, hlen, h1c, hvs⟩ := hp.cells g1 ha
      obtain ⟨g3, g4⟩ := sub_eq g2
      have g5 := g3.resolve_left h0
      have g6 : VRs π D (ns.map (Value.int .u8)) ((cc.toList.drop (x + a.off)).take n) := by
        have := (hvs.drop a.off).take n
        rw [window_sub (by omega)] at this
        rw [g4]; exact this
      have g7 := g6.ints (fun v hv => by
        obtain ⟨n, _, rfl⟩ := List.mem_map.1 hv
        exact ⟨_, _, rfl⟩)
      show (Extern.Bytes.loadBytes ⟨B, x + a.off, none⟩ n ByteArray.empty).run P w = _
      rw [run_extBytes hB n (x + a.off) ns _ (by omega) g7, push_bytes]
  · obtain ⟨rows, h1, h2⟩ := andThen_eq h
    obtain ⟨cs, h3, h4⟩ := andThen_eq h2
    rw [datL_eq h1] at hv
    obtain ⟨ns, rfl, rfl⟩ := bytesOf_eq cs l h4
    have hlen := rowsCells_len h3
    rw [List.length_map, Nat.mul_one] at hlen
    rcases hv.dat_inv with ⟨rfl, c, rfl⟩ | ⟨cs2, cs', z2, c', a', rfl, hr, hc, hf, ho, hvs, _⟩
    · have : ns = [] := List.eq_nil_of_length_eq_zero hlen
      subst this
      rfl
    · rcases hf with rfl | ⟨hs, cc, hf, hw1, hw2⟩
      · have : ns = [] := List.eq_nil_of_length_eq_zero hlen
        subst this
        rfl
      · obtain ⟨b, x, sp⟩ := a'
        simp only at hs
        subst hs
        simp only at hf hw1 hw2
        obtain ⟨elem, fz, hB⟩ := hp.rel.frz b cc hf
        have hcs : cs2 = ns.map (Value.int .u8) := by
          cases rows with
          | nil =>
            cases (show some [] = some cs2 from hr)
            exact Option.some.inj (show some [] = some (ns.map (Value.int .u8)) from h3)
          | cons r rows =>
            obtain ⟨c1, _, g1, g2, _⟩ := rowsCells_cons h3
            obtain ⟨c2, _, g3, g4, _⟩ := rowsCells_cons hr
            rw [g1] at g3
            cases g3
            have : z2 = 1 := g4.symm.trans g2
            subst this
            have := (show rowsCells 1 (r :: rows) = some cs2 from hr).symm.trans h3
            cases this
            rfl
        subst hcs
        have hl := hvs.1
        rw [List.length_map] at hl
        have hr' : cs' = ns.map (Value.int .u8) := hvs.ints (fun v hv => by
          obtain ⟨n, _, rfl⟩ := List.mem_map.1 hv
          exact ⟨_, _, rfl⟩)
        show (Extern.Bytes.loadBytes ⟨b, x, none⟩ rows.length ByteArray.empty).run P w = _
        rw [run_extBytes hB rows.length x ns _ (by show x + rows.length ≤ cc.length; rw [← hlen, hl]; exact hw1) (by
          show (cc.drop x).take rows.length = _
          rw [← hr', ← hw2]
          congr 1; omega), push_bytes]
  · cases h
/-- the order of two rows of bytes -/
noncomputable def cmpQ (a : List UInt8) : List UInt8 → Int :=
  @List.rec UInt8 (fun _ => List UInt8 → Int) (fun b => @List.rec UInt8 (fun _ => Int) (Int.ofNat (nat_lit 0)) (fun _ _ _ => Int.negSucc (nat_lit 0)) b)
    (fun x _ ih b => @List.rec UInt8 (fun _ => Int) (Int.ofNat (nat_lit 1)) (fun y b _ => iff (Nat.blt x.toNat y.toNat) (Int.negSucc (nat_lit 0)) (iff (Nat.blt y.toNat x.toNat) (Int.ofNat (nat_lit 1)) (ih b))) b) a
theorem cmpQ_eq : ∀ (a b : List UInt8), cmpQ a b = Lib.compareBytes a b
  | [], [] => rfl
  | [], _ :: _ => rfl
  | _ :: _, [] => rfl
  | x :: a, y :: b => by
    show iff (Nat.blt x.toNat y.toNat) (Int.negSucc 0) (iff (Nat.blt y.toNat x.toNat) (Int.ofNat 1) (cmpQ a b)) = if x < y then -1 else if y < x then 1 else Lib.compareBytes a b
    rw [iff_eq, iff_eq, cmpQ_eq a b]
    simp only [blt_iff, UInt8.lt_iff_toNat_lt]
    rfl
/-- bytes.Compare, as it answers -/
noncomputable def cmpF : SpecF := fun args σ => andThen2 (g2 args) fun a b => andThen (bytesV σ a) fun la => andThen (bytesV σ b) fun lb => some (.int .i64 (cmpQ la lb), σ)
theorem cmp_spec {f : FuncId} (he : Enters P f) (h : ∀ w a' b' la lb, (Extern.Bytes.bytesOf a').run P w = .ok ⟨⟨la⟩⟩ w → (Extern.Bytes.bytesOf b').run P w = .ok ⟨⟨lb⟩⟩ w →
    Calls P f ⟨[a', b']⟩ w fun e w' => e = .returned (.int .i64 (Lib.compareBytes la lb)) ∧ w' = w) : SpecSim P G f cmpF := by
  have inv : ∀ {args σ v σ'}, cmpF args σ = some (v, σ') → ∃ a b la lb, args = [a, b] ∧ bytesV σ a = some la ∧ bytesV σ b = some lb ∧ v = .int .i64 (cmpQ la lb) ∧ σ' = σ := fun {args σ v σ'} hs => by
    obtain ⟨a, b, h1, h2⟩ := andThen2_eq hs
    obtain ⟨la, h3, h4⟩ := andThen_eq h2
    obtain ⟨lb, h5, h6⟩ := andThen_eq h4
    cases h6
    exact ⟨a, b, la, lb, g2_eq h1, h3, h5, rfl, rfl⟩
  refine ⟨fun args σ v σ' hs => by obtain ⟨_, _, _, _, _, _, _, _, rfl⟩ := inv hs; exact .refl _, fun args σ v σ' hs => ⟨he, fun _ π δ D H w args' _ ha hp => ?_⟩⟩
  obtain ⟨a, b, la, lb, rfl, h1, h2, rfl, rfl⟩ := inv hs
  obtain ⟨a', r, rfl, ha1, ha2⟩ := ha.split
  obtain ⟨b', r2, rfl, hb1, hb2⟩ := ha2.split
  rw [hb2.empty]
  refine (h w a' b' la lb (sim_bytes hp h1 ha1) (sim_bytes hp h2 hb1)).mono fun e w' ⟨h3, h4⟩ => ?_
  subst h4
  exact ⟨_, π, D, h3, by rw [cmpQ_eq]; exact .int .i64 _, .refl hp⟩
/-- some by the one, the others by the other -/
noncomputable def orC (a b : CallF) : CallF := fun f args σ => @Option.rec (Value × ASt) (fun _ => Res) (b f args σ) (fun p => some p) (a f args σ)
theorem orC_ok {a b : CallF} (ha : CallSim P G a ∧ MonoF a) (hb : CallSim P G b ∧ MonoF b) : CallSim P G (orC a b) ∧ MonoF (orC a b) := by
  have key : ∀ {f args σ v σ'}, orC a b f args σ = some (v, σ') → a f args σ = some (v, σ') ∨ b f args σ = some (v, σ') := fun {f args σ v σ'} h => by
    have h : @Option.rec (Value × ASt) (fun _ => Res) (b f args σ) (fun p => some p) (a f args σ) = some (v, σ') := h
    cases hs : a f args σ with
    | some p => rw [hs] at h; exact .inl h
    | none => rw [hs] at h; exact .inr h
  exact ⟨fun f args σ v σ' h => (key h).elim (ha.1 _ _ _ _ _) (hb.1 _ _ _ _ _), fun f args σ v σ' h => (key h).elim (ha.2 _ _ _ _ _) (hb.2 _ _ _ _ _)⟩
end
end Go.Abs
