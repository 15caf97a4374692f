/- The abstract machine, one part: see its own sections. Conditions: none. -/
import Derived.Test.YtcecnhanifikfaaGreatDoorMachD
import Derived.Lib.Bytealg
import Derived.Laws.Externs
import Derived.Laws.LoneSync
set_option linter.unusedVariables false
set_option linter.unusedSimpArgs false
/- RUNS THAT TAKE SOME CALLS BY WHAT THEY ANSWER, wherever they stand: calls whose arguments, told by their content, were run once under their own numbers, and that answer without an address. -/
namespace Go.Abs
open Go.RowKit

/-! ### a call, by a run under its own numbers -/
section
variable {P : Program} {G : Globs} {S : Nat → Bool} {ι : Ren} {args argsc : List Value} {σ σc σr : ASt} {call : CallF} {f : FuncId} {v : Value}
theorem own_call (hc : CallSim P G call) (he : Enters P f) (hm : MonoF call) (hent : Entry G S ι args argsc σ σc) (hr : call f argsc σc = some (v, σr)) (hv : VA noDat v v) :
    Enters P f ∧ (σ.low ≤ σ.next → ∀ π δ D H w args', GlobR G π D → VRs π D args args' → Pre σ σ π δ D H w → Calls P f ⟨args'⟩ w (Back σ σ π δ D H w v)) := by
  have hs := fun hl π δ D H w args' hg ha hp => (hc f argsc σc v σr hr hl π δ D H w args' hg ha hp).calls he
  refine ⟨he, fun _ π δ D H w args' hg ha hp => ?_⟩
  obtain ⟨hP, hrep⟩ := hent.rep hp
  have hac : VRs (partOf ι π σc w) No argsc args' := hent.args.comp hP ha
  have hgl : GlobR G (partOf ι π σc w) No := fun g hgg => by
    obtain ⟨h1, h2⟩ := hP.loc g g 0 (hent.glob g hgg)
    rcases (hg g hgg).2 with ⟨i, h3, h4, h5⟩ | ⟨_, h3⟩
    · obtain ⟨ic, a1, a2, a3, _⟩ := h2 i h3
      exact ⟨rfl, .inl ⟨ic, a1, h4.trans a2.symm, by rw [a3]; exact h5⟩⟩
    · exact absurd h3 h1
  refine (hs hent.low (partOf ι π σc w) (deadIn σc) No (fun _ => none) w args' hgl hac (hrep.pre (hm f _ _ _ _ hr).next)).mono fun e w' ⟨v', π1, D1, he', hv', hpo⟩ => ?_
  have hr1 := hrep.post hpo
  have hl : Leave S ι noDat id σ σ σr v v := ⟨Nat.le_refl _, rfl, rfl, fun _ _ => rfl, fun j h1 h2 => (by omega), fun k k' sh h => (by cases h), hv, rfl, fun h => (by cases h)⟩
  obtain ⟨π', h3, h4⟩ := hl.post hp hr1 hv'
  exact ⟨v', π', D, he', h3, h4⟩
end

/-! ### content -/
noncomputable def closedAll (l : List Value) : Bool := @List.rec Value (fun _ => Bool) true (fun v _ ih => iff (closed1 v) ih false) l
theorem closedAll_eq : ∀ {l : List Value}, closedAll l = true → ∀ v ∈ l, closed1 v = true
  | [], _, v, hv => by cases hv
  | a :: l, h, v, hv => by
    have h : iff (closed1 a) (closedAll l) false = true := h
    rw [iff_eq] at h
    split at h
    · rename_i ha
      rcases List.mem_cons.1 hv with rfl | hv
      · exact ha
      · exact closedAll_eq h v hv
    · cases h
theorem sameVs_all {f : Value → Value → Bool} : ∀ {a b : List Value}, sameVs f a b = true → a.length = b.length ∧ ∀ (i : Nat) v v', a[i]? = some v → b[i]? = some v' → f v v' = true
  | [], [], _ => ⟨rfl, fun i v v' h _ => by simp at h⟩
  | [], _ :: _, h => by cases (show false = true from h)
  | _ :: _, [], h => by cases (show false = true from h)
  | x :: a, y :: b, h => by
    have h : (and (f x y) (sameVs f a b)) = true := h
    rw [Bool.and_eq_true] at h
    obtain ⟨h1, h2⟩ := sameVs_all h.2
    refine ⟨by simp [h1], fun i v v' g1 g2 => ?_⟩
    cases i with
    | zero => simp at g1 g2; rw [← g1, ← g2]; exact h.1
    | succ i => simp at g1 g2; exact h2 i v v' g1 g2
noncomputable def rowN (rows : List Value) : Nat := @List.rec Value (fun _ => Nat) (nat_lit 0) (fun r _ _ => @Option.rec (List Value) (fun _ => Nat) (nat_lit 0) (fun c => lenQ c) (asA r)) rows
/-- these cells, told, lie there -/
noncomputable def cellsLie (f : Value → Value → Bool) (cells : Option (List Value)) (off : Nat) (cs : List Value) : Bool :=
  @Option.rec (List Value) (fun _ => Bool) false (fun l => iff (Nat.ble (Nat.add off (lenQ cs)) (lenQ l)) (@Option.rec (List Value) (fun _ => Bool) false (fun d => and (sameVs f cs d) (closedAll cs)) (sub l off (lenQ cs))) false) cells
noncomputable def rowsLie (f : Value → Value → Bool) (cells : Option (List Value)) (off : Nat) (rows : List Value) : Bool :=
  @Option.rec (List Value) (fun _ => Bool) false (fun cs => cellsLie f cells off cs) (rowsCells (rowN rows) rows)
noncomputable def showsSl (f : Value → Value → Bool) (σ : ASt) (rows : List Value) : Value → Bool
  | .slice none n _ => and (isZ n) (isZ (lenQ rows))
  | .slice (some a) n _ => iff (Nat.beq (lenQ rows) n) (rowsLie f (σ.row a.block) a.off rows) false
  | v => sameV (nat_lit 12) (dat rows) v
noncomputable def showsPt (f : Value → Value → Bool) (σ : ASt) (cs : List Value) : Value → Bool
  | .pointer (some ⟨b, off, none⟩) => cellsLie f (σ.row b) off cs
  | v => sameV (nat_lit 12) (datP cs) v
noncomputable def showsTu (f : Value → Value → Bool) (σ : ASt) (v : Value) : List Value → Bool
  | [.agg rows] => showsSl f σ rows.toList v
  | [.tuple cs] => showsPt f σ cs.toList v
  | _ => false
/-- the first value, told by content, is what the second one is in this state -/
noncomputable def showsV (σ : ASt) : Nat → Value → Value → Bool
  | 0, _, _ => false
  | n + 1, a, v => match a with
    | .agg c => @Option.rec (List Value) (fun _ => Bool) false (fun d => sameVs (showsV σ n) c.toList d) (asA v)
    | .tuple c => showsTu (showsV σ n) σ v c.toList
    | .slice b m c => or (and (noRoom (.slice b m c)) (noRoom v)) (and (bare (.slice b m c)) (sameV (nat_lit 12) (.slice b m c) v))
    | a => and (bare a) (sameV (nat_lit 12) a v)

section
variable {σ : ASt} {tabs : List (Nat × List Value)}
theorem cellsLie_eq {f : Value → Value → Bool} {cells : Option (List Value)} {off : Nat} {cs : List Value} (h : cellsLie f cells off cs = true) :
    ∃ l d, cells = some l ∧ Win l off d ∧ (∀ v ∈ cs, closed1 v = true) ∧ cs.length = d.length ∧ ∀ (i : Nat) v v', cs[i]? = some v → d[i]? = some v' → f v v' = true := by
  cases cells with
  | none => cases (show false = true from h)
  | some l =>
    have h : iff (Nat.ble (Nat.add off (lenQ cs)) (lenQ l)) (@Option.rec (List Value) (fun _ => Bool) false (fun d => and (sameVs f cs d) (closedAll cs)) (sub l off (lenQ cs))) false = true := h
    rw [iff_eq] at h
    split at h
    · rename_i hle
      rw [lenQ_eq, lenQ_eq] at hle
      have hle : off + cs.length ≤ l.length := Nat.le_of_ble_eq_true hle
      cases hs : sub l off (lenQ cs) with
      | none => rw [hs] at h; cases (show false = true from h)
      | some d =>
        rw [hs] at h
        have h : and (sameVs f cs d) (closedAll cs) = true := h
        rw [Bool.and_eq_true] at h
        obtain ⟨g1, g2⟩ := sameVs_all h.1
        have g3 := (sub_eq hs).2
        refine ⟨l, d, rfl, ⟨by rw [← g1]; exact hle, ?_⟩, closedAll_eq h.2, g1, g2⟩
        rw [← g1, ← lenQ_eq, ← g3]
    · cases h
theorem rowsLie_eq {f : Value → Value → Bool} {cells : Option (List Value)} {off : Nat} {rows : List Value} (h : rowsLie f cells off rows = true) :
    ∃ z cs, RowsAre z rows cs ∧ cellsLie f cells off cs = true := by
  unfold rowsLie at h
  cases hr : rowsCells (rowN rows) rows with
  | none => rw [hr] at h; cases (show false = true from h)
  | some cs => rw [hr] at h; exact ⟨_, cs, hr, h⟩
theorem showsSl_ok {f : Value → Value → Bool} (hf : ∀ a v, f a v = true → VA (lend tabs σ) a v) {rows : List Value} {v : Value} (h : showsSl f σ rows v = true) : VA (lend tabs σ) (dat rows) v := by
  unfold showsSl at h
  split at h
  · rename_i n c
    simp only [Bool.and_eq_true, isZ, beq_iff] at h
    obtain ⟨rfl, h2⟩ := h
    rw [lenQ_eq] at h2
    rw [List.eq_nil_of_length_eq_zero h2]
    exact .nil0 c rfl
  · rename_i a n c
    rw [iff_eq] at h
    split at h
    · rename_i hn
      rw [beq_iff, lenQ_eq] at hn
      obtain ⟨z, cs, h1, h2⟩ := rowsLie_eq h
      obtain ⟨l, d, g1, g2, g3, g4, g5⟩ := cellsLie_eq h2
      obtain ⟨b, off, s⟩ := a
      exact .fz rfl g1 h1 hn g2 g3 g4 fun i v v' x y => hf _ _ (g5 i v v' x y)
    · cases h
  · rw [← sameV_eq _ _ _ h]
    exact .data rows rfl
theorem showsPt_ok {f : Value → Value → Bool} (hf : ∀ a v, f a v = true → VA (lend tabs σ) a v) {cs : List Value} {v : Value} (h : showsPt f σ cs v = true) : VA (lend tabs σ) (datP cs) v := by
  unfold showsPt at h
  split at h
  · obtain ⟨l, d, g1, g2, g3, g4, g5⟩ := cellsLie_eq h
    exact .fzP rfl g1 g2 g3 g4 fun i v v' x y => hf _ _ (g5 i v v' x y)
  · rw [← sameV_eq _ _ _ h]
    exact .dataP cs rfl
theorem showsV_ok : ∀ (n : Nat) (a v : Value), showsV σ n a v = true → VA (lend tabs σ) a v
  | 0, a, v, h => by cases (show false = true from h)
  | n + 1, a, v, h => by
    have ih := showsV_ok n
    have rest : and (bare a) (sameV (nat_lit 12) a v) = true → VA (lend tabs σ) a v := fun h => by
      rw [Bool.and_eq_true] at h
      rw [← sameV_eq _ _ _ h.2]
      exact VA.bare h.1
    cases a with
    | agg c =>
      obtain ⟨c⟩ := c
      replace h : @Option.rec (List Value) (fun _ => Bool) false (fun d => sameVs (showsV σ n) c d) (asA v) = true := h
      cases hv : asA v with
      | none => rw [hv] at h; cases (show false = true from h)
      | some d =>
        rw [hv] at h
        obtain ⟨g1, g2⟩ := sameVs_all (show sameVs (showsV σ n) c d = true from h)
        rw [asA_eq hv]
        exact .agg g1 fun i x y a b => ih _ _ (g2 i x y a b)
    | tuple c =>
      obtain ⟨c⟩ := c
      replace h : showsTu (showsV σ n) σ v c = true := h
      match c, h with
      | [.agg ⟨rows⟩], h => exact showsSl_ok ih h
      | [.tuple ⟨cs⟩], h => exact showsPt_ok ih h
    | slice b m c =>
      replace h : or (and (noRoom (.slice b m c)) (noRoom v)) (and (bare (.slice b m c)) (sameV (nat_lit 12) (.slice b m c) v)) = true := h
      rw [Bool.or_eq_true] at h
      rcases h with h | h
      · rw [Bool.and_eq_true] at h
        obtain ⟨a1, g1, g2⟩ := noRoom_eq h.1
        obtain ⟨a2, g3, g4⟩ := noRoom_eq h.2
        rw [g1, g3]
        exact .slz _ _ g2 g4
      · exact rest h
    | _ => exact rest h
end

/-! ### answers that are known -/
def TabsOk (G : Globs) (tabs : List (Nat × List Value)) (N : Nat) : Prop :=
  cutB [] (tabs.map (·.1)) (tabs.map (·.1)) N = true ∧ (tabs.all fun p => intsB p.2) = true ∧ ∀ g, G g = true → memN g (tabs.map (·.1)) = true
/-- an answer to arguments told by their content -/
structure Memo where
  args : List Value
  v : Value
def MemoOk (P : Program) (G : Globs) (tabs : List (Nat × List Value)) (N : Nat) (f : FuncId) (m : Memo) : Prop :=
  VA noDat m.v m.v ∧ Enters P f ∧ ∃ call σr, CallSim P G call ∧ MonoF call ∧ call f m.args (tabS tabs N) = some (m.v, σr)
noncomputable def memoL (tabs : List (Nat × List Value)) (args : List Value) (σ : ASt) (l : List Memo) : Res :=
  @List.rec Memo (fun _ => Res) none (fun m _ ih => iff (sameVs (showsV σ (nat_lit 12)) m.args args) (iff (hasTabs tabs σ) (some (m.v, σ)) none) ih) l
noncomputable def memoC (tabs : List (Nat × List Value)) (mt : Tr (List Memo)) : CallF := fun f args σ => andThen (mt.get f) (memoL tabs args σ)
theorem memoL_eq {tabs : List (Nat × List Value)} {args : List Value} {σ σ' : ASt} {v : Value} : ∀ {l : List Memo}, memoL tabs args σ l = some (v, σ') →
    σ' = σ ∧ hasTabs tabs σ = true ∧ ∃ m ∈ l, m.v = v ∧ VAs (lend tabs σ) m.args args
  | [], h => by cases (show none = some (v, σ') from h)
  | m :: l, h => by
    have h : iff (sameVs (showsV σ (nat_lit 12)) m.args args) (iff (hasTabs tabs σ) (some (m.v, σ)) none) (memoL tabs args σ l) = some (v, σ') := h
    rw [iff_eq] at h
    split at h
    · rename_i hs
      obtain ⟨h1, h2⟩ := iff_some h
      cases h2
      obtain ⟨g1, g2⟩ := sameVs_all hs
      exact ⟨rfl, h1, m, List.mem_cons_self .., rfl, g1, fun i a b x y => showsV_ok _ _ _ (g2 i a b x y)⟩
    · obtain ⟨h1, h2, m', h3, h4⟩ := memoL_eq h
      exact ⟨h1, h2, m', List.mem_cons_of_mem _ h3, h4⟩
theorem mkTr_mem {α : Type} : ∀ {l : List (Nat × α)} {k : Nat} {a : α}, (mkTr l).get k = some a → (k, a) ∈ l
  | [], k, a, h => by cases (show none = some a from h)
  | p :: l, k, a, h => by
    rw [show mkTr (p :: l) = (mkTr l).set p.1 p.2 from rfl, Tr.get_set] at h
    split at h
    · rename_i hk
      cases h
      rw [hk]
      exact List.mem_cons_self ..
    · exact List.mem_cons_of_mem _ (mkTr_mem h)
theorem allN {α : Type} {p : α → Prop} : ∀ a ∈ ([] : List α), p a := fun _ h => by cases h
theorem allC {α : Type} {p : α → Prop} {a : α} {l : List α} (h : p a) (hl : ∀ b ∈ l, p b) : ∀ b ∈ a :: l, p b := fun b hb => by
  rcases List.mem_cons.1 hb with rfl | hb
  · exact h
  · exact hl b hb
section
variable {P : Program} {T : Tab} {G : Globs} {lf : Nat} {ks : List Known} {sp : CallF → CallF} {tabs : List (Nat × List Value)} {N : Nat}
theorem memoC_okE {mt : Tr (List Memo)} {ms : List (Nat × List Memo)} (ht : TabsOk G tabs N) (hmt : mt = mkTr ms) (h : ∀ p ∈ ms, ∀ m ∈ p.2, MemoOk P G tabs N p.1 m) : CallSimE P G (memoC tabs mt) ∧ MonoF (memoC tabs mt) := by
  have key : ∀ {f args σ v σ'}, memoC tabs mt f args σ = some (v, σ') → σ' = σ ∧ hasTabs tabs σ = true ∧ ∃ m, MemoOk P G tabs N f m ∧ m.v = v ∧ VAs (lend tabs σ) m.args args := fun {f args σ v σ'} he => by
    obtain ⟨l, h1, h2⟩ := andThen_eq he
    rw [hmt] at h1
    obtain ⟨g1, g2, m, g3, g4, g5⟩ := memoL_eq h2
    exact ⟨g1, g2, m, h _ (mkTr_mem h1) m g3, g4, g5⟩
  refine ⟨fun f args σ v σ' he => ?_, fun f args σ v σ' he => ?_⟩
  · obtain ⟨rfl, g2, m, ⟨g3, ge, call, σr, g4, g5, g6⟩, rfl, g7⟩ := key he
    have hF : ∀ b cells, σ'.row b = some cells → ∃ e org ro, σ'.obj b = some (.cells cells e org ro false) := fun b cells hb => by
      obtain ⟨e, org, ro, ho⟩ := row_eq hb
      exact ⟨e, org, ro, ho⟩
    exact own_call g4 ge g5 (tab_entryF ht.1 (fun p hp => List.all_eq_true.1 ht.2.1 p hp) ht.2.2 g2 g7 hF) g6 g3
  · rw [(key he).1]; exact .refl _

theorem memoC_ok {mt : Tr (List Memo)} {ms : List (Nat × List Memo)} (ht : TabsOk G tabs N) (hmt : mt = mkTr ms) (h : ∀ p ∈ ms, ∀ m ∈ p.2, MemoOk P G tabs N p.1 m) : CallSim P G (memoC tabs mt) ∧ MonoF (memoC tabs mt) := ⟨(memoC_okE ht hmt h).1.sim, (memoC_okE ht hmt h).2⟩

/-- what is told of some calls, over the calls that they make -/
def ExtOk (P : Program) (G : Globs) (sp : CallF → CallF) : Prop := ∀ call, CallSim P G call → MonoF call → CallSim P G (sp call) ∧ MonoF (sp call)
/-- calls: some by what they answer, some that have been run, the rest by their code -/
noncomputable def callS (sp : CallF → CallF) (ks : List Known) (T : Tab) (lf : Nat) : Nat → CallF
  | 0, _, _, _ => none
  | n + 1, f, args, σ => @Option.rec (Value × ASt) (fun _ => Res) (look ks f args σ (callStep T lf (callS sp ks T lf n) f args σ)) (fun p => some p) (sp (callS sp ks T lf n) f args σ)
theorem callS_ok (hT : TyOk P T) (hF : FnsOk P T G) (hsp : ExtOk P G sp) (hks : ∀ k ∈ ks, KnownOk P G k) : ∀ n, CallSim P G (callS sp ks T lf n) ∧ MonoF (callS sp ks T lf n)
  | 0 => ⟨fun f args σ v σ' h => (by cases (show none = some (v, σ') from h)), fun f args σ v σ' h => (by cases (show none = some (v, σ') from h))⟩
  | n + 1 => by
    obtain ⟨h1, h2⟩ := callS_ok hT hF hsp hks n
    have key : ∀ f args σ v σ', callS sp ks T lf (n + 1) f args σ = some (v, σ') → sp (callS sp ks T lf n) f args σ = some (v, σ') ∨ CallAt P G f args σ v σ' := fun f args σ v σ' h => by
      have h : @Option.rec (Value × ASt) (fun _ => Res) (look ks f args σ (callStep T lf (callS sp ks T lf n) f args σ)) (fun p => some p) (sp (callS sp ks T lf n) f args σ) = some (v, σ') := h
      cases hs : sp (callS sp ks T lf n) f args σ with
      | some p => rw [hs] at h; exact .inl h
      | none =>
        rw [hs] at h
        rcases look_eq (show look ks f args σ (callStep T lf (callS sp ks T lf n) f args σ) = some (v, σ') from h) with h3 | ⟨k, hk, rfl, rfl, rfl, rfl, rfl⟩
        · exact .inr ⟨mono_step h2 _ _ _ _ _ h3, sim_step hT hF h1 h2 _ _ _ _ _ h3⟩
        · exact .inr (hks k hk)
    refine ⟨fun f args σ v σ' h hl π δ D H w args' hg ha hp => ?_, fun f args σ v σ' h => ?_⟩
    · rcases key f args σ v σ' h with h3 | ⟨_, h3, h4⟩
      · exact (hsp _ h1 h2).1 _ _ _ _ _ h3 hl π δ D H w args' hg ha hp
      · exact .inr ⟨f, ⟨args'⟩, run_callFunc h3 ⟨args'⟩ w, h4 hl π δ D H w args' hg ha hp⟩
    · rcases key f args σ v σ' h with h3 | h3
      · exact (hsp _ h1 h2).2 _ _ _ _ _ h3
      · exact h3.1
noncomputable def runsS (sp : CallF → CallF) (ks : List Known) (T : Tab) (lf n : Nat) (k : Known) : Bool := ends (callS sp ks T lf n k.f k.args k.σ) k.v k.σ'
/-- **a call that has been run is known** -/
theorem knownS (hT : TyOk P T) (hF : FnsOk P T G) (hsp : ExtOk P G sp) (hks : ∀ k ∈ ks, KnownOk P G k) {n : Nat} {k : Known} (he : Enters P k.f) (h : runsS sp ks T lf n k = true) : KnownOk P G k :=
  have h := ends_eq h
  ⟨(callS_ok hT hF hsp hks n).2 _ _ _ _ _ h, he, fun hl π δ D H w args' hg ha hp => ((callS_ok hT hF hsp hks n).1 _ _ _ _ _ h hl π δ D H w args' hg ha hp).calls he⟩
/-- does a run answer so, with no address in it? -/
noncomputable def answers (o : Res) (v : Value) : Bool := @Option.rec (Value × ASt) (fun _ => Bool) false (fun p => and (sameV (nat_lit 12) v p.1) (bareR v)) o
theorem answers_eq {o : Res} {v : Value} (h : answers o v = true) : bareR v = true ∧ ∃ σ, o = some (v, σ) := by
  cases o with
  | none => cases (show false = true from h)
  | some p =>
    have h : and (sameV (nat_lit 12) v p.1) (bareR v) = true := h
    rw [Bool.and_eq_true] at h
    obtain ⟨a, b⟩ := p
    rw [sameV_eq _ _ _ h.1]
    exact ⟨by rw [← sameV_eq _ _ _ h.1]; exact h.2, b, rfl⟩
/-- **an answer that has been run is known** -/
theorem memo_run (hT : TyOk P T) (hF : FnsOk P T G) (hsp : ExtOk P G sp) {n : Nat} {f : FuncId} {m : Memo} (he : Enters P f) (h : answers (callS sp [] T lf n f m.args (tabS tabs N)) m.v = true) : MemoOk P G tabs N f m := by
  obtain ⟨h1, σr, h2⟩ := answers_eq h
  exact ⟨VA.bareR h1, he, _, σr, (callS_ok hT hF hsp all_nil n).1, (callS_ok hT hF hsp all_nil n).2, h2⟩
/-- nothing is known -/
noncomputable def noC : CallF → CallF := fun _ _ _ _ => none
theorem noC_ok : ExtOk P G noC := fun _ _ _ => ⟨fun f args σ v σ' h => (by cases (show none = some (v, σ') from h)), fun f args σ v σ' h => (by cases (show none = some (v, σ') from h))⟩
/-- **a law whose run tells true** -/
theorem abs_trueS {H : Type} {enc : TypeId × Value → H} {w : World} {f : FuncId} (hen : Enters P f) (hT : TyOk P T) (hF : FnsOk P T G) (hsp : ExtOk P G sp) (hks : ∀ k ∈ ks, KnownOk P G k) {m : Nat} {args' : List Value} {base : Nat} {fuel : Nat} {held : Bool} {ts : List TypeId} {ds : List (DataW H)} {ps qs : List MemPlace}
    {xs : List (Nat × TypeId × DataW Unit)} {laid : List (String × DataW Unit)} {gs : List (Nat × List Value)} {n : Nat} {bs bs' : List (List Value)} {vs : List Value}
    (hargs : DataW.TrodAll enc P w base (fun _ => true) held ts args' ds ps) (hok : ∀ (j : Nat) t v, ts[j]? = some t → args'[j]? = some v → Value.okWide P w .any base t v)
    (hxs : VarsAre P xs laid) (hlaid : DataW.LaidVars P w laid qs)
    (h1 : layVars T fuel xs n = some (gs, bs)) (hn : ∀ g c, lookG gs g = some c → g < n) (h2 : layArgs T fuel ts ds (n + bs.length) = some (vs, bs')) (hG : ∀ g, G g = true → (lookG gs g).isSome = true)
    (h : tellsM (callS sp ks T lf m f vs (start gs n (bs ++ bs'))) = true) :
    Calls P f ⟨args'⟩ w fun e w' => e = .returned (.bool true) ∧ Go.RowKit.Below w.heap.size w w' := by
  obtain ⟨σ', h⟩ := tellsM_eq h
  obtain ⟨f1, g1⟩ := vars_ok (w := w) (D := No) hT xs laid n gs bs qs hxs hlaid h1
  obtain ⟨f2, g2⟩ := args_ok (w := w) (D := No) (enc := enc) hT ts ds args' (n + bs.length) vs bs' ps hargs hok h2
  have hf : ∀ π, Agree n (bs ++ bs') (fun k => if k < n + bs.length then f1 k else f2 k) π → Agree n bs f1 π ∧ Agree (n + bs.length) bs' f2 π := fun π hπ =>
    ⟨fun k hk hk2 => (hπ k hk (by simp; omega)).trans (if_pos hk2), fun k hk hk2 => (hπ k (by omega) (by simp; omega)).trans (if_neg (by omega))⟩
  obtain ⟨π, hag, hpre, hro, hgl, _⟩ := start_ok (w := w) (gs := gs) (n := n) (bs := bs ++ bs') hn (fun π hπ => by
    obtain ⟨a, b⟩ := hf π hπ
    obtain ⟨c1, c2⟩ := g1 π a
    exact ⟨c1.append (g2 π b).1, c2⟩)
  obtain ⟨hsims, hmonos⟩ := callS_ok (lf := lf) hT hF hsp hks m
  have hmono := hmonos f vs _ _ _ h
  have hsim := fun hl π δ D H w args' hg ha hp => (hsims f vs _ _ _ h hl π δ D H w args' hg ha hp).calls hen
  have := hsim (Nat.le_refl _) π No No (fun _ => none) w args' (fun g hg => by
    have := hG g hg
    cases hl : lookG gs g with
    | none => rw [hl] at this; cases this
    | some c => exact hgl g c hl) (g2 π (hf π hag).2).2 (hpre σ' hmono.next)
  refine this.mono fun e w' ⟨v', π', D', he, hv, hpo⟩ => ?_
  rw [hv.bool_inv] at he
  exact ⟨he, hpo.fr.os, hpo.fr.tape, hpo.fr.output, hpo.fr.size, fun B hB => hpo.fr.keep B hB fun k i hk hro2 => by rw [hro k i hk] at hro2; cases hro2⟩
end
end Go.Abs

/- BYTES COMPARED: what internal/bytealg.Compare, which has no body, answers to two slices. -/
namespace Go.Abs
section
variable {P : Program} {G : Globs} {σ σ' : ASt} {π : PMap} {δ D : Nat → Prop} {H : Nat → Option AObj} {w : World}
noncomputable def bytesV (σ : ASt) : Value → Option (List UInt8)
  | .slice none _ _ => some []
  | .slice (some a) n _ => andThen (σ.cellsAt a.block a.off n) bytesOf
  | .tuple vs => andThen (datL vs.toList) fun rows => andThen (rowsCells (nat_lit 1) rows) bytesOf
  | _ => none
theorem run_extBytes {B : Nat} {elem : TypeId} {fz : Nat × Nat} {cc : Array Value} (hB : w.heap[B]? = some (.cells cc elem fz)) : ∀ (n x : Nat) (ns : List Int) (ba : ByteArray),
    x + n ≤ cc.size → (cc.toList.drop x).take n = ns.map (Value.int .u8) → (Extern.Bytes.loadBytes ⟨B, x, none⟩ n ba).run P w = .ok (ns.foldl (fun r n => r.push (UInt8.ofNat n.toNat)) ba) w
  | 0, x, ns, ba, _, h => by
    have : ns = [] := by simpa using h.symm
    subst this
    rfl
  | n + 1, x, ns, ba, hr, h => by
    have hsz : cc.toList.length = cc.size := rfl
    rw [List.drop_eq_getElem_cons (i := x) (by omega), List.take_succ_cons] at h
    cases ns with
    | nil => cases h
    | cons m ns =>
      rw [List.map_cons] at h
      injection h with h1 h2
      have hc : w.cell? ⟨B, x, none⟩ = some (.int .u8 m) := by
        simp only [World.cell?, hB, Option.isSome_none, Bool.false_eq_true, if_false]
        rw [Array.getElem?_eq_getElem (by omega)]
        exact congrArg some h1
      have hadd : (Addr.mk B x none).add 1 = ⟨B, x + 1, none⟩ := rfl
      simp only [Extern.Bytes.loadBytes, Sem.run_bind, run_load, hc, Result.andThen_ok, hadd]
      rw [run_extBytes hB n (x + 1) ns _ (by omega) h2]
      rfl
theorem push_bytes (ns : List Int) : ns.foldl (fun r n => r.push (UInt8.ofNat n.toNat)) ByteArray.empty = ⟨⟨ns.map fun n => UInt8.ofNat n.toNat⟩⟩ := by
  rw [foldl_push_bytes]
  simp [ByteArray.empty, ByteArray.emptyWithCapacity]
  rfl
theorem sim_bytes (hp : Pre σ σ' π δ D H w) {v v' : Value} {l : List UInt8} (h : bytesV σ v = some l) (hv : VR π D v v') : (Extern.Bytes.bytesOf v').run P w = .ok ⟨⟨l⟩⟩ w := by
  unfold bytesV at h
  split at h
  · cases h
    rw [hv.sl_none]; rfl
  · rename_i a n c
    obtain ⟨cs, h1, h2⟩ := andThen_eq h
    obtain ⟨ns, rfl, rfl⟩ := bytesOf_eq cs l h2
    have hle := hv.sl_le
    by_cases h0 : n = 0
    · subst h0
      obtain ⟨a', c', rfl⟩ := hv.sl_some
      have : ns.map (Value.int .u8) = [] := by
        obtain ⟨c, _, e1⟩ := andThen_eq h1
        obtain ⟨_, e2⟩ := sub_eq e1
        rw [e2]; simp
      have hns : ns = [] := by simpa using this
      subst hns
      rfl
    · obtain ⟨a', c', rfl, _, ha⟩ := slice_room hv (by omega)
      obtain ⟨c, g1, g2⟩ := andThen_eq h1
      obtain ⟨B, x, cc, elem, fz, rfl, hB, hlen, h1c, hvs⟩ := hp.cells g1 ha
      obtain ⟨g3, g4⟩ := sub_eq g2
      have g5 := g3.resolve_left h0
      have g6 : VRs π D (ns.map (Value.int .u8)) ((cc.toList.drop (x + a.off)).take n) := by
        have := (hvs.drop a.off).take n
        rw [window_sub (by omega)] at this
        rw [g4]; exact this
      have g7 := g6.ints (fun v hv => by
        obtain ⟨n, _, rfl⟩ := List.mem_map.1 hv
        exact ⟨_, _, rfl⟩)
      show (Extern.Bytes.loadBytes ⟨B, x + a.off, none⟩ n ByteArray.empty).run P w = _
      rw [run_extBytes hB n (x + a.off) ns _ (by omega) g7, push_bytes]
  · obtain ⟨rows, h1, h2⟩ := andThen_eq h
    obtain ⟨cs, h3, h4⟩ := andThen_eq h2
    rw [datL_eq h1] at hv
    obtain ⟨ns, rfl, rfl⟩ := bytesOf_eq cs l h4
    have hlen := rowsCells_len h3
    rw [List.length_map, Nat.mul_one] at hlen
    rcases hv.dat_inv with ⟨rfl, c, rfl⟩ | ⟨cs2, cs', z2, c', a', rfl, hr, hc, hf, ho, hvs, _⟩
    · have : ns = [] := List.eq_nil_of_length_eq_zero hlen
      subst this
      rfl
    · rcases hf with rfl | ⟨hs, cc, hf, hw1, hw2⟩
      · have : ns = [] := List.eq_nil_of_length_eq_zero hlen
        subst this
        rfl
      · obtain ⟨b, x, sp⟩ := a'
        simp only at hs
        subst hs
        simp only at hf hw1 hw2
        obtain ⟨elem, fz, hB⟩ := hp.rel.frz b cc hf
        have hcs : cs2 = ns.map (Value.int .u8) := by
          cases rows with
          | nil =>
            cases (show some [] = some cs2 from hr)
            exact Option.some.inj (show some [] = some (ns.map (Value.int .u8)) from h3)
          | cons r rows =>
            obtain ⟨c1, _, g1, g2, _⟩ := rowsCells_cons h3
            obtain ⟨c2, _, g3, g4, _⟩ := rowsCells_cons hr
            rw [g1] at g3
            cases g3
            have : z2 = 1 := g4.symm.trans g2
            subst this
            have := (show rowsCells 1 (r :: rows) = some cs2 from hr).symm.trans h3
            cases this
            rfl
        subst hcs
        have hl := hvs.1
        rw [List.length_map] at hl
        have hr' : cs' = ns.map (Value.int .u8) := hvs.ints (fun v hv => by
          obtain ⟨n, _, rfl⟩ := List.mem_map.1 hv
          exact ⟨_, _, rfl⟩)
        show (Extern.Bytes.loadBytes ⟨b, x, none⟩ rows.length ByteArray.empty).run P w = _
        rw [run_extBytes hB rows.length x ns _ (by show x + rows.length ≤ cc.length; rw [← hlen, hl]; exact hw1) (by
          show (cc.drop x).take rows.length = _
          rw [← hr', ← hw2]
          congr 1; omega), push_bytes]
  · cases h
/-- the order of two rows of bytes -/
noncomputable def cmpQ (a : List UInt8) : List UInt8 → Int :=
  @List.rec UInt8 (fun _ => List UInt8 → Int) (fun b => @List.rec UInt8 (fun _ => Int) (Int.ofNat (nat_lit 0)) (fun _ _ _ => Int.negSucc (nat_lit 0)) b)
    (fun x _ ih b => @List.rec UInt8 (fun _ => Int) (Int.ofNat (nat_lit 1)) (fun y b _ => iff (Nat.blt x.toNat y.toNat) (Int.negSucc (nat_lit 0)) (iff (Nat.blt y.toNat x.toNat) (Int.ofNat (nat_lit 1)) (ih b))) b) a
theorem cmpQ_eq : ∀ (a b : List UInt8), cmpQ a b = Lib.compareBytes a b
  | [], [] => rfl
  | [], _ :: _ => rfl
  | _ :: _, [] => rfl
  | x :: a, y :: b => by
    show iff (Nat.blt x.toNat y.toNat) (Int.negSucc 0) (iff (Nat.blt y.toNat x.toNat) (Int.ofNat 1) (cmpQ a b)) = if x < y then -1 else if y < x then 1 else Lib.compareBytes a b
    rw [iff_eq, iff_eq, cmpQ_eq a b]
    simp only [blt_iff, UInt8.lt_iff_toNat_lt]
    rfl
/-- bytes.Compare, as it answers -/
noncomputable def cmpF : SpecF := fun args σ => andThen2 (g2 args) fun a b => andThen (bytesV σ a) fun la => andThen (bytesV σ b) fun lb => some (.int .i64 (cmpQ la lb), σ)
theorem cmp_spec {f : FuncId} (he : Enters P f) (h : ∀ w a' b' la lb, (Extern.Bytes.bytesOf a').run P w = .ok ⟨⟨la⟩⟩ w → (Extern.Bytes.bytesOf b').run P w = .ok ⟨⟨lb⟩⟩ w →
    Calls P f ⟨[a', b']⟩ w fun e w' => e = .returned (.int .i64 (Lib.compareBytes la lb)) ∧ w' = w) : SpecSim P G f cmpF := by
  have inv : ∀ {args σ v σ'}, cmpF args σ = some (v, σ') → ∃ a b la lb, args = [a, b] ∧ bytesV σ a = some la ∧ bytesV σ b = some lb ∧ v = .int .i64 (cmpQ la lb) ∧ σ' = σ := fun {args σ v σ'} hs => by
    obtain ⟨a, b, h1, h2⟩ := andThen2_eq hs
    obtain ⟨la, h3, h4⟩ := andThen_eq h2
    obtain ⟨lb, h5, h6⟩ := andThen_eq h4
    cases h6
    exact ⟨a, b, la, lb, g2_eq h1, h3, h5, rfl, rfl⟩
  refine ⟨fun args σ v σ' hs => by obtain ⟨_, _, _, _, _, _, _, _, rfl⟩ := inv hs; exact .refl _, fun args σ v σ' hs => ⟨he, fun _ π δ D H w args' _ ha hp => ?_⟩⟩
  obtain ⟨a, b, la, lb, rfl, h1, h2, rfl, rfl⟩ := inv hs
  obtain ⟨a', r, rfl, ha1, ha2⟩ := ha.split
  obtain ⟨b', r2, rfl, hb1, hb2⟩ := ha2.split
  rw [hb2.empty]
  refine (h w a' b' la lb (sim_bytes hp h1 ha1) (sim_bytes hp h2 hb1)).mono fun e w' ⟨h3, h4⟩ => ?_
  subst h4
  exact ⟨_, π, D, h3, by rw [cmpQ_eq]; exact .int .i64 _, .refl hp⟩
/-- some by the one, the others by the other -/
noncomputable def orC (a b : CallF) : CallF := fun f args σ => @Option.rec (Value × ASt) (fun _ => Res) (b f args σ) (fun p => some p) (a f args σ)
theorem orC_ok {a b : CallF} (ha : CallSim P G a ∧ MonoF a) (hb : CallSim P G b ∧ MonoF b) : CallSim P G (orC a b) ∧ MonoF (orC a b) := by
  have key : ∀ {f args σ v σ'}, orC a b f args σ = some (v, σ') → a f args σ = some (v, σ') ∨ b f args σ = some (v, σ') := fun {f args σ v σ'} h => by
    have h : @Option.rec (Value × ASt) (fun _ => Res) (b f args σ) (fun p => some p) (a f args σ) = some (v, σ') := h
    cases hs : a f args σ with
    | some p => rw [hs] at h; exact .inl h
    | none => rw [hs] at h; exact .inr h
  exact ⟨fun f args σ v σ' h => (key h).elim (ha.1 _ _ _ _ _) (hb.1 _ _ _ _ _), fun f args σ v σ' h => (key h).elim (ha.2 _ _ _ _ _) (hb.2 _ _ _ _ _)⟩
end
end Go.Abs

/- CALLS OF WHAT HAS NO BODY, OR NOT ONE THAT CAN BE RUN: what they answer; each held against what the model's calls do. -/
namespace Go.Abs
open Go.RowKit
/-! ### words -/
/-- a number of 32 bits is read -/
def asU32 : Value → Option Int
  | .int .u32 n => some n
  | _ => none
noncomputable def loadS : SpecF := fun args σ => andThen (just1 args) fun x => andThen2 (asPtr x) fun k off => andThen (σ.row k) fun c => andThen (nthQ off c) fun v => andThen (asU32 v) fun n => some (.int .u32 n, σ)
/-- the first place of a byte, or -1 -/
noncomputable def idxQ (c : Nat) (l : List UInt8) : Nat → Int :=
  @List.rec UInt8 (fun _ => Nat → Int) (fun _ => Int.negSucc (nat_lit 0)) (fun b _ ih i => iff (Nat.beq b.toNat c) (Int.ofNat i) (ih (Nat.succ i))) l
def asU8 : Value → Option Int
  | .int .u8 n => some n
  | _ => none
noncomputable def idxS : SpecF := fun args σ => andThen2 (just2 args) fun s x => andThen (asS s) fun l => andThen (asU8 x) fun n => some (.int .i64 (idxQ (Nat.mod n.toNat (nat_lit 256)) l (nat_lit 0)), σ)
/-- how often a byte is there -/
noncomputable def cntQ (c : Nat) (l : List UInt8) : Nat := @List.rec UInt8 (fun _ => Nat) (nat_lit 0) (fun b _ ih => iff (Nat.beq b.toNat c) (Nat.succ ih) ih) l
noncomputable def cntS : SpecF := fun args σ => andThen2 (just2 args) fun s x => andThen (asS s) fun l => andThen (asU8 x) fun n => some (.int .i64 (Int.ofNat (cntQ (Nat.mod n.toNat (nat_lit 256)) l)), σ)
/-- of a block of a known type, whole: its cells -/
noncomputable def wholeQ (σ : ASt) (k t : Nat) : Option (List Value) := andThen3 (andThen (σ.obj k) rowsOf) fun c e _ => andThen (typedQ e) fun q => iff (Nat.beq q (Nat.mul (nat_lit 2) t)) (some c) none
def isSelf (k : Nat) : Value → Bool
  | .pointer (some ⟨b, 0, none⟩) => Nat.beq b k
  | _ => false
def isNil0 : Value → Bool
  | .pointer none => true
  | _ => false
def noBytes : Value → Bool
  | .slice none 0 0 => true
  | _ => false
/-- a builder's own pointer is set, or is right -/
noncomputable def copyS (t : TypeId) : SpecF := fun args σ => andThen (just1 args) fun x => andThen2 (asPtr x) fun k off => andThen (wholeQ σ k t) fun c => andThen2 (just2 c) fun u _ =>
  iff (isZ off) (iff (isSelf k u) (some (.tuple #[], σ)) (iff (isNil0 u) (andThen (σ.setAt k (nat_lit 0) [.pointer (some ⟨k, 0, none⟩)]) fun σ' => some (.tuple #[], σ')) none)) none
/-- a builder without bytes gets room -/
noncomputable def growS (t e : TypeId) : SpecF := fun args σ => andThen2 (just2 args) fun x y => andThen2 (asPtr x) fun k off => andThen2 (asI y) fun kd n => andThen (upTo n 100000000) fun _ => andThen (wholeQ σ k t) fun c => andThen2 (just2 c) fun u v =>
  iff (and (and (sameKind kd .i64) (isZ off)) (and (isSelf k u) (noBytes v)))
    (andThen ((σ.new (.cells [] (some (rowC e)) σ.next false false)).setAt k (nat_lit 1) [.slice (some ⟨σ.next, 0, some 1⟩) 0 0]) fun σ' => some (.tuple #[], σ')) none
def isU32z : Value → Bool
  | .int .u32 0 => true
  | _ => false
def isI32z : Value → Bool
  | .int .i32 0 => true
  | _ => false
def isI32o : Value → Bool
  | .int .i32 1 => true
  | _ => false
noncomputable def cellIs (f : Value → Bool) (σ : ASt) (k off : Nat) : Bool := @Option.rec Value (fun _ => Bool) false f (andThen (σ.row k) fun c => nthQ off c)
def isBound (g k off : Nat) : Value → Bool
  | .func (.func g') ⟨[.pointer (some ⟨b, o, none⟩)]⟩ ⟨[]⟩ => and (Nat.beq g' g) (and (Nat.beq b k) (Nat.beq o off))
  | _ => false
def isUnit : Value → Bool
  | .tuple ⟨[]⟩ => true
  | _ => false
/-- the function is called once, the lock held -/
noncomputable def onceS (g : FuncId) (call : CallF) : SpecF := fun args σ => andThen2 (just2 args) fun x f => andThen2 (asPtr x) fun k off =>
  iff (and (isBound g k off f) (and (cellIs isU32z σ k off) (cellIs isI32z σ k (Nat.succ off))))
    (andThen (σ.setAt k (Nat.succ off) [.int .i32 1]) fun σ1 => andThen2 (call g [x] σ1) fun v σ2 =>
      iff (and (isUnit v) (cellIs isI32o σ2 k (Nat.succ off))) (andThen (σ2.setAt k off [.int .u32 1]) fun σ3 => andThen (σ3.setAt k (Nat.succ off) [.int .i32 0]) fun σ4 => some (.tuple #[], σ4)) none) none

/-! ### calls -/
def SpecGo (P : Program) (G : Globs) (f : FuncId) (s : SpecF) : Prop :=
  (∀ args σ v σ', s args σ = some (v, σ') → Mono σ σ') ∧ ∀ args σ v σ', s args σ = some (v, σ') →
    (σ.low ≤ σ.next → ∀ π δ D H w args', GlobR G π D → VRs π D args args' → Pre σ σ' π δ D H w → Goes P σ σ' π δ D H w v (callFunc f ⟨args'⟩))
section
variable {P : Program} {T : Tab} {G : Globs} {σ σ' σ1 : ASt} {π : PMap} {δ D : Nat → Prop} {H : Nat → Option AObj} {w : World}
theorem SpecSim.go {f : FuncId} {s : SpecF} (h : SpecSim P G f s) : SpecGo P G f s :=
  ⟨h.1, fun args σ v σ' hs hl π δ D H w args' hg ha hp => .inr ⟨f, ⟨args'⟩, run_callFunc (h.2 _ _ _ _ hs).1 ⟨args'⟩ w, (h.2 _ _ _ _ hs).2 hl π δ D H w args' hg ha hp⟩⟩
theorem callL_go {l : List (FuncId × SpecF)} (h : ∀ p ∈ l, SpecGo P G p.1 p.2) : CallSim P G (callL l) ∧ MonoF (callL l) := by
  induction l with
  | nil => exact ⟨fun f args σ v σ' h => (by cases (show none = some (v, σ') from h)), fun f args σ v σ' h => (by cases (show none = some (v, σ') from h))⟩
  | cons p l ih =>
    have ih := ih fun q hq => h q (by simp [hq])
    have h0 := h p (by simp)
    have key : ∀ f args σ v σ', callL (p :: l) f args σ = some (v, σ') → (f = p.1 ∧ p.2 args σ = some (v, σ')) ∨ callL l f args σ = some (v, σ') := fun f args σ v σ' h => by
      have h' : iff (Nat.beq f p.1) (p.2 args σ) (callL l f args σ) = some (v, σ') := h
      rw [iff_eq] at h'
      split at h'
      · rename_i hb; exact .inl ⟨(beq_iff _ _).1 hb, h'⟩
      · exact .inr h'
    refine ⟨fun f args σ v σ' h hl π δ D H w args' hg ha hp => ?_, fun f args σ v σ' h => ?_⟩
    · rcases key f args σ v σ' h with ⟨rfl, h1⟩ | h1
      · exact h0.2 _ _ _ _ h1 hl π δ D H w args' hg ha hp
      · exact ih.1 _ _ _ _ _ h1 hl π δ D H w args' hg ha hp
    · rcases key f args σ v σ' h with ⟨rfl, h1⟩ | h1
      · exact h0.1 _ _ _ _ h1
      · exact ih.2 _ _ _ _ _ h1
/-- a call that looks at memory alone -/
theorem lookGo {f : FuncId} {s : SpecF} (h : ∀ args σ v σ', s args σ = some (v, σ') → σ' = σ ∧ ∀ π δ D H w args', VRs π D args args' → Pre σ σ π δ D H w → ∃ v', (callFunc f ⟨args'⟩).run P w = .ok (.value v') w ∧ VR π D v v') : SpecGo P G f s :=
  ⟨fun args σ v σ' hs => by rw [(h _ _ _ _ hs).1]; exact .refl _, fun args σ v σ' hs _ π δ D H w args' _ ha hp => by
    obtain ⟨rfl, h1⟩ := h _ _ _ _ hs
    obtain ⟨v', h2, h3⟩ := h1 π δ D H w args' ha hp
    exact .inl ⟨_, v', π, D, w, h2, .inl rfl, h3, .refl hp⟩⟩
theorem asU8_eq {v : Value} {n : Int} (h : asU8 v = some n) : v = .int .u8 n := by
  unfold asU8 at h
  split at h
  · cases h; rfl
  · cases h
theorem asU32_eq {v : Value} {n : Int} (h : asU32 v = some n) : v = .int .u32 n := by
  unfold asU32 at h
  split at h
  · cases h; rfl
  · cases h
theorem u8_mod (n : Nat) : (n.toUInt8).toNat = Nat.mod n 256 := by simp [Nat.toUInt8]; rfl
theorem idxQ_eq (c : UInt8) : ∀ (l : List UInt8) (i : Nat), idxQ c.toNat l i = if Lib.indexByte l c == -1 then -1 else Lib.indexByte l c + i
  | [], i => rfl
  | b :: l, i => by
    show iff (Nat.beq b.toNat c.toNat) (Int.ofNat i) (idxQ c.toNat l (i + 1)) = _
    rw [iff_eq, idxQ_eq c l (i + 1)]
    have hge := Lib.indexByte_ge l c
    have hstep : Lib.indexByte (b :: l) c = if b == c then 0 else if Lib.indexByte l c == -1 then -1 else Lib.indexByte l c + 1 := rfl
    rw [hstep]
    by_cases hb : b = c
    · subst hb
      rw [if_pos ((beq_iff _ _).2 rfl)]
      simp
    · rw [if_neg (fun h => hb (UInt8.toNat_inj.1 ((beq_iff _ _).1 h)))]
      have hbc : (b == c) = false := by simpa using hb
      simp only [hbc, Bool.false_eq_true, if_false]
      by_cases h1 : Lib.indexByte l c = -1
      · simp [h1]
      · have h2 : (Lib.indexByte l c == -1) = false := by simpa using h1
        rw [h2]
        simp only [Bool.false_eq_true, if_false]
        rw [if_neg (by simp; omega)]
        omega
theorem cntQ_eq (c : UInt8) : ∀ l : List UInt8, cntQ c.toNat l = Lib.countByte l c
  | [] => rfl
  | b :: l => by
    show iff (Nat.beq b.toNat c.toNat) (Nat.succ (cntQ c.toNat l)) (cntQ c.toNat l) = _
    rw [iff_eq, cntQ_eq c l]
    unfold Lib.countByte
    rw [List.count_cons]
    by_cases hb : b = c
    · subst hb
      rw [if_pos ((beq_iff _ _).2 rfl)]; simp
    · rw [if_neg (fun h => hb (UInt8.toNat_inj.1 ((beq_iff _ _).1 h)))]
      simp [hb]
theorem idxGo {f : FuncId} {fn : Func} (hf : P.funcs[f]? = some fn) (hname : (fn.name == "runtime.NumGoroutine") = false) (hb : fn.body.isNone = true) (hn : Extern.findNext fn = none) (he : Extern.find fn = some Extern.BytealgIndexByte.indexByte) : SpecGo P G f idxS :=
  lookGo fun args σ v σ' hs => by
    obtain ⟨s, x, h1, e1⟩ := andThen2_eq hs
    obtain ⟨l, h2, e2⟩ := andThen_eq e1
    obtain ⟨n, h3, e3⟩ := andThen_eq e2
    cases e3
    refine ⟨rfl, fun π δ D H w args' ha hp => ?_⟩
    obtain rfl := just2_eq h1
    obtain ⟨b, rfl, rfl⟩ := asS_eq h2
    obtain rfl := asU8_eq h3
    obtain ⟨s', r, rfl, g1, g2⟩ := ha.split
    obtain ⟨x', r2, rfl, g3, g4⟩ := g2.split
    rw [g4.empty]
    obtain rfl := g1.string_inv
    obtain rfl := g3.int_inv
    have h9 : (Extern.BytealgIndexByte.indexByte ⟨[.string b, .int .u8 n]⟩).run P w = _ := run_indexByte_string b n w
    refine ⟨_, by rw [run_callFunc_extern hf hname hb hn he, h9]; rfl, ?_⟩
    rw [Lib.firstIdx_eq]
    have h5 := idxQ_eq n.toNat.toUInt8 b.data.toList 0
    rw [u8_mod] at h5
    have h6 : (if Lib.indexByte b.data.toList n.toNat.toUInt8 == -1 then -1 else Lib.indexByte b.data.toList n.toNat.toUInt8 + (0 : Nat)) = Lib.indexByte b.data.toList n.toNat.toUInt8 := by
      split
      · rename_i h; exact (by simpa using h : Lib.indexByte b.data.toList n.toNat.toUInt8 = -1).symm
      · simp
    rw [h6] at h5
    show VR π D (.int .i64 (idxQ (Nat.mod n.toNat 256) b.data.toList 0)) _
    rw [h5]
    exact .int _ _
theorem cntGo {f : FuncId} {fn : Func} (hf : P.funcs[f]? = some fn) (hname : (fn.name == "runtime.NumGoroutine") = false) (hb : fn.body.isNone = true) (hn : Extern.findNext fn = none) (he : Extern.find fn = some Extern.BytealgCount.count) : SpecGo P G f cntS :=
  lookGo fun args σ v σ' hs => by
    obtain ⟨s, x, h1, e1⟩ := andThen2_eq hs
    obtain ⟨l, h2, e2⟩ := andThen_eq e1
    obtain ⟨n, h3, e3⟩ := andThen_eq e2
    cases e3
    refine ⟨rfl, fun π δ D H w args' ha hp => ?_⟩
    obtain rfl := just2_eq h1
    obtain ⟨b, rfl, rfl⟩ := asS_eq h2
    obtain rfl := asU8_eq h3
    obtain ⟨s', r, rfl, g1, g2⟩ := ha.split
    obtain ⟨x', r2, rfl, g3, g4⟩ := g2.split
    rw [g4.empty]
    obtain rfl := g1.string_inv
    obtain rfl := g3.int_inv
    have h9 : (Extern.BytealgCount.count ⟨[.string b, .int .u8 n]⟩).run P w = _ := Lib.run_countString b n w
    refine ⟨_, by rw [run_callFunc_extern hf hname hb hn he, h9]; rfl, ?_⟩
    have h5 := cntQ_eq n.toNat.toUInt8 b.data.toList
    rw [u8_mod] at h5
    show VR π D (.int .i64 (Int.ofNat (cntQ (Nat.mod n.toNat 256) b.data.toList))) _
    rw [h5]
    exact .int _ _
/-- a cell of a block, as the model has it -/
theorem Pre.cell (hp : Pre σ σ' π δ D H w) {k off : Nat} {i : PI} {c : List Value} {u : Value} (hr : σ.row k = some c) (hi : π k = some i) (hu : c[off]? = some u) :
    ∃ u', w.cell? ⟨i.blk, i.sh + off, none⟩ = some u' ∧ VR π D u u' := by
  obtain ⟨B, x, cc, elem, fz, e1, hB, hlen, _, hvs⟩ := hp.cells (off := off) hr (a' := ⟨i.blk, i.sh + off, none⟩) ⟨rfl, .inl ⟨i, hi, rfl, rfl⟩⟩
  have hoff := (List.getElem?_eq_some_iff.1 hu).1
  injection e1 with e1 e2
  have hx : x = i.sh := by omega
  subst hx
  subst e1
  have hlt : i.sh + off < cc.size := by omega
  refine ⟨cc[i.sh + off], ?_, hvs.2 off u _ hu ?_⟩
  · simp only [World.cell?, hB, Option.isSome_none, Bool.false_eq_true, if_false]
    rw [Array.getElem?_eq_getElem hlt]
  · rw [List.getElem?_take, if_pos hoff, List.getElem?_drop, Array.getElem?_toList, Array.getElem?_eq_getElem hlt]
theorem Pre.frozen (hp : Pre σ σ' π δ D H w) {k off : Nat} {i : PI} {c : List Value} {e : Option Nat} {org : Nat} (ho : σ.obj k = some (.cells c e org false false)) (hi : π k = some i) (hoff : off < c.length) : w.frozen? ⟨i.blk, i.sh + off, none⟩ = false := by
  obtain ⟨i', hi', cc, elem, fz, h1, h2, h3, _, _, h6, _⟩ := hp.here ho rfl (.inl ⟨i, hi⟩)
  rw [hi] at hi'; cases hi'
  have := h6 rfl (i.sh + off) (by omega)
  simp only [World.frozen?, h1]
  rw [Bool.eq_false_iff]
  intro h
  simp only [Bool.and_eq_true, decide_eq_true_eq] at h
  exact this h
theorem loadGo {f : FuncId} {fn : Func} (hf : P.funcs[f]? = some fn) (hname : (fn.name == "runtime.NumGoroutine") = false) (hb : fn.body.isNone = true) (hn : Extern.findNext fn = none) (he : Extern.find fn = some (Extern.Atomic.loadT (.int .u32))) : SpecGo P G f loadS :=
  lookGo fun args σ v σ' hs => by
    obtain ⟨x, h1, e1⟩ := andThen_eq hs
    obtain ⟨k, off, h2, e2⟩ := andThen2_eq e1
    obtain ⟨c, h3, e3⟩ := andThen_eq e2
    obtain ⟨u, h4, e4⟩ := andThen_eq e3
    obtain ⟨n, h5, e5⟩ := andThen_eq e4
    cases e5
    refine ⟨rfl, fun π δ D H w args' ha hp => ?_⟩
    obtain rfl := just1_eq h1
    obtain rfl := asPtr_eq h2
    obtain rfl := asU32_eq h5
    obtain ⟨x', r, rfl, g1, g2⟩ := ha.split
    rw [g2.empty]
    obtain ⟨a', rfl, hA⟩ := g1.ptr_inv
    obtain ⟨e, org, ro, ho⟩ := row_eq h3
    obtain ⟨i, hi, _⟩ := hp.here ho rfl hA.known
    obtain rfl := hA.at hi
    rw [nthQ_eq] at h4
    obtain ⟨u', q1, q2⟩ := hp.cell h3 hi h4
    obtain rfl := q2.int_inv
    exact ⟨_, run_call_load hf hname hb hn .u32 he q1, .int _ _⟩

/-! ### cells are written -/
theorem put1_one {cc : Array Value} {x : Nat} {v : Value} (h : x < cc.size) : put1 cc x [v] = cc.setIfInBounds x v := by
  apply Array.ext'
  have hsz : cc.toList.length = cc.size := rfl
  rw [Array.toList_setIfInBounds, List.set_eq_take_append_cons_drop, if_pos (by omega)]
  simp [put1]
theorem setCell_put {B x : Nat} {cc : Array Value} {elem : TypeId} {fz : Nat × Nat} (hB : w.heap[B]? = some (.cells cc elem fz)) (v : Value) : w.setCell ⟨B, x, none⟩ v = putObj w B (.cells (cc.setIfInBounds x v) elem fz) := by
  have hlt := blk_lt hB
  simp only [World.setCell, putObj]
  congr 1
  apply Array.ext_getElem?
  intro j
  rw [Array.getElem?_modify, Array.getElem?_setIfInBounds]
  by_cases hj : B = j
  · subst hj; rw [if_pos rfl, if_pos rfl, if_pos hlt, hB]; rfl
  · rw [if_neg hj, if_neg hj]
theorem post_cell (P : Program) {k off : Nat} {i : PI} {u u' : Value} (hp : Pre σ σ' π δ D H w) (h : σ.setAt k off [u] = some σ') (hi : π k = some i) (hu : VR π D u u') (h1 : oneA u = true) :
    ∃ π' D', Post σ σ' π δ D H w π' D' (w.setCell ⟨i.blk, i.sh + off, none⟩ u') := by
  obtain ⟨c, e, org, ho, hlen, hs⟩ := setAt_eq h
  obtain ⟨i', hi', cc, elem, fz, q1, q2, q3, q4, q5, q6, _⟩ := hp.here ho rfl (.inl ⟨i, hi⟩)
  rw [hi] at hi'; cases hi'
  have hl1 : off + 1 ≤ c.length := hlen
  have ho1 : ∀ v ∈ [u], oneA v = true := fun v hv => by rw [List.mem_singleton.1 hv]; exact h1
  have hvs : VRs π D [u] [u'] := .one hu
  obtain ⟨π', D', w', h2, h3⟩ := post_set (P := P) (a' := ⟨i.blk, i.sh + off, none⟩) hp h ⟨rfl, .inl ⟨i, hi, rfl, rfl⟩⟩ hvs ho1 (oneCells hvs ho1)
  have h4 := run_storeCells (P := P) i.blk elem fz (i.sh + off) [u'] 0 cc w q1 (oneCells hvs ho1) (by show i.sh + off + 0 + 1 ≤ cc.size; omega) (fun y hy1 hy2 => q6 rfl y (by have : y < i.sh + off + 0 + 1 := hy2; omega))
  rw [h2] at h4
  injection h4 with h5 h6
  refine ⟨π', D', ?_⟩
  rw [setCell_put q1, ← put1_one (by omega)]
  rw [h6] at h3
  exact h3
theorem wholeQ_eq {k t : Nat} {c : List Value} (h : wholeQ σ k t = some c) : ∃ e org, σ.obj k = some (.cells c e org false false) ∧ typedQ e = some (2 * t) := by
  obtain ⟨c', e, org, h1, e1⟩ := andThen3_eq h
  obtain ⟨q, h2, e2⟩ := andThen_eq e1
  obtain ⟨h3, e3⟩ := iff_some e2
  cases e3
  obtain ⟨o, g1, g2⟩ := andThen_eq h1
  rw [rowsOf_eq g2] at g1
  rw [beq_iff] at h3
  exact ⟨e, org, g1, by rw [h2, h3]; rfl⟩
/-- a whole variable of a type, as the model has it -/
theorem Pre.whole (hp : Pre σ σ' π δ D H w) {k t off : Nat} {c : List Value} {e : Option Nat} {org : Nat} {a' : Addr} (ho : σ.obj k = some (.cells c e org false false)) (ht : typedQ e = some (2 * t)) (hA : AR π D ⟨k, off, none⟩ a') :
    ∃ i cc fz, π k = some i ∧ i.sh = 0 ∧ a' = ⟨i.blk, off, none⟩ ∧ w.heap[i.blk]? = some (.cells cc t fz) ∧ cc.size = c.length ∧ VRs π D c cc.toList ∧ i.ro = false := by
  obtain ⟨i, hi, cc, elem, fz, q1, q2, q3, q4, q5, q6, q7, q8, q9, q10⟩ := hp.here ho rfl hA.known
  obtain ⟨cc', fz', t1, t2⟩ := hp.rel.typ k i hi _ q9 (by rw [q7]; exact ht)
  rw [q1] at t1; cases t1
  rw [half_two] at q1
  obtain ⟨t3, t4⟩ := t2 (by show Nat.beq (2 * t % 2) 1 = false; rw [show 2 * t % 2 = 0 by omega]; rfl)
  have hsz : cc.size = c.length := by omega
  have hl : cc.toList.length = cc.size := rfl
  refine ⟨i, cc, fz, hi, t3, ?_, q1, hsz, ?_, q9⟩
  · rw [hA.at hi, t3, Nat.zero_add]
  · rw [t3, List.drop_zero, List.take_of_length_le (by omega)] at q5
    exact q5
theorem isSelf_eq {k : Nat} {v : Value} (h : isSelf k v = true) : v = .pointer (some ⟨k, 0, none⟩) := by
  unfold isSelf at h
  split at h
  · rw [beq_iff] at h; rw [h]
  · cases h
theorem isNil0_eq {v : Value} (h : isNil0 v = true) : v = .pointer none := by
  unfold isNil0 at h
  split at h
  · rfl
  · cases h
theorem noBytes_eq {v : Value} (h : noBytes v = true) : v = .slice none 0 0 := by
  unfold noBytes at h
  split at h
  · rfl
  · cases h
/-- **a builder's copy check** -/
theorem copy_spec {f t : Nat} (he : Enters P f)
    (hf : ∀ b w, w.cell? ⟨b, 0, none⟩ = some (.pointer none) → w.shape? b = some (t, 2) → w.frozen? ⟨b, 0, none⟩ = false → Calls P f #[.pointer (some ⟨b, 0, none⟩)] w fun e w' => e = .returned (.tuple #[]) ∧ w' = w.setCell ⟨b, 0, none⟩ (.pointer (some ⟨b, 0, none⟩)))
    (hu : ∀ b w, w.cell? ⟨b, 0, none⟩ = some (.pointer (some ⟨b, 0, none⟩)) → Calls P f #[.pointer (some ⟨b, 0, none⟩)] w fun e w' => e = .returned (.tuple #[]) ∧ w' = w) : SpecSim P G f (copyS t) := by
  have inv : ∀ {args σ v σ'}, copyS t args σ = some (v, σ') → ∃ k u y e org, args = [.pointer (some ⟨k, 0, none⟩)] ∧ σ.obj k = some (.cells [u, y] e org false false) ∧ typedQ e = some (2 * t) ∧ v = .tuple #[] ∧
      ((u = .pointer (some ⟨k, 0, none⟩) ∧ σ' = σ) ∨ (u = .pointer none ∧ σ.setAt k 0 [.pointer (some ⟨k, 0, none⟩)] = some σ')) := fun {args σ v σ'} hs => by
    obtain ⟨x, h1, e1⟩ := andThen_eq hs
    obtain ⟨k, off, h2, e2⟩ := andThen2_eq e1
    obtain ⟨c, h3, e3⟩ := andThen_eq e2
    obtain ⟨u, y, h4, e4⟩ := andThen2_eq e3
    obtain ⟨h5, e5⟩ := iff_some e4
    rw [Tr.isZ_iff] at h5
    subst h5
    obtain rfl := just2_eq h4
    obtain ⟨e, org, g1, g2⟩ := wholeQ_eq h3
    rw [just1_eq h1, asPtr_eq h2]
    rw [iff_eq] at e5
    split at e5
    · rename_i h6
      cases e5
      exact ⟨k, u, y, e, org, rfl, g1, g2, rfl, .inl ⟨isSelf_eq h6, rfl⟩⟩
    · obtain ⟨h6, e6⟩ := iff_some e5
      obtain ⟨σ1, h7, e7⟩ := andThen_eq e6
      cases e7
      exact ⟨k, u, y, e, org, rfl, g1, g2, rfl, .inr ⟨isNil0_eq h6, h7⟩⟩
  refine ⟨fun args σ v σ' hs => ?_, fun args σ v σ' hs => ⟨he, fun _ π δ D H w args' _ ha hp => ?_⟩⟩
  · obtain ⟨_, _, _, _, _, _, _, _, _, h | h⟩ := inv hs
    · rw [h.2]; exact .refl _
    · exact mono_setAt h.2
  · obtain ⟨k, u, y, e, org, rfl, ho, ht, rfl, hw⟩ := inv hs
    obtain ⟨x', r, rfl, g1, g2⟩ := ha.split
    rw [g2.empty]
    obtain ⟨a', rfl, hA⟩ := g1.ptr_inv
    obtain ⟨i, cc, fz, hi, hsh, rfl, hB, hsz, hvs, hro⟩ := hp.whole ho ht hA
    have hrow : σ.row k = some [u, y] := by unfold ASt.row; rw [ho]; rfl
    obtain ⟨u', q1, q2⟩ := hp.cell (off := 0) hrow hi rfl
    rw [hsh] at q1
    rcases hw with ⟨rfl, rfl⟩ | ⟨rfl, hset⟩
    · obtain ⟨a2, rfl, hA2⟩ := q2.ptr_inv
      have h2 := hA2.at hi
      rw [hsh] at h2
      subst h2
      refine (hu i.blk w q1).mono fun e w' ⟨h3, h4⟩ => ?_
      subst h4
      exact ⟨_, π, D, h3, .tuple rfl rfl VRs.nil.2, .refl hp⟩
    · obtain rfl := q2.ptr_none
      have hfr := hp.frozen (off := 0) ho hi (show 0 < 2 by decide)
      rw [hsh] at hfr
      refine (hf i.blk w q1 (by rw [shape_of hB, hsz]; rfl) hfr).mono fun e w' ⟨h3, h4⟩ => ?_
      subst h4
      obtain ⟨π', D', h5⟩ := post_cell P (u' := .pointer (some ⟨i.blk, 0, none⟩)) hp hset hi (.ptr rfl ⟨rfl, .inl ⟨i, hi, rfl, by show 0 = i.sh + 0; omega⟩⟩) rfl
      rw [hsh] at h5
      exact ⟨_, π', D', h3, .tuple rfl rfl VRs.nil.2, h5⟩
/-- worlds that are alike but for draws -/
theorem Post.alike {π' : PMap} {D' : Nat → Prop} {w1 w2 : World} (h : Post σ σ' π δ D H w π' D' w1) (hh : w2.heap = w1.heap) (ho : w2.os = w1.os) (ht : w2.tape = w1.tape) (hu : w2.output = w1.output) : Post σ σ' π δ D H w π' D' w2 :=
  h.world (fun k i _ => by rw [hh]) (fun B cc _ => by rw [hh]) (fun B _ => by rw [hh]) (by rw [hh]) ho ht hu
/-- **a builder without bytes gets room** -/
theorem grow_spec {f t e0 : Nat} (he : Enters P f)
    (hf : ∀ b n w fz, w.heap[b]? = some (.cells #[.pointer (some ⟨b, 0, none⟩), .slice none 0 0] t fz) → w.frozen? ⟨b, 1, none⟩ = false → n ≤ 281474976710656 →
      Calls P f #[.pointer (some ⟨b, 0, none⟩), .int .i64 (n : Nat)] w fun e w' => e = .returned (.tuple #[]) ∧ ∃ cs : Array Value, w'.heap = ((w.alloc (.cells cs e0)).setCell ⟨b, 1, none⟩ (.slice (some ⟨w.heap.size, 0, none⟩) 0 cs.size)).heap ∧ w'.os = w.os ∧ w'.tape = w.tape ∧ w'.output = w.output) : SpecSim P G f (growS t e0) := by
  have inv : ∀ {args σ v σ'}, growS t e0 args σ = some (v, σ') → ∃ k e org, ∃ n : Nat, args = [.pointer (some ⟨k, 0, none⟩), .int .i64 n] ∧ n ≤ 100000000 ∧ σ.obj k = some (.cells [.pointer (some ⟨k, 0, none⟩), .slice none 0 0] e org false false) ∧ typedQ e = some (2 * t) ∧ v = .tuple #[] ∧
      (σ.new (.cells [] (some (rowC e0)) σ.next false false)).setAt k 1 [.slice (some ⟨σ.next, 0, some 1⟩) 0 0] = some σ' := fun {args σ v σ'} hs => by
    obtain ⟨x, y, h1, e1⟩ := andThen2_eq hs
    obtain ⟨k, off, h2, e2⟩ := andThen2_eq e1
    obtain ⟨kd, n, h3, e3⟩ := andThen2_eq e2
    obtain ⟨m, h4, e4⟩ := andThen_eq e3
    obtain ⟨c, h5, e5⟩ := andThen_eq e4
    obtain ⟨u, z, h6, e6⟩ := andThen2_eq e5
    obtain ⟨h7, e7⟩ := iff_some e6
    obtain ⟨σ1, h8, e8⟩ := andThen_eq e7
    cases e8
    simp only [Bool.and_eq_true, Tr.isZ_iff] at h7
    obtain ⟨⟨g1, rfl⟩, g2, g3⟩ := h7
    obtain rfl := (sameKind_iff _ _).1 g1
    obtain rfl := just2_eq h6
    obtain ⟨e, org, q1, q2⟩ := wholeQ_eq h5
    rw [isSelf_eq g2, noBytes_eq g3] at q1
    obtain ⟨h9, h10, rfl⟩ := upTo_eq h4
    refine ⟨k, e, org, n.toNat, ?_, by omega, q1, q2, rfl, h8⟩
    rw [just2_eq h1, asPtr_eq h2, asI_eq h3, Int.toNat_of_nonneg h9]
  refine ⟨fun args σ v σ' hs => ?_, fun args σ v σ' hs => ⟨he, fun _ π δ D H w args' _ ha hp => ?_⟩⟩
  · obtain ⟨_, _, _, _, _, _, _, _, _, h⟩ := inv hs
    exact (mono_new _ _).trans (mono_setAt h)
  · obtain ⟨k, e, org, n, rfl, hn, ho, ht, rfl, hset⟩ := inv hs
    obtain ⟨x', r, rfl, g1, g2⟩ := ha.split
    obtain ⟨y', r2, rfl, g3, g4⟩ := g2.split
    rw [g4.empty]
    obtain rfl := g3.int_inv
    obtain ⟨a', rfl, hA⟩ := g1.ptr_inv
    obtain ⟨i, cc, fz, hi, hsh, rfl, hB, hsz, hvs, hro⟩ := hp.whole ho ht hA
    have hrow : σ.row k = some [.pointer (some ⟨k, 0, none⟩), .slice none 0 0] := by unfold ASt.row; rw [ho]; rfl
    obtain ⟨u', q1, q2⟩ := hp.cell (off := 0) hrow hi rfl
    obtain ⟨z', q3, q4⟩ := hp.cell (off := 1) hrow hi rfl
    have hfr := hp.frozen (off := 1) ho hi (show 1 < 2 by decide)
    rw [hsh] at q1 q3 hfr
    obtain ⟨a2, rfl, hA2⟩ := q2.ptr_inv
    have h2 := hA2.at hi
    rw [hsh] at h2
    subst h2
    have hz : z' = .slice none 0 0 := by cases q4; rfl
    subst hz
    have hcc : cc = #[.pointer (some ⟨i.blk, 0, none⟩), .slice none 0 0] := by
      simp only [World.cell?, hB, Option.isSome_none, Bool.false_eq_true, if_false, Nat.zero_add] at q1 q3
      apply Array.ext_getElem?
      intro j
      match j with
      | 0 => exact q1
      | 1 => exact q3
      | j + 2 => rw [Array.getElem?_eq_none (by rw [hsz]; show 2 ≤ j + 2; omega), Array.getElem?_eq_none (by show 2 ≤ j + 2; omega)]
    rw [hcc] at hB
    refine (hf i.blk n w fz hB hfr (by omega)).mono fun e w' ⟨h3, cs, h4, h5, h6, h7⟩ => ?_
    have m1 := mono_new σ (.cells [] (some (rowC e0)) σ.next false false)
    have m2 := mono_setAt hset
    have p1 := hp.first m1 m2
    obtain ⟨π1, r1, r2⟩ := post_room (need := 0) (cap := cs.size) (z := 1) (y := rowC e0) (cs' := []) (rest := cs.toList) (elem := e0) (cc := cs) (0, 0) (fun y _ h => by simp only at h; omega) p1 VRs.nil (fun v hv => by cases hv) rfl (Nat.mul_one _).symm (Nat.zero_le _) (Nat.le_refl _) (.inl rfl) (.row e0)
    have p2 := hp.second r1 m2
    have hi1 : π1 k = some i := by
      rcases r1.kept k i hi with h8 | ⟨_, h8, _⟩
      · exact h8
      · exfalso
        rcases hp.dead k h8 with ⟨o, h9, h10⟩ | h9
        · rw [ho] at h9; cases h9; cases h10
        · have := obj_lt hp.wf ho
          have := m1.next
          have := m2.next
          omega
    obtain ⟨π2, D2, r3⟩ := post_cell P p2 hset hi1 r2 rfl
    rw [hsh] at r3
    exact ⟨_, π2, D2, h3, .tuple rfl rfl VRs.nil.2, (Post.trans hp r1 r3).alike h4 h5 h6 h7⟩
theorem cellIs_eq {f : Value → Bool} {k off : Nat} (h : cellIs f σ k off = true) : ∃ c u, σ.row k = some c ∧ c[off]? = some u ∧ f u = true := by
  unfold cellIs at h
  cases hc : andThen (σ.row k) fun c => nthQ off c with
  | none => rw [hc] at h; cases h
  | some u =>
    rw [hc] at h
    obtain ⟨c, h1, h2⟩ := andThen_eq hc
    rw [nthQ_eq] at h2
    exact ⟨c, u, h1, h2, h⟩
theorem isU32z_eq {v : Value} (h : isU32z v = true) : v = .int .u32 0 := by
  unfold isU32z at h
  split at h
  · rfl
  · cases h
theorem isI32z_eq {v : Value} (h : isI32z v = true) : v = .int .i32 0 := by
  unfold isI32z at h
  split at h
  · rfl
  · cases h
theorem isI32o_eq {v : Value} (h : isI32o v = true) : v = .int .i32 1 := by
  unfold isI32o at h
  split at h
  · rfl
  · cases h
theorem isUnit_eq {v : Value} (h : isUnit v = true) : v = .tuple ⟨[]⟩ := by
  unfold isUnit at h
  split at h
  · rfl
  · cases h
theorem isBound_eq {g k off : Nat} {v : Value} (h : isBound g k off v = true) : v = .func (.func g) ⟨[.pointer (some ⟨k, off, none⟩)]⟩ ⟨[]⟩ := by
  unfold isBound at h
  split at h
  · rw [Bool.and_eq_true, Bool.and_eq_true, beq_iff, beq_iff, beq_iff] at h
    obtain ⟨rfl, rfl, rfl⟩ := h
    rfl
  · cases h
theorem unit_inv {v' : Value} (h : VR π D (.tuple ⟨[]⟩) v') : v' = .tuple #[] := by
  cases h with
  | @tuple c c' _ hc _ =>
    obtain rfl : c' = [] := List.eq_nil_of_length_eq_zero hc.symm
    rfl
/-- what is known behind the function -/
def Held1 (b off : Nat) (w : World) : Prop := (∃ x, w.cell? ⟨b, off, none⟩ = some x) ∧ w.cell? ⟨b, off + 1, none⟩ = some (.int .i32 1) ∧ w.frozen? ⟨b, off, none⟩ = false ∧ w.frozen? ⟨b, off + 1, none⟩ = false
theorem setAt_obj {k off : Nat} {vs : List Value} (h : σ.setAt k off vs = some σ') : ∃ c e org, σ.obj k = some (.cells c e org false false) ∧ off + vs.length ≤ c.length ∧ ∃ c', σ'.obj k = some (.cells c' e org false false) ∧ c'.length = c.length := by
  obtain ⟨c, e, org, ho, hl, rfl⟩ := setAt_eq h
  refine ⟨c, e, org, ho, hl, c.take off ++ vs ++ c.drop (off + vs.length), ?_, by simp; omega⟩
  show (σ.heap.set k _).get k = _
  rw [Tr.get_set, if_pos rfl]
/-- a block that is there still lies where it lay -/
theorem Post.lies {π' : PMap} {D' : Nat → Prop} {w' : World} {σ2 : ASt} {k : Nat} {i : PI} {o : AObj} (h : Post σ σ' π δ D H w π' D' w') (hp : Pre σ' σ2 π' (grow σ σ' δ) D' H w') (hi : π k = some i) (ho : σ'.obj k = some o) (ha : isDead o = false) : π' k = some i := by
  rcases h.kept k i hi with h1 | ⟨h1, h2, _⟩
  · exact h1
  · obtain ⟨i', h3, _⟩ := hp.here ho ha (.inr ⟨h1, h2⟩)
    rw [h1] at h3; cases h3
/-- **a function is called once** -/
theorem once_spec {f g : Nat} {call : CallF} (hcs : CallSim P G call) (hcm : MonoF call) (he : Enters P f) (hg : Enters P g)
    (hslow : ∀ (b off : Nat) (w : World) (R : World → Prop), w.cell? ⟨b, off, none⟩ = some (.int .u32 0) → w.cell? ⟨b, off + 1, none⟩ = some (.int .i32 0) → w.frozen? ⟨b, off, none⟩ = false → w.frozen? ⟨b, off + 1, none⟩ = false → (∀ w1, R w1 → Held1 b off w1) →
      (Calls P g #[.pointer (some ⟨b, off, none⟩)] (w.setCell ⟨b, off + 1, none⟩ (.int .i32 1)) fun e w1 => e = .returned (.tuple #[]) ∧ R w1) →
      Calls P f #[.pointer (some ⟨b, off, none⟩), .func (.func g) #[.pointer (some ⟨b, off, none⟩)] #[]] w fun e w' => e = .returned (.tuple #[]) ∧ ∃ w1, R w1 ∧ w' = (w1.drew.setCell ⟨b, off, none⟩ (.int .u32 1)).setCell ⟨b, off + 1, none⟩ (.int .i32 0)) :
    SpecSim P G f (onceS g call) := by
  have inv : ∀ {args σ v σ'}, onceS g call args σ = some (v, σ') → ∃ k off σ1 σ2 σ3, args = [.pointer (some ⟨k, off, none⟩), .func (.func g) ⟨[.pointer (some ⟨k, off, none⟩)]⟩ ⟨[]⟩] ∧ cellIs isU32z σ k off = true ∧ cellIs isI32z σ k (off + 1) = true ∧
      σ.setAt k (off + 1) [.int .i32 1] = some σ1 ∧ call g [.pointer (some ⟨k, off, none⟩)] σ1 = some (.tuple ⟨[]⟩, σ2) ∧ cellIs isI32o σ2 k (off + 1) = true ∧ σ2.setAt k off [.int .u32 1] = some σ3 ∧ σ3.setAt k (off + 1) [.int .i32 0] = some σ' ∧ v = .tuple #[] := fun {args σ v σ'} hs => by
    obtain ⟨x, y, h1, e1⟩ := andThen2_eq hs
    obtain ⟨k, off, h2, e2⟩ := andThen2_eq e1
    obtain ⟨h3, e3⟩ := iff_some e2
    obtain ⟨σ1, h4, e4⟩ := andThen_eq e3
    obtain ⟨u, σ2, h5, e5⟩ := andThen2_eq e4
    obtain ⟨h6, e6⟩ := iff_some e5
    obtain ⟨σ3, h7, e7⟩ := andThen_eq e6
    obtain ⟨σ4, h8, e8⟩ := andThen_eq e7
    cases e8
    simp only [Bool.and_eq_true] at h3 h6
    obtain ⟨g1, g2, g3⟩ := h3
    obtain ⟨g4, g5⟩ := h6
    rw [asPtr_eq h2] at h5
    rw [isUnit_eq g4] at h5
    refine ⟨k, off, σ1, σ2, σ3, ?_, g2, g3, h4, h5, g5, h7, h8, rfl⟩
    rw [just2_eq h1, asPtr_eq h2, isBound_eq g1]
  refine ⟨fun args σ v σ' hs => ?_, fun args σ v σ' hs => ⟨he, fun hlow π δ D H w args' hgl ha hp => ?_⟩⟩
  · obtain ⟨k, off, σ1, σ2, σ3, _, _, _, h1, h2, _, h3, h4, _⟩ := inv hs
    exact (mono_setAt h1).trans ((hcm _ _ _ _ _ h2).trans ((mono_setAt h3).trans (mono_setAt h4)))
  · obtain ⟨k, off, σ1, σ2, σ3, rfl, c0, c1, h1, h2, c2, h3, h4, rfl⟩ := inv hs
    have m1 := mono_setAt h1
    have m2 := hcm _ _ _ _ _ h2
    have m3 := mono_setAt h3
    have m4 := mono_setAt h4
    obtain ⟨x', r, rfl, g1, g2⟩ := ha.split
    obtain ⟨y', r2, rfl, g3, g4⟩ := g2.split
    rw [g4.empty]
    obtain ⟨a', rfl, hA⟩ := g1.ptr_inv
    obtain ⟨cc0, e0, org0, ho0, hl0, cc1, ho1, hl1⟩ := setAt_obj h1
    obtain ⟨i, hi, _⟩ := hp.here ho0 rfl hA.known
    obtain rfl := hA.at hi
    obtain ⟨fs, cs, rfl, q1, q2⟩ := g3.func_inv
    obtain ⟨z', l, q3, q4, q5⟩ := q1.split
    rw [q5.empty] at q3
    obtain rfl : fs = #[z'] := by cases fs; cases q3; rfl
    obtain rfl : cs = #[] := Array.ext' q2.empty
    obtain ⟨a2, rfl, hA2⟩ := q4.ptr_inv
    obtain rfl := hA2.at hi
    have hrow0 : σ.row k = some cc0 := by unfold ASt.row; rw [ho0]; rfl
    have hlen : off + 2 ≤ cc0.length := hl0
    obtain ⟨c0', u0, t1, t2, t3⟩ := cellIs_eq c0
    rw [hrow0] at t1; cases t1
    obtain ⟨c1', u1, t4, t5, t6⟩ := cellIs_eq c1
    rw [hrow0] at t4; cases t4
    rw [isU32z_eq t3] at t2
    rw [isI32z_eq t6] at t5
    obtain ⟨v0, d1, d2⟩ := hp.cell hrow0 hi t2
    obtain ⟨v1, d3, d4⟩ := hp.cell hrow0 hi t5
    obtain rfl := d2.int_inv
    obtain rfl := d4.int_inv
    have f0 := hp.frozen (off := off) ho0 hi (by omega)
    have f1 := hp.frozen (off := off + 1) ho0 hi (by omega)
    have p1 := hp.first m1 (m2.trans (m3.trans m4))
    obtain ⟨π1, D1, r1⟩ := post_cell P p1 h1 hi (.int .i32 1) rfl
    have p2 := hp.second r1 (m2.trans (m3.trans m4))
    have p2' := p2.first m2 (m3.trans m4)
    have hi1 : π1 k = some i := r1.lies p2 hi ho1 rfl
    have hstep := r1.pstep p1
    have hlow1 : σ1.low ≤ σ1.next := by
      obtain ⟨_, _, _, _, _, rfl⟩ := setAt_eq h1
      exact Nat.le_trans (Nat.min_le_right _ _) hlow
    have hcall := (hcs _ _ _ _ _ h2 hlow1 π1 (grow σ σ1 δ) D1 H _ [.pointer (some ⟨i.blk, i.sh + off, none⟩)] (hgl.mono hstep) (.one (.ptr rfl ⟨rfl, .inl ⟨i, hi1, rfl, rfl⟩⟩)) p2').calls hg
    refine (hslow i.blk (i.sh + off) w (fun w1 => ∃ π2 D2, Post σ1 σ2 π1 (grow σ σ1 δ) D1 H (w.setCell ⟨i.blk, i.sh + (off + 1), none⟩ (.int .i32 1)) π2 D2 w1) d1 d3 f0 f1 ?_ (hcall.mono fun e w1 ⟨v', π2, D2, h5, h6, h7⟩ => ⟨by rw [h5, unit_inv h6], π2, D2, h7⟩)).mono ?_
    · rintro w1 ⟨π2, D2, r2⟩
      have p3 := p2.second r2 (m3.trans m4)
      obtain ⟨cc2, e2, org2, ho2, hl2, _⟩ := setAt_obj h3
      have hi2 : π2 k = some i := r2.lies p3 hi1 ho2 rfl
      have hrow2 : σ2.row k = some cc2 := by unfold ASt.row; rw [ho2]; rfl
      obtain ⟨c2', u2, t7, t8, t9⟩ := cellIs_eq c2
      rw [hrow2] at t7; cases t7
      rw [isI32o_eq t9] at t8
      have hlt := (List.getElem?_eq_some_iff.1 t8).1
      obtain ⟨w0', d5, _⟩ := p3.cell (off := off) hrow2 hi2 (List.getElem?_eq_getElem (by omega))
      obtain ⟨w1', d6, d7⟩ := p3.cell hrow2 hi2 t8
      obtain rfl := d7.int_inv
      exact ⟨⟨_, d5⟩, d6, p3.frozen ho2 hi2 (by omega), p3.frozen ho2 hi2 (by omega)⟩
    · rintro e w' ⟨rfl, w1, ⟨π2, D2, r2⟩, rfl⟩
      have p3 := p2.second r2 (m3.trans m4)
      obtain ⟨cc2, e2, org2, ho2, hl2, cc3, ho3, _⟩ := setAt_obj h3
      have hi2 : π2 k = some i := r2.lies p3 hi1 ho2 rfl
      have p3d := p3.drew
      obtain ⟨π3, D3, r3⟩ := post_cell P (p3d.first m3 m4) h3 hi2 (.int .u32 1) rfl
      have p4 := p3d.second r3 m4
      have hi3 : π3 k = some i := r3.lies p4 hi2 ho3 rfl
      obtain ⟨π4, D4, r4⟩ := post_cell P p4 h4 hi3 (.int .i32 0) rfl
      exact ⟨_, π4, D4, rfl, .tuple rfl rfl VRs.nil.2, Post.trans hp r1 (Post.trans p2 r2 (Post.trans p3 r3.drew r4))⟩
theorem cmpGo {f : FuncId} {fn : Func} (hf : P.funcs[f]? = some fn) (hname : (fn.name == "runtime.NumGoroutine") = false) (hb : fn.body.isNone = true) (hn : Extern.findNext fn = none) (he : Extern.find fn = some Extern.BytealgCompare.compare) : SpecGo P G f cmpF :=
  lookGo fun args σ v σ' hs => by
    obtain ⟨a, b, h1, h2⟩ := andThen2_eq hs
    obtain ⟨la, h3, h4⟩ := andThen_eq h2
    obtain ⟨lb, h5, h6⟩ := andThen_eq h4
    cases h6
    obtain rfl := g2_eq h1
    refine ⟨rfl, fun π δ D H w args' ha hp => ?_⟩
    obtain ⟨a', r, rfl, ha1, ha2⟩ := ha.split
    obtain ⟨b', r2, rfl, hb1, hb2⟩ := ha2.split
    rw [hb2.empty]
    have g1 := sim_bytes (P := P) hp h3 ha1
    have g2 := sim_bytes (P := P) hp h5 hb1
    have hrun : (Extern.BytealgCompare.compare ⟨[a', b']⟩).run P w = .ok (.int .i64 (Lib.compareBytes la lb)) w := by
      change Sem.run P (do pure (goInt (Extern.BytealgCompare.cmp (← Extern.Bytes.bytesOf a') (← Extern.Bytes.bytesOf b')))) w = _
      simp only [Sem.run_bind, g1, g2, Result.andThen, Sem.run_pure]
      rw [Lib.cmp_eq]
      rfl
    refine ⟨_, by rw [run_callFunc_extern hf hname hb hn he, hrun]; rfl, ?_⟩
    rw [cmpQ_eq]
    exact .int .i64 _
/-- what some globals hold -/
def GlobsAre (w : World) (gs : List (Nat × List Value)) : Prop := ∀ g c, lookG gs g = some c → ∃ cc elem fz, w.heap[g]? = some (.cells cc elem fz) ∧ (∀ π, VRs π No c (cc.toList.take c.length)) ∧ ∀ v ∈ c, oneA v = true
/-- **a law without arguments whose run tells true** -/
theorem abs_trueG {sp : CallF → CallF} {ks : List Known} {lf : Nat} {f : FuncId} (hen : Enters P f) (hT : TyOk P T) (hF : FnsOk P T G) (hsp : ExtOk P G sp) (hks : ∀ k ∈ ks, KnownOk P G k) {m : Nat} {gs : List (Nat × List Value)} {n : Nat}
    (hgs : GlobsAre w gs) (hn : ∀ g c, lookG gs g = some c → g < n) (hG : ∀ g, G g = true → (lookG gs g).isSome = true) (h : tellsM (callS sp ks T lf m f [] (start gs n [])) = true) :
    Calls P f ⟨[]⟩ w fun e w' => e = .returned (.bool true) ∧ Below w.heap.size w w' := by
  obtain ⟨σ', h⟩ := tellsM_eq h
  obtain ⟨π, hag, hpre, hro, hgl, _⟩ := start_okW (w := w) (gs := gs) (n := n) (bs := []) (f := fun _ => none) hn (fun π _ => ⟨fun i c hi => by simp at hi, fun g c hg => by
    obtain ⟨cc, elem, fz, h1, h2, h3⟩ := hgs g c hg
    exact ⟨cc, elem, fz, h1, h2 π, h3⟩⟩)
  obtain ⟨hsims, hmonos⟩ := callS_ok (lf := lf) hT hF hsp hks m
  have hmono := hmonos f [] _ _ _ h
  have hsim := fun hl π δ D H w args' hg ha hp => (hsims f [] _ _ _ h hl π δ D H w args' hg ha hp).calls hen
  have := hsim (Nat.le_refl _) π No No (fun _ => none) w [] (fun g hg => by
    have := hG g hg
    cases hl : lookG gs g with
    | none => rw [hl] at this; cases this
    | some c => exact hgl g c hl) VRs.nil (hpre σ' hmono.next)
  refine this.mono fun e w' ⟨v', π', D', he, hv, hpo⟩ => ?_
  rw [hv.bool_inv] at he
  exact ⟨he, hpo.fr.os, hpo.fr.tape, hpo.fr.output, hpo.fr.size, fun B hB => hpo.fr.keep B hB fun k i hk hro2 => by rw [hro k i hk] at hro2; cases hro2⟩
end
end Go.Abs
