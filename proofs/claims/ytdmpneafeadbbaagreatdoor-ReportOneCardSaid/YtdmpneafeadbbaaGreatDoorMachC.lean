/- The abstract machine, one part: see its own sections. Conditions: none. -/
import Derived.Test.YtdmpneafeadbbaaGreatDoorMachB
namespace Go.Abs
open Go.RowKit
structure Rep (S : Nat → Bool) (A : PMap) (w₀ : World) (σ : ASt) (π : PMap) (D : Nat → Prop) (w : World) : Prop where
  rel : Rel π (deadIn σ) D (ext σ fun _ => none) w
  wf : WF σ
  low : σ.low ≤ σ.next
  dom : ∀ k i, π k = some i → k < σ.next
  dead : ∀ k, D k → deadIn σ k
  own : ∀ k i, π k = some i → i.ro = false → w₀.heap.size ≤ i.blk
  old : Below w₀.heap.size w₀ w
  anc : ∀ k, S k = true → π k = A k ∧ ∃ c e, σ.obj k = some (.cells c e k true false)
  fra : ∀ B cc, A.fr B = some cc → π.fr B = some cc
  frn : ∀ B cc, π.fr B = some cc → A.fr B = some cc ∨ w₀.heap.size ≤ B
theorem Rep.pre {S : Nat → Bool} {A : PMap} {w₀ : World} {σ σ' : ASt} {π : PMap} {D : Nat → Prop} {w : World} (h : Rep S A w₀ σ π D w) (hn : σ.next ≤ σ'.next) : Pre σ σ' π (deadIn σ) D (fun _ => none) w :=
  ⟨h.rel, h.wf, hn, fun k hk _ => by
    cases hp : π k with
    | none => rfl
    | some i => have := h.dom k i hp; omega, fun k hk => .inl (deadIn_lt h.wf hk), fun k i hd _ => .inr ⟨deadIn_lt h.wf hd, .inl hd⟩, fun k i hk h1 => by have := h.dom k i hk; omega, fun k hk => .inl (h.dead k hk)⟩
theorem Rep.post {S : Nat → Bool} {A : PMap} {w₀ : World} {σ σ' : ASt} {π π' : PMap} {D D' : Nat → Prop} {w w' : World} (h : Rep S A w₀ σ π D w) (p : Post σ σ' π (deadIn σ) D (fun _ => none) w π' D' w') : Rep S A w₀ σ' π' D' w' := by
  have hwf := p.mono.wf h.wf
  refine ⟨p.rel.weaken fun k hk => ?_, hwf, Nat.le_trans p.mono.low (Nat.le_trans h.low p.mono.next), fun k i hk => ?_, fun k hk => ?_, fun k i hk hr => ?_, ?_, fun k hk => ?_, fun B cc hf => p.frs.1 B cc (h.fra B cc hf), fun B cc hf => ?_⟩
  · rcases hk with hk | hk
    · exact p.mono.dead h.wf hk
    · exact hk.1
  · rcases p.sub k i hk with h1 | h1
    · exact Nat.lt_of_lt_of_le (h.dom k i h1) p.mono.next
    · exact h1.2.2
  · rcases p.dnew k hk with h1 | h1
    · exact p.mono.dead h.wf (h.dead k h1)
    · exact h1.1
  · rcases p.blk k i hk hr with ⟨k₀, i₀, h1, h2, h3⟩ | h1
    · rw [← h3]; exact h.own k₀ i₀ h1 h2
    · exact Nat.le_trans h.old.size h1
  · refine h.old.trans ⟨p.fr.os, p.fr.tape, p.fr.output, p.fr.size, fun B hB => p.fr.keep B (Nat.lt_of_lt_of_le hB h.old.size) fun k i hk hr hb => ?_⟩
    have := h.own k i hk hr
    omega
  · obtain ⟨h1, c, e, h2⟩ := h.anc k hk
    have hlt : k < σ.next := by
      rcases Nat.lt_or_ge k σ.next with h3 | h3
      · exact h3
      · rw [h.wf k h3] at h2; cases h2
    have hs := p.mono.step k hlt
    rw [h2] at hs
    generalize ho : σ'.obj k = o' at hs
    cases hs with
    | cells hl hd hr hlow hk2 =>
      obtain ⟨rfl, rfl⟩ := hr rfl
      refine ⟨?_, _, _, rfl⟩
      rw [← h1]
      cases hπ : π k with
      | some i =>
        rcases p.kept k i hπ with h4 | ⟨_, h4, _⟩
        · exact h4
        · exfalso
          rcases p.dnew k h4 with h5 | ⟨⟨o, h5, h6⟩, _⟩
          · obtain ⟨o, h5, h6⟩ := h.dead k h5
            rw [h2] at h5; cases h5; cases h6
          · rw [ho] at h5; cases h5; cases h6
      | none =>
        cases hπ' : π' k with
        | none => rfl
        | some i =>
          rcases p.sub k i hπ' with h4 | ⟨_, h4, _⟩
          · rw [hπ] at h4; cases h4
          · omega
    | other h3 h0 _ => simp [kindOf] at h0
  · rcases p.frs.2 B cc hf with h1 | h1
    · exact h.frn B cc h1
    · exact .inr (Nat.le_trans h.old.size h1)
def norm (σ : ASt) : ASt := ⟨σ.heap, σ.next, σ.next, σ.next⟩
theorem Rep.norm_ {S : Nat → Bool} {A : PMap} {w₀ : World} {σ : ASt} {π : PMap} {D : Nat → Prop} {w : World} (h : Rep S A w₀ σ π D w) : Rep S A w₀ (norm σ) π D w := ⟨h.rel, h.wf, Nat.le_refl _, h.dom, h.dead, h.own, h.old, h.anc, h.fra, h.frn⟩
def TriC (P : Program) (G : Globs) (S : Nat → Bool) (N : Nat) (c : Code) (e : Env) (σ : ASt) (Q : AEx → Env → ASt → Prop) : Prop :=
  ∀ (A : PMap) (w₀ : World) (π : PMap) (D : Nat → Prop) (w : World) (a : Act) (M : Exit → Act → World → Prop), Rep S A w₀ σ π D w → EnvR N π D e a → GlobR G π D →
    (∀ x e' σ' π' D' w' a', Q x e' σ' → Rep S A w₀ σ' π' D' w' → EnvR N π' D' e' a' → GlobR G π' D' → M (exitOf x) a' w') → c.wp P M a w
section
variable {P : Program} {G : Globs} {S : Nat → Bool} {N : Nat} {T : Tab} {call : CallF} {lf : Nat} {e : Env} {σ : ASt} {Q : AEx → Env → ASt → Prop}
theorem TriC.mono {c : Code} {Q' : AEx → Env → ASt → Prop} (h : TriC P G S N c e σ Q) (hq : ∀ x e σ, Q x e σ → Q' x e σ) : TriC P G S N c e σ Q' :=
  fun A w₀ π D w a M hr he hg hm => h A w₀ π D w a M hr he hg fun x e' σ' π' D' w' a' hx => hm x e' σ' π' D' w' a' (hq _ _ _ hx)
theorem tri_run {c : Code} {run : Env → ASt → Out} (hs : CodeSim P G N c run) (hm : ∀ e σ x e' σ', run e σ = some (x, e', σ') → Mono σ σ') {x : AEx} {e' : Env} {σ' : ASt} (h : run e σ = some (x, e', σ')) (hq : Q x e' σ') : TriC P G S N c e σ Q :=
  fun _A _w₀ π D w a _M hr he hg hM => hs e σ x e' σ' h hr.low π (deadIn σ) D (fun _ => none) w a (hr.pre (hm _ _ _ _ _ h).next) he hg _ fun π' D' w' a' he' hpo =>
    hM x e' σ' π' D' w' a' hq (hr.post hpo) he' (hg.mono (hpo.pstep (hr.pre (hm _ _ _ _ _ h).next)))
theorem tri_norm {c : Code} (h : TriC P G S N c e (norm σ) Q) : TriC P G S N c e σ Q := fun A w₀ π D w a M hr he hg hm => h A w₀ π D w a M hr.norm_ he hg hm
theorem tri_skip (h : Q .normal e σ) : TriC P G S N .skip e σ Q := fun _ _ π D w a _ hr he hg hm => wp_skip (hm .normal e σ π D w a h hr he hg)
theorem tri_ret (h : Q .ret e σ) : TriC P G S N .ret e σ Q := fun _ _ π D w a _ hr he hg hm => wp_ret (hm .ret e σ π D w a h hr he hg)
theorem tri_exit {id : Nat} (h : Q (.exit id) e σ) : TriC P G S N (.exit id) e σ Q := fun _ _ π D w a _ hr he hg hm => wp_exit (hm (.exit id) e σ π D w a h hr he hg)
theorem tri_label {id : Nat} (h : Q .normal e σ) : TriC P G S N (.label id) e σ Q := fun _ _ π D w a _ hr he hg hm => wp_label (hm .normal e σ π D w a h hr he hg)
noncomputable def thenQ (k : Env → ASt → Prop) (Q : AEx → Env → ASt → Prop) (x : AEx) (e : Env) (σ : ASt) : Prop := @AEx.rec (fun _ => Prop) (k e σ) (fun id => Q (.exit id) e σ) (Q .ret e σ) x
theorem tri_seq {a b : Code} (h : TriC P G S N a e σ (thenQ (fun e σ => TriC P G S N b e σ Q) Q)) : TriC P G S N (.seq a b) e σ Q := by
  intro A w₀ π D w act M hr he hg hm
  apply wp_seq
  refine h A w₀ π D w act _ hr he hg fun x e' σ' π' D' w' a' hx hr' he' hg' => ?_
  cases x with
  | normal => exact hx A w₀ π' D' w' a' M hr' he' hg' hm
  | exit id => exact hm _ _ _ _ _ _ _ hx hr' he' hg'
  | ret => exact hm _ _ _ _ _ _ _ hx hr' he' hg'
theorem tri_cond {c : Operand} {a b : Code} {t : Bool} (hc : asB (env e c) = some t) (hok : opndOk G c = true) (h1 : t = true → TriC P G S N a e σ Q) (h2 : t = false → TriC P G S N b e σ Q) : TriC P G S N (.cond c a b) e σ Q := by
  intro A w₀ π D w act M hr he hg hm
  have hcv := he.eval hg hok
  rw [asB_eq hc] at hcv
  refine wp_cond hcv.bool_inv ?_
  cases t with
  | true => exact h1 rfl A w₀ π D w act M hr he hg hm
  | false => exact h2 rfl A w₀ π D w act M hr he hg hm
theorem tri_block {id : Nat} {c : Code} (h : TriC P G S N c e σ (fun x => Q (leaves id x))) : TriC P G S N (.block id c) e σ Q := by
  intro A w₀ π D w act M hr he hg hm
  apply wp_block
  refine h A w₀ π D w act _ hr he hg fun x e' σ' π' D' w' a' hx hr' he' hg' => ?_
  have hM := hm _ _ _ _ _ _ _ hx hr' he' hg'
  cases x with
  | normal => exact hM
  | ret => exact hM
  | exit id' =>
    show (if id' = id then M .normal a' w' else M (.exit id') a' w')
    have h2 : M (exitOf (iff (Nat.beq id' id) .normal (.exit id'))) a' w' := hM
    rw [iff_eq] at h2
    by_cases hid : id' = id
    · rw [if_pos ((beq_iff _ _).2 hid)] at h2
      rw [if_pos hid]; exact h2
    · rw [if_neg fun h => hid ((beq_iff _ _).1 h)] at h2
      rw [if_neg hid]; exact h2
theorem tri_scope {c : Code} (h : TriC P G S N c e σ Q) : TriC P G S N (.scope c) e σ Q := by
  intro A w₀ π D w act M hr he hg hm
  apply wp_scope_straight
  refine h A w₀ π D w act _ hr he hg fun x e' σ' π' D' w' a' hx hr' he' hg' => ?_
  have hM := hm _ _ _ _ _ _ _ hx hr' he' hg'
  cases x <;> exact hM
theorem tri_loop {c : Code} (In : Nat → Env → ASt → Prop) (round : ∀ n e σ, In n e σ → TriC P G S N c e σ (thenQ (fun e σ => ∃ m, m < n ∧ In m e σ) Q)) {n : Nat} (h : In n e σ) : TriC P G S N (.loop c) e σ Q := by
  intro A w₀ π D w act M hr he hg hm
  refine wp_iter (fun m a w => ∃ n e σ π D, n < m ∧ In n e σ ∧ Rep S A w₀ σ π D w ∧ EnvR N π D e a ∧ GlobR G π D) ?_ ?_ (n + 1) act w ⟨n, e, σ, π, D, Nat.lt_succ_self n, h, hr, he, hg⟩
  · rintro a w ⟨n, _, _, _, _, h0, _⟩; omega
  · rintro m a w ⟨n, e, σ, π, D, hnm, hI, hr, he, hg⟩
    refine round n e σ hI A w₀ π D w a _ hr he hg fun x e' σ' π' D' w' a' hx hr' he' hg' => ?_
    cases x with
    | normal =>
      obtain ⟨k, hk, hI'⟩ := hx
      exact ⟨k, e', σ', π', D', by omega, hI', hr', he', hg'⟩
    | exit id => exact hm _ _ _ _ _ _ _ hx hr' he' hg'
    | ret => exact hm _ _ _ _ _ _ _ hx hr' he' hg'
end
structure Ren where
  loc : Nat → Option (Nat × Nat)
  fz : Nat → Option (List Value)
  inn : Bool
  dt : Bool
instance : CoeFun Ren (fun _ => Nat → Option (Nat × Nat)) := ⟨Ren.loc⟩
inductive VA (ι : Ren) : Value → Value → Prop
  | bool (b : Bool) : VA ι (.bool b) (.bool b)
  | int (k : IntKind) (n : Int) : VA ι (.int k n) (.int k n)
  | float (k : FloatKind) (b : Nat) : VA ι (.float k b) (.float k b)
  | complex (k : FloatKind) (x y : Nat) : VA ι (.complex k x y) (.complex k x y)
  | string (s : ByteArray) : VA ι (.string s) (.string s)
  | ptr0 : VA ι (.pointer none) (.pointer none)
  | ptr {b off off' : Nat} {s : Option Nat} {k sh : Nat} (h : ι b = some (k, sh)) (ho : off' = sh + off) : VA ι (.pointer (some ⟨b, off, s⟩)) (.pointer (some ⟨k, off', s⟩))
  | sl0 (n c : Nat) : VA ι (.slice none n c) (.slice none n c)
  | sl {b off off' : Nat} {s : Option Nat} {k sh : Nat} (n c : Nat) (h : ι b = some (k, sh)) (ho : off' = sh + off) : VA ι (.slice (some ⟨b, off, s⟩) n c) (.slice (some ⟨k, off', s⟩) n c)
  | slz (a a' : Addr) (h : a.spot = none) (h' : a'.spot = none) : VA ι (.slice (some a) 0 0) (.slice (some a') 0 0)
  | map0 : VA ι (.map none) (.map none)
  | map {r k sh : Nat} (h : ι r = some (k, sh)) : VA ι (.map (some r)) (.map (some k))
  | func (fn : Fn) {f c f' c' : List Value} (hf : f.length = f'.length) (hfs : ∀ (i : Nat) v v', f[i]? = some v → f'[i]? = some v' → VA ι v v')
      (hc : c.length = c'.length) (hcs : ∀ (i : Nat) v v', c[i]? = some v → c'[i]? = some v' → VA ι v v') : VA ι (.func fn ⟨f⟩ ⟨c⟩) (.func fn ⟨f'⟩ ⟨c'⟩)
  | nilFunc : VA ι .nilFunc .nilFunc
  | iface (t : TypeId) {v v' : Value} (h : VA ι v v') : VA ι (.iface t v) (.iface t v')
  | nilIface : VA ι .nilIface .nilIface
  | agg {c c' : List Value} (hc : c.length = c'.length) (hcs : ∀ (i : Nat) v v', c[i]? = some v → c'[i]? = some v' → VA ι v v') : VA ι (.agg ⟨c⟩) (.agg ⟨c'⟩)
  | tuple {c c' : List Value} (h1 : isDatL c = false) (h1' : isDatL c' = false) (hc : c.length = c'.length) (hcs : ∀ (i : Nat) v v', c[i]? = some v → c'[i]? = some v' → VA ι v v') : VA ι (.tuple ⟨c⟩) (.tuple ⟨c'⟩)
  | data (rows : List Value) (hd : ι.dt = true) : VA ι (dat rows) (dat rows)
  | dataP (cs : List Value) (hd : ι.dt = true) : VA ι (datP cs) (datP cs)
  | nil0 (c : Nat) (hi : ι.inn = true) : VA ι (dat []) (.slice none 0 c)
  | fz {rows cs cs' cells : List Value} {z b off n c : Nat} {s : Option Nat} (hi : ι.inn = true) (hF : ι.fz b = some cells) (hr : RowsAre z rows cs) (hn : rows.length = n) (hw : Win cells off cs') (h1 : ∀ v ∈ cs, closed1 v = true) (hl : cs.length = cs'.length)
      (hcs : ∀ (i : Nat) v v', cs[i]? = some v → cs'[i]? = some v' → VA ι v v') : VA ι (dat rows) (.slice (some ⟨b, off, s⟩) n c)
  | fzP {cs cs' cells : List Value} {b off : Nat} (hi : ι.inn = true) (hF : ι.fz b = some cells) (hw : Win cells off cs') (h1 : ∀ v ∈ cs, closed1 v = true) (hl : cs.length = cs'.length)
      (hcs : ∀ (i : Nat) v v', cs[i]? = some v → cs'[i]? = some v' → VA ι v v') : VA ι (datP cs) (.pointer (some ⟨b, off, none⟩))
def VAs (ι : Ren) (l l' : List Value) : Prop := l.length = l'.length ∧ ∀ (i : Nat) v v', l[i]? = some v → l'[i]? = some v' → VA ι v v'
theorem VAs.nil {ι : Ren} : VAs ι [] [] := ⟨rfl, fun i v v' h _ => by simp at h⟩
theorem VAs.cons {ι : Ren} {v v' : Value} {l l' : List Value} (h : VA ι v v') (hl : VAs ι l l') : VAs ι (v :: l) (v' :: l') :=
  ⟨by simp [hl.1], fun i u u' h1 h2 => by
    cases i with
    | zero => simp at h1 h2; subst h1; subst h2; exact h
    | succ i => simp at h1 h2; exact hl.2 i u u' h1 h2⟩
theorem VAs.append {ι : Ren} {l l' m m' : List Value} (h : VAs ι l l') (h' : VAs ι m m') : VAs ι (l ++ m) (l' ++ m') :=
  ⟨by simp [h.1, h'.1], fun i v v' h1 h2 => by
    by_cases hi : i < l.length
    · rw [List.getElem?_append_left hi] at h1
      rw [List.getElem?_append_left (h.1 ▸ hi)] at h2
      exact h.2 i v v' h1 h2
    · rw [List.getElem?_append_right (by omega)] at h1
      rw [List.getElem?_append_right (by have := h.1; omega), ← h.1] at h2
      exact h'.2 _ v v' h1 h2⟩
theorem VAs.agg {ι : Ren} {l l' : List Value} (h : VAs ι l l') : VA ι (.agg ⟨l⟩) (.agg ⟨l'⟩) := .agg h.1 h.2
theorem VAs.tuple {ι : Ren} {l l' : List Value} (h1 : isDatL l = false) (h1' : isDatL l' = false) (h : VAs ι l l') : VA ι (.tuple ⟨l⟩) (.tuple ⟨l'⟩) := .tuple h1 h1' h.1 h.2
theorem VAs.get {ι : Ren} {l l' : List Value} (h : VAs ι l l') {i : Nat} {v : Value} (hv : l[i]? = some v) : ∃ v', l'[i]? = some v' ∧ VA ι v v' := by
  have hi : i < l.length := (List.getElem?_eq_some_iff.1 hv).1
  have hi' : i < l'.length := h.1 ▸ hi
  exact ⟨l'[i], by rw [List.getElem?_eq_getElem hi'], h.2 i v _ hv (by rw [List.getElem?_eq_getElem hi'])⟩
theorem VAs.tget {ι : Ren} {l l' : List Value} (h : VAs ι l l') {i : Nat} {v' : Value} (hv : l'[i]? = some v') : ∃ v, l[i]? = some v ∧ VA ι v v' := by
  have hi : i < l'.length := (List.getElem?_eq_some_iff.1 hv).1
  have hi' : i < l.length := h.1 ▸ hi
  exact ⟨l[i], by rw [List.getElem?_eq_getElem hi'], h.2 i _ v' (by rw [List.getElem?_eq_getElem hi']) hv⟩
theorem VA.oneCell {ι : Ren} {v v' : Value} (h : VA ι v v') : oneA v' = oneA v := by
  cases h
  case tuple h1 h1' _ _ =>
    show (false || isDatL _) = (false || isDatL _)
    rw [h1, h1']
  all_goals rfl
theorem VAs.oneCells {ι : Ren} {l l' : List Value} (h : VAs ι l l') (h1 : ∀ v ∈ l', oneA v = true) : ∀ v ∈ l, oneA v = true := by
  intro v hv
  obtain ⟨i, hi, rfl⟩ := List.getElem_of_mem hv
  obtain ⟨v', h2, h3⟩ := h.get (List.getElem?_eq_getElem hi)
  rw [← h3.oneCell]
  exact h1 _ (List.mem_of_getElem? h2)
theorem VAs.oneCells' {ι : Ren} {l l' : List Value} (h : VAs ι l l') (h1 : ∀ v ∈ l, oneA v = true) : ∀ v ∈ l', oneA v = true := by
  intro v hv
  obtain ⟨i, hi, rfl⟩ := List.getElem_of_mem hv
  obtain ⟨v', h2, h3⟩ := h.tget (List.getElem?_eq_getElem hi)
  rw [h3.oneCell]
  exact h1 _ (List.mem_of_getElem? h2)
theorem VA.bare {ι : Ren} {v : Value} (h : Abs.bare v = true) : VA ι v v := by
  cases v <;> simp only [Abs.bare, reduceCtorEq] at h
  case bool b => exact .bool b
  case int k n => exact .int k n
  case string s => exact .string s
  case nilIface => exact .nilIface
  case nilFunc => exact .nilFunc
  case pointer a => cases a <;> simp only [reduceCtorEq] at h; exact .ptr0
  case slice a n c => cases a <;> simp only [reduceCtorEq] at h; exact .sl0 n c
  case map a => cases a <;> simp only [reduceCtorEq] at h; exact .map0
theorem VAs.bare {ι : Ren} : ∀ {l : List Value}, (∀ v ∈ l, Abs.bare v = true) → VAs ι l l
  | [], _ => .nil
  | v :: _, h => .cons (VA.bare (h v (by simp))) (VAs.bare fun u hu => h u (by simp [hu]))
def EntsA (ι : Ren) (es es' : List MapEntry) : Prop := es.length = es'.length ∧ ∀ (i : Nat) e e', es[i]? = some e → es'[i]? = some e' → VA ι e.key e'.key ∧ VA ι e.val e'.val ∧ e.born = e'.born
def ObjA (ι : Ren) (k sh : Nat) : AObj → AObj → Prop
  | .cells c e org ro d, .cells c' e' _ ro' d' => d = false ∧ d' = false ∧ org = k ∧ e = e' ∧ sh + c.length ≤ c'.length ∧ VAs ι c ((c'.drop sh).take c.length) ∧ (ro = false → ro' = false ∧ sh = 0 ∧ c.length = c'.length)
  | .map es cl, .map es' cl' => sh = 0 ∧ cl = cl' ∧ EntsA ι es es'
  | _, _ => False
def roOf : AObj → Bool
  | .cells _ _ _ ro _ => ro
  | _ => false
def lenOf : AObj → Nat
  | .cells c _ _ _ _ => c.length
  | _ => 0
def isIter : AObj → Bool
  | .iter _ _ => true
  | _ => false
theorem ObjA.inv {ι : Ren} {k sh : Nat} {c : List Value} {e : Option Nat} {org : Nat} {ro d : Bool} {o' : AObj} (h : ObjA ι k sh (.cells c e org ro d) o') :
    d = false ∧ org = k ∧ ∃ c' org' ro', o' = .cells c' e org' ro' false ∧ sh + c.length ≤ c'.length ∧ VAs ι c ((c'.drop sh).take c.length) ∧ (ro = false → ro' = false ∧ sh = 0 ∧ c.length = c'.length) := by
  cases o' with
  | cells c' e' org' ro' d' =>
    obtain ⟨rfl, rfl, rfl, rfl, h0, h1, h2⟩ := h
    exact ⟨rfl, rfl, c', org', ro', rfl, h0, h1, h2⟩
  | _ => exact h.elim
theorem ObjA.minv {ι : Ren} {k sh : Nat} {es : List MapEntry} {cl : Nat} {o' : AObj} (h : ObjA ι k sh (.map es cl) o') : ∃ es', o' = .map es' cl ∧ sh = 0 ∧ EntsA ι es es' := by
  cases o' with
  | map es' cl' =>
    obtain ⟨h0, rfl, h1⟩ := h
    exact ⟨es', rfl, h0, h1⟩
  | _ => exact h.elim
theorem ObjA.alive {ι : Ren} {k sh : Nat} {o o' : AObj} (h : ObjA ι k sh o o') : isDead o' = false ∧ isIter o = false ∧ (roOf o = false → roOf o' = false) := by
  cases o with
  | cells c e org ro d =>
    obtain ⟨_, _, c', org', ro', rfl, _, _, h2⟩ := h.inv
    exact ⟨rfl, rfl, fun hro => (h2 hro).1⟩
  | map es cl =>
    obtain ⟨es', rfl, _⟩ := h.minv
    exact ⟨rfl, rfl, fun _ => rfl⟩
  | iter s p => cases o' <;> exact h.elim
structure Match (S : Nat → Bool) (G : Globs) (ι : Ren) (e : Env) (σ : ASt) (ec : Env) (σc : ASt) : Prop where
  low : σc.low ≤ σc.next
  wf : WF σc
  inj : ∀ k₁ k₂ k s₁ s₂, ι k₁ = some (k, s₁) → ι k₂ = some (k, s₂) → k₁ = k₂
  obj : ∀ k o, σc.obj k = some o → ∃ k' sh o', ι k = some (k', sh) ∧ σ.obj k' = some o' ∧ ObjA ι k sh o o'
  env : ∀ t v, ec.get t = some v → ∃ v', e.get t = some v' ∧ VA ι v v'
  dom : ∀ k p, ι k = some p → (σc.obj k).isSome = true
  glob : ∀ g, G g = true → ι g = some (g, 0)
  anc : ∀ k, S k = true → ι k = some (k, 0) ∧ σc.obj k = σ.obj k
  fz : ∀ b cells, ι.fz b = some cells → (∃ e org, σ.obj b = some (.cells cells e org false false)) ∧ ∀ k sh, ι k ≠ some (b, sh)
section
variable {P : Program} {G : Globs} {S : Nat → Bool} {N : Nat} {ι : Ren} {π πc : PMap} {D Dc : Nat → Prop}
def PI.at (i : PI) (k sh : Nat) (ro : Bool) (len : Nat) : PI := ⟨i.blk, i.sh + sh, i.bsize, i.esz, k, ro, len⟩
structure RenP (ι : Ren) (π : PMap) (D : Nat → Prop) (πc : PMap) : Prop where
  loc : ∀ k k' sh, ι k = some (k', sh) → ¬ D k' ∧ ∀ i, π k' = some i → ∃ ic, πc k = some ic ∧ ic.blk = i.blk ∧ ic.sh = i.sh + sh ∧ ic.bsize = i.bsize ∧ ic.esz = i.esz
  fr : ∀ B cc, π.fr B = some cc → πc.fr B = some cc
  fz : ∀ b cells, ι.fz b = some cells → ¬ D b ∧ ∀ i, π b = some i → ∃ cc, πc.fr i.blk = some cc ∧ i.sh + cells.length ≤ cc.length ∧ VRs π D cells ((cc.drop i.sh).take cells.length)
structure RenQ (ι : Ren) (πc : PMap) (Dc : Nat → Prop) (π : PMap) : Prop where
  loc : ∀ k k' sh, ι k = some (k', sh) → ¬ Dc k ∧ ∀ ic, πc k = some ic → ∃ i, π k' = some i ∧ ic.blk = i.blk ∧ ic.sh = i.sh + sh ∧ ic.bsize = i.bsize ∧ ic.esz = i.esz
  inn : ι.inn = false
  fr : ι.dt = true → ∀ B cc, πc.fr B = some cc → π.fr B = some cc
theorem Win.VRs {cells cs' cc : List Value} {off sh : Nat} (hw : Win cells off cs') (hle : sh + cells.length ≤ cc.length) (h : Abs.VRs π D cells ((cc.drop sh).take cells.length)) :
    Win cc (sh + off) ((cc.drop (sh + off)).take cs'.length) ∧ Abs.VRs π D cs' ((cc.drop (sh + off)).take cs'.length) := by
  obtain ⟨h1, h2⟩ := hw
  have hl : ((cc.drop (sh + off)).take cs'.length).length = cs'.length := by simp; omega
  refine ⟨⟨by rw [hl]; omega, by rw [hl]⟩, ?_⟩
  have := (h.drop off).take cs'.length
  rw [h2, List.drop_take, List.take_take, List.drop_drop, Nat.min_eq_left (by omega)] at this
  exact this
theorem VA.comp (hp : RenP ι π D πc) {vc v : Value} (h : VA ι vc v) : ∀ {v' : Value}, VR π D v v' → VR πc Dc vc v' := by
  induction h with
  | bool b => intro v' h'; cases h'; exact .bool b
  | int k n => intro v' h'; cases h'; exact .int k n
  | float k b => intro v' h'; cases h'; exact .float k b
  | complex k x y => intro v' h'; cases h'; exact .complex k x y
  | string s => intro v' h'; cases h'; exact .string s
  | ptr0 => intro v' h'; cases h'; exact .ptr0
  | @ptr b off off' s k sh h ho =>
    intro v' h'
    obtain ⟨h2, h3⟩ := hp.loc _ _ _ h
    cases h' with
    | ptr hs ha =>
      cases (show s = none from hs)
      rcases ha.2 with ⟨j, h4, h5, h6⟩ | ⟨_, h4⟩
      · obtain ⟨ic, g1, g2, g3, _, _⟩ := h3 _ h4
        have h6' : _ = j.sh + off' := h6
        exact .ptr rfl ⟨ha.1, .inl ⟨ic, g1, h5.trans g2.symm, by show _ = ic.sh + off; omega⟩⟩
      · exact absurd h4 h2
  | sl0 n c =>
    intro v' h'
    cases h' with
    | sl0 _ _ hn => exact .sl0 n c hn
  | @sl b off off' s k sh n c h ho =>
    intro v' h'
    obtain ⟨h2, h3⟩ := hp.loc _ _ _ h
    cases h' with
    | sl _ _ hn hs ha =>
      cases (show s = none from hs)
      rcases ha.2 with ⟨j, h4, h5, h6⟩ | ⟨_, h4⟩
      · obtain ⟨ic, g1, g2, g3, _, _⟩ := h3 _ h4
        have h6' : _ = j.sh + off' := h6
        exact .sl n c hn rfl ⟨ha.1, .inl ⟨ic, g1, h5.trans g2.symm, by show _ = ic.sh + off; omega⟩⟩
      · exact absurd h4 h2
    | slz _ _ hs => exact .slz _ _ hs
    | slo _ _ c' hn hs ha =>
      refine .slo n c c' hn hs ⟨ha.1, ha.2.1, ?_⟩
      rcases ha.2.2 with ⟨j, h4, h5, h6, h7⟩ | ⟨_, h4⟩
      · obtain ⟨ic, g1, g2, g3, g4, g5⟩ := h3 _ h4
        refine .inl ⟨ic, g1, h5.trans g2.symm, g5.trans h6, ?_⟩
        rcases h7 with ⟨h8, h9⟩ | h8
        · have h8' : _ = j.sh + off' := h8
          exact .inl ⟨by show _ = ic.sh + off; omega, by rw [g4]; exact h9⟩
        · exact .inr h8
      · exact absurd h4 h2
  | slz a a' h h2 =>
    intro v' h'
    cases h' with
    | sl _ _ hn hs ha => exact .slz _ _ h
    | slz _ _ hs => exact .slz _ _ h
    | slo _ _ c' hn hs ha => rw [h2] at hs; cases hs
  | map0 => intro v' h'; cases h'; exact .map0
  | @map r k sh h =>
    intro v' h'
    obtain ⟨h2, h3⟩ := hp.loc _ _ _ h
    cases h' with
    | map hr =>
      rcases hr with ⟨j, h4, h5⟩ | ⟨_, h4⟩
      · obtain ⟨ic, g1, g2, _⟩ := h3 _ h4
        exact .map (.inl ⟨ic, g1, h5.trans g2.symm⟩)
      · exact absurd h4 h2
  | func fn hf1 hfs1 hc1 hcs1 ih1 ih2 =>
    intro v' h'
    cases h' with
    | func _ hf2 hfs2 hc2 hcs2 =>
      refine .func fn (hf1.trans hf2) (fun i v v' h3 h4 => ?_) (hc1.trans hc2) (fun i v v' h3 h4 => ?_)
      · have hi := (List.getElem?_eq_some_iff.1 h3).1
        obtain ⟨u, hu⟩ : ∃ u, _ = some u := ⟨_, List.getElem?_eq_getElem (hf1 ▸ hi)⟩
        exact ih1 i v u h3 hu (hfs2 i u v' hu h4)
      · have hi := (List.getElem?_eq_some_iff.1 h3).1
        obtain ⟨u, hu⟩ : ∃ u, _ = some u := ⟨_, List.getElem?_eq_getElem (hc1 ▸ hi)⟩
        exact ih2 i v u h3 hu (hcs2 i u v' hu h4)
  | nilFunc => intro v' h'; cases h'; exact .nilFunc
  | iface t _ ih =>
    intro v' h'
    cases h' with
    | iface _ h3 => exact .iface t (ih h3)
  | nilIface => intro v' h'; cases h'; exact .nilIface
  | agg hc1 hcs1 ih =>
    intro v' h'
    cases h' with
    | agg hc2 ho2 hcs2 =>
      refine .agg (hc1.trans hc2) (VAs.oneCells ⟨hc1, hcs1⟩ ho2) (fun i v v' h3 h4 => ?_)
      have hi := (List.getElem?_eq_some_iff.1 h3).1
      obtain ⟨u, hu⟩ : ∃ u, _ = some u := ⟨_, List.getElem?_eq_getElem (hc1 ▸ hi)⟩
      exact ih i v u h3 hu (hcs2 i u v' hu h4)
  | data rows hd => intro v' h'; exact .data (h'.dat_rd.mono hp.fr)
  | dataP cs hd =>
    intro v' h'
    obtain ⟨csm, a', cc, rfl, hs, hf, hw, ho, hv, hr⟩ := h'.datp_inv
    exact .dataP hs ⟨cc, hp.fr _ _ hf, hw⟩ (hr.mono hp.fr)
  | nil0 c hi =>
    intro v' h'
    cases h' with
    | sl0 _ _ hn => exact .data (.data0 _ _ rfl)
  | @fz rows cs cs' cells z b off n c s hi hF hr hn hw h1 hl hcs ih =>
    intro v' h'
    obtain ⟨g1, g2⟩ := hp.fz b cells hF
    have key : ∀ (j : PI) (a' : Addr) (c' : Nat), π b = some j → a'.spot = none → a'.block = j.blk → a'.off = j.sh + off → rows.length ≤ c' → VR πc Dc (dat rows) (.slice (some a') rows.length c') := fun j a' c' h4 hs h5 h6 hc => by
      obtain ⟨cc, f1, f2, f3⟩ := g2 j h4
      obtain ⟨w1, w2⟩ := hw.VRs f2 f3
      refine .data (.data hr hc (.inr ⟨hs, cc, by rw [h5]; exact f1, by rw [h6]; exact w1⟩) (hl.trans w2.1) (fun i v v' h3 h4 => VR.rd (D := Dc) ?_ (h1 v (List.mem_of_getElem? h3))))
      have hi := (List.getElem?_eq_some_iff.1 h3).1
      obtain ⟨u, hu⟩ : ∃ u, _ = some u := ⟨_, List.getElem?_eq_getElem (hl ▸ hi)⟩
      exact ih i v u h3 hu (w2.2 i u v' hu h4)
    have empty : ∀ (a' : Addr) (c' : Nat), rows.length = 0 → VR πc Dc (dat rows) (.slice (some a') rows.length c') := fun a' c' h0 => by
      have := List.eq_nil_of_length_eq_zero h0
      subst this
      exact .data (Rd.nil _ _)
    cases h' with
    | sl _ _ hle hs ha =>
      rcases ha.2 with ⟨j, h4, h5, h6⟩ | ⟨_, h4⟩
      · have h0 := key j _ _ h4 ha.1 h5 h6 (by rw [hn]; assumption); rw [hn] at h0; exact h0
      · exact absurd h4 g1
    | slz _ a' hs => have h0 := empty a' 0 hn; rw [hn] at h0; exact h0
    | @slo _ a' _ _ _ c' hle hs ha =>
      rcases ha.2.2 with ⟨j, h4, h5, h6, h7⟩ | ⟨_, h4⟩
      · rcases h7 with ⟨h8, h9⟩ | ⟨h8, _⟩
        · have h0 := key j _ c' h4 ha.1 h5 h8 (by rw [hn]; exact Nat.le_trans hle ha.2.1); rw [hn] at h0; exact h0
        · have h0 := empty a' c' (hn.trans h8); rw [hn] at h0; exact h0
      · exact absurd h4 g1
  | @fzP cs cs' cells b off hi hF hw h1 hl hcs ih =>
    intro v' h'
    obtain ⟨g1, g2⟩ := hp.fz b cells hF
    cases h' with
    | ptr hs ha =>
      rcases ha.2 with ⟨j, h4, h5, h6⟩ | ⟨_, h4⟩
      · obtain ⟨cc, f1, f2, f3⟩ := g2 j h4
        obtain ⟨w1, w2⟩ := hw.VRs f2 f3
        have h6' : _ = j.sh + off := h6
        refine .dataP ha.1 ⟨cc, by rw [h5]; exact f1, by rw [h6']; exact w1⟩ ⟨hl.trans w2.1, fun i v v' h3 h4 => VR.rd (D := Dc) ?_ (h1 v (List.mem_of_getElem? h3))⟩
        have hi := (List.getElem?_eq_some_iff.1 h3).1
        obtain ⟨u, hu⟩ : ∃ u, _ = some u := ⟨_, List.getElem?_eq_getElem (hl ▸ hi)⟩
        exact ih i v u h3 hu (w2.2 i u v' hu h4)
      · exact absurd h4 g1
  | @tuple c c2 hd1 hd1' hc1 hcs1 ih =>
    intro v' h'
    cases h' with
    | any =>
      match c, hc1, hcs1 with
      | [x], _, hcs1 =>
        cases hcs1 0 x .nilFunc rfl rfl with
        | nilFunc => exact .any _
    | data => cases hd1'
    | dataP => cases hd1'
    | tuple hd2 hc2 hcs2 =>
      refine .tuple hd1 (hc1.trans hc2) (fun i v v' h3 h4 => ?_)
      have hi := (List.getElem?_eq_some_iff.1 h3).1
      obtain ⟨u, hu⟩ : ∃ u, _ = some u := ⟨_, List.getElem?_eq_getElem (hc1 ▸ hi)⟩
      exact ih i v u h3 hu (hcs2 i u v' hu h4)
theorem VA.back (hp : RenQ ι πc Dc π) {vc v : Value} (h : VA ι vc v) : ∀ {v' : Value}, VR πc Dc vc v' → VR π D v v' := by
  induction h with
  | bool b => intro v' h'; cases h'; exact .bool b
  | int k n => intro v' h'; cases h'; exact .int k n
  | float k b => intro v' h'; cases h'; exact .float k b
  | complex k x y => intro v' h'; cases h'; exact .complex k x y
  | string s => intro v' h'; cases h'; exact .string s
  | ptr0 => intro v' h'; cases h'; exact .ptr0
  | @ptr b off off' s k sh h ho =>
    intro v' h'
    obtain ⟨h2, h3⟩ := hp.loc _ _ _ h
    cases h' with
    | ptr hs ha =>
      cases (show s = none from hs)
      rcases ha.2 with ⟨j, h4, h5, h6⟩ | ⟨_, h4⟩
      · obtain ⟨i, g1, g2, g3, _, _⟩ := h3 _ h4
        have h6' : _ = j.sh + off := h6
        exact .ptr rfl ⟨ha.1, .inl ⟨i, g1, h5.trans g2, by show _ = i.sh + off'; omega⟩⟩
      · exact absurd h4 h2
  | sl0 n c =>
    intro v' h'
    cases h' with
    | sl0 _ _ hn => exact .sl0 n c hn
  | @sl b off off' s k sh n c h ho =>
    intro v' h'
    obtain ⟨h2, h3⟩ := hp.loc _ _ _ h
    cases h' with
    | sl _ _ hn hs ha =>
      cases (show s = none from hs)
      rcases ha.2 with ⟨j, h4, h5, h6⟩ | ⟨_, h4⟩
      · obtain ⟨i, g1, g2, g3, _, _⟩ := h3 _ h4
        have h6' : _ = j.sh + off := h6
        exact .sl n c hn rfl ⟨ha.1, .inl ⟨i, g1, h5.trans g2, by show _ = i.sh + off'; omega⟩⟩
      · exact absurd h4 h2
    | slz _ _ hs => exact .slz _ _ hs
    | slo _ _ c' hn hs ha =>
      refine .slo n c c' hn hs ⟨ha.1, ha.2.1, ?_⟩
      rcases ha.2.2 with ⟨j, h4, h5, h6, h7⟩ | ⟨_, h4⟩
      · obtain ⟨i, g1, g2, g3, g4, g5⟩ := h3 _ h4
        refine .inl ⟨i, g1, h5.trans g2, g5.symm.trans h6, ?_⟩
        rcases h7 with ⟨h8, h9⟩ | h8
        · have h8' : _ = j.sh + off := h8
          exact .inl ⟨by show _ = i.sh + off'; omega, by rw [← g4]; exact h9⟩
        · exact .inr h8
      · exact absurd h4 h2
  | slz a a' h h2 =>
    intro v' h'
    cases h' with
    | sl _ _ hn hs ha => exact .slz _ _ h2
    | slz _ _ hs => exact .slz _ _ h2
    | slo _ _ c' hn hs ha => rw [h] at hs; cases hs
  | map0 => intro v' h'; cases h'; exact .map0
  | @map r k sh h =>
    intro v' h'
    obtain ⟨h2, h3⟩ := hp.loc _ _ _ h
    cases h' with
    | map hr =>
      rcases hr with ⟨j, h4, h5⟩ | ⟨_, h4⟩
      · obtain ⟨i, g1, g2, _⟩ := h3 _ h4
        exact .map (.inl ⟨i, g1, h5.trans g2⟩)
      · exact absurd h4 h2
  | func fn hf1 hfs1 hc1 hcs1 ih1 ih2 =>
    intro v' h'
    cases h' with
    | func _ hf2 hfs2 hc2 hcs2 =>
      refine .func fn (hf1.symm.trans hf2) (fun i v v' h3 h4 => ?_) (hc1.symm.trans hc2) (fun i v v' h3 h4 => ?_)
      · have hi := (List.getElem?_eq_some_iff.1 h3).1
        obtain ⟨u, hu⟩ : ∃ u, _ = some u := ⟨_, List.getElem?_eq_getElem (hf1.symm ▸ hi)⟩
        exact ih1 i u v hu h3 (hfs2 i u v' hu h4)
      · have hi := (List.getElem?_eq_some_iff.1 h3).1
        obtain ⟨u, hu⟩ : ∃ u, _ = some u := ⟨_, List.getElem?_eq_getElem (hc1.symm ▸ hi)⟩
        exact ih2 i u v hu h3 (hcs2 i u v' hu h4)
  | nilFunc => intro v' h'; cases h'; exact .nilFunc
  | iface t _ ih =>
    intro v' h'
    cases h' with
    | iface _ h3 => exact .iface t (ih h3)
  | nilIface => intro v' h'; cases h'; exact .nilIface
  | agg hc1 hcs1 ih =>
    intro v' h'
    cases h' with
    | agg hc2 ho2 hcs2 =>
      refine .agg (hc1.symm.trans hc2) (VAs.oneCells' ⟨hc1, hcs1⟩ ho2) (fun i v v' h3 h4 => ?_)
      have hi := (List.getElem?_eq_some_iff.1 h3).1
      obtain ⟨u, hu⟩ : ∃ u, _ = some u := ⟨_, List.getElem?_eq_getElem (hc1.symm ▸ hi)⟩
      exact ih i u v hu h3 (hcs2 i u v' hu h4)
  | data rows hd => intro v' h'; exact .data (h'.dat_rd.mono (hp.fr hd))
  | dataP cs hd =>
    intro v' h'
    obtain ⟨csm, a', cc, rfl, hs, hf, hw, ho, hv, hr⟩ := h'.datp_inv
    exact .dataP hs ⟨cc, hp.fr hd _ _ hf, hw⟩ (hr.mono (hp.fr hd))
  | nil0 c hi => rw [hp.inn] at hi; cases hi
  | fz hi => rw [hp.inn] at hi; cases hi
  | fzP hi => rw [hp.inn] at hi; cases hi
  | @tuple c c2 hd1 hd1' hc1 hcs1 ih =>
    intro v' h'
    cases h' with
    | data => cases hd1
    | dataP => cases hd1
    | any =>
      match c2, hc1, hcs1 with
      | [x], _, hcs1 =>
        cases hcs1 0 .nilFunc x rfl rfl with
        | nilFunc => exact .any _
    | tuple hd2 hc2 hcs2 =>
      refine .tuple hd1' (hc1.symm.trans hc2) (fun i v v' h3 h4 => ?_)
      have hi := (List.getElem?_eq_some_iff.1 h3).1
      obtain ⟨u, hu⟩ : ∃ u, _ = some u := ⟨_, List.getElem?_eq_getElem (hc1.symm ▸ hi)⟩
      exact ih i u v hu h3 (hcs2 i u v' hu h4)
theorem VAs.comp (hp : RenP ι π D πc) {c c' w' : List Value} (h : VAs ι c c') (h2 : VRs π D c' w') : VRs πc Dc c w' :=
  ⟨h.1.trans h2.1, fun i v v' h3 h4 => by
    obtain ⟨u, hu, hva⟩ := h.get h3
    exact hva.comp hp (h2.2 i u v' hu h4)⟩
theorem VAs.back (hp : RenQ ι πc Dc π) {c c' w' : List Value} (h : VAs ι c c') (h2 : VRs πc Dc c w') : VRs π D c' w' :=
  ⟨h.1.symm.trans h2.1, fun i v v' h3 h4 => by
    obtain ⟨u, hu, hva⟩ := h.tget h3
    exact hva.back hp (h2.2 i u v' hu h4)⟩
noncomputable def partOf (ι : Ren) (π : PMap) (σc : ASt) (w : World) : PMap := ⟨fun k => match ι k, σc.obj k with
  | some p, some (.cells c _ _ ro _) => (π p.1).map fun i => i.at k p.2 ro c.length
  | some p, some (.map _ _) => (π p.1).map fun i => i.at k p.2 false 0
  | _, _ => none, fun B => match π.fr B with
  | some cc => some cc
  | none => @ite _ (∃ b cells i, ι.fz b = some cells ∧ π b = some i ∧ i.blk = B) (Classical.propDecidable _) (frAll w B) none⟩
theorem partOf_fr {σc : ASt} {w : World} {B : Nat} {cc : List Value} (h : π.fr B = some cc) : (partOf ι π σc w).fr B = some cc := by simp only [partOf, h]
theorem partOf_frz {σc : ASt} {w : World} {b : Nat} {cells : List Value} {i : PI} {cc : Array Value} {elem : TypeId} {fz : Nat × Nat} (h : ι.fz b = some cells) (hi : π b = some i) (hB : w.heap[i.blk]? = some (.cells cc elem fz)) (hn : π.fr i.blk = none ∨ π.fr i.blk = some cc.toList) : (partOf ι π σc w).fr i.blk = some cc.toList := by
  rcases hn with hn | hn
  · simp only [partOf, hn]
    rw [if_pos ⟨b, cells, i, h, hi, rfl⟩]
    simp only [frAll, hB]
  · exact partOf_fr hn
theorem partOf_fr_inv {σc : ASt} {w : World} {B : Nat} {cc : List Value} (h : (partOf ι π σc w).fr B = some cc) : π.fr B = some cc ∨ ((∃ b cells i, ι.fz b = some cells ∧ π b = some i ∧ i.blk = B) ∧ frAll w B = some cc) := by
  simp only [partOf] at h
  split at h
  · rename_i c hc; cases h; exact .inl hc
  · split at h
    · rename_i h1; exact .inr ⟨h1, h⟩
    · cases h
theorem partOf_some {σc : ASt} {w : World} {k : Nat} {ic : PI} (h : partOf ι π σc w k = some ic) : ∃ k' sh i o, ι k = some (k', sh) ∧ σc.obj k = some o ∧ π k' = some i ∧ ic = i.at k sh (roOf o) (lenOf o) := by
  simp only [partOf] at h
  split at h
  · rename_i p c e org ro d h1 h2
    rw [Option.map_eq_some_iff] at h
    obtain ⟨i, h3, h4⟩ := h
    exact ⟨p.1, p.2, i, _, h1, h2, h3, h4.symm⟩
  · rename_i p es cl h1 h2
    rw [Option.map_eq_some_iff] at h
    obtain ⟨i, h3, h4⟩ := h
    exact ⟨p.1, p.2, i, _, h1, h2, h3, h4.symm⟩
  · cases h
theorem partOf_is {σc : ASt} {w : World} {k k' sh : Nat} {i : PI} {o : AObj} (hι : ι k = some (k', sh)) (ho : σc.obj k = some o) (hi : π k' = some i) (hn : isIter o = false) : partOf ι π σc w k = some (i.at k sh (roOf o) (lenOf o)) := by
  cases o with
  | cells c e org ro d => simp only [partOf, hι, ho, hi, Option.map_some]; rfl
  | map es cl => simp only [partOf, hι, ho, hi, Option.map_some]; rfl
  | iter s p => cases hn
theorem ObjR.ro {i : PI} {w : World} {o : AObj} (h : ObjR π D i w o) : i.ro = roOf o := by
  cases o with
  | cells c e org ro d =>
    obtain ⟨_, _, _, _, _, _, _, _, _, _, _, h7, _⟩ := h
    exact h7
  | map es cl => obtain ⟨_, _, _, h3, _⟩ := h; exact h3
  | iter s p => exact h.2.1
theorem partOf_obj {σc : ASt} {w : World} {k sh : Nat} {i : PI} {o o' : AObj} (hp : RenP ι π D (partOf ι π σc w)) (ho : ObjA ι k sh o o') (hr : ObjR π D i w o') :
    ObjR (partOf ι π σc w) No (i.at k sh (roOf o) (lenOf o)) w o := by
  cases o with
  | iter s p => cases o' <;> exact ho.elim
  | map es cl =>
    obtain ⟨es', rfl, rfl, h1, h2⟩ := ho.minv
    obtain ⟨em, g1, g2, g3, g4⟩ := hr
    refine ⟨em, g1, ⟨h1.trans g2.1, fun j x y hx hy => ?_⟩, rfl, g4⟩
    have hj := (List.getElem?_eq_some_iff.1 hx).1
    obtain ⟨u, hu⟩ : ∃ u, es'[j]? = some u := ⟨_, List.getElem?_eq_getElem (h1 ▸ hj)⟩
    obtain ⟨a1, a2, a3⟩ := h2 j x u hx hu
    obtain ⟨b1, b2, b3⟩ := g2.2 j u y hu hy
    exact ⟨a1.comp hp b1, a2.comp hp b2, a3.trans b3⟩
  | cells c e org ro d =>
  obtain ⟨rfl, rfl, c', org', ro', rfl, hle, h2, h3⟩ := ho.inv
  obtain ⟨cc, elem, fz, g1, g2, g3, g4, g5, g6, g7, g8, g9, g10⟩ := hr
  have hwin : VRs π D ((c'.drop sh).take c.length) ((cc.toList.drop (i.sh + sh)).take c.length) := by
    have := (g5.drop sh).take c.length
    rwa [window_sub hle] at this
  refine ⟨cc, elem, fz, g1, g2, by show i.sh + sh + c.length ≤ i.bsize; omega, VAs.oneCells h2 fun v hv => g4 v (List.mem_of_mem_drop (List.mem_of_mem_take hv)), h2.comp hp hwin, fun hro => ?_, g7, rfl, rfl, rfl⟩
  obtain ⟨h4, _, _⟩ := h3 hro
  exact g6 h4
theorem match_rep {e ec : Env} {σ σc : ASt} {A : PMap} {w₀ w : World} (hm : Match S G ι e σ ec σc) (hr : Rep S A w₀ σ π D w) : RenP ι π D (partOf ι π σc w) ∧ Rep S A w₀ σc (partOf ι π σc w) No w := by
  obtain ⟨hlow, hwf, hinj, hobj, henv, hdom, hglob, hanc, hfz⟩ := hm
  have halive : ∀ k k' sh, ι k = some (k', sh) → ∃ o o', σc.obj k = some o ∧ σ.obj k' = some o' ∧ ObjA ι k sh o o' := fun k k' sh hι => by
    obtain ⟨o, ho⟩ := Option.isSome_iff_exists.1 (hdom k _ hι)
    obtain ⟨k2, sh2, o', h2, h3, h4⟩ := hobj k o ho
    rw [hι] at h2
    cases h2
    exact ⟨o, o', ho, h3, h4⟩
  have hnd : ∀ k k' sh, ι k = some (k', sh) → ¬ deadIn σ k' := fun k k' sh hι ⟨o2, h2, hd⟩ => by
    obtain ⟨o, o', _, h3, h4⟩ := halive k k' sh hι
    rw [h3] at h2; cases h2
    rw [h4.alive.1] at hd
    cases hd
  have hp0 : ∀ k k' sh, ι k = some (k', sh) → ¬ D k' ∧ ∀ i, π k' = some i → ∃ ic, partOf ι π σc w k = some ic ∧ ic.blk = i.blk ∧ ic.sh = i.sh + sh ∧ ic.bsize = i.bsize ∧ ic.esz = i.esz := fun k k' sh hι => ⟨fun hd => hnd k k' sh hι (hr.dead k' hd), fun i hi => by
    obtain ⟨o, o', ho, _, hoa⟩ := halive k k' sh hι
    exact ⟨_, partOf_is hι ho hi hoa.alive.2.1, rfl, rfl, rfl, rfl⟩⟩
  have hfzo : ∀ b cells i, ι.fz b = some cells → π b = some i → i.ro = false ∧ ¬ deadIn σ b ∧ ∃ cc elem fz, w.heap[i.blk]? = some (.cells cc elem fz) ∧ i.sh + cells.length ≤ cc.toList.length ∧ VRs π D cells ((cc.toList.drop i.sh).take cells.length) := fun b cells i hF hi => by
    obtain ⟨⟨e2, org2, ho⟩, _⟩ := hfz b cells hF
    obtain ⟨q, hq, hrq⟩ := hr.rel.obj b i hi
    have hext : ext σ (fun _ => none) b = σ.obj b := if_pos (hr.dom b i hi)
    rw [hext, ho] at hq
    cases hq
    obtain ⟨cc, elem, fz, g1, g2, g3, g4, g5, g6, g7, g8, g9, g10⟩ := hrq
    refine ⟨g9, fun ⟨o, h1, h2⟩ => ?_, cc, elem, fz, g1, by show _ ≤ cc.size; omega, g5⟩
    rw [ho] at h1; cases h1; cases h2
  have hp : RenP ι π D (partOf ι π σc w) := ⟨hp0, fun B cc hf => partOf_fr hf, fun b cells hF => ⟨fun hd => ?_, fun i hi => ?_⟩⟩
  rotate_left
  · obtain ⟨⟨e2, org2, ho⟩, _⟩ := hfz b cells hF
    obtain ⟨o, h1, h2⟩ := hr.dead b hd
    rw [ho] at h1; cases h1; cases h2
  · obtain ⟨g1, g2, cc, elem, fz, g3, g4, g5⟩ := hfzo b cells i hF hi
    exact ⟨cc.toList, partOf_frz hF hi g3 (.inl (hr.rel.fro b i hi g1)), g4, g5⟩
  have hlt : ∀ k o, σc.obj k = some o → k < σc.next := fun k o ho => by
    rcases Nat.lt_or_ge k σc.next with h1 | h1
    · exact h1
    · rw [hwf k h1] at ho; cases ho
  have hrep : Rep S A w₀ σc (partOf ι π σc w) No w := by
    refine ⟨⟨fun k ic hk => ?_, fun k ic hk => ?_, fun B cc hf => ?_, fun k ic hk hro => ?_, fun k₁ k₂ i₁ i₂ hne hk1 hk2 hb => ?_⟩, hwf, hlow, fun k ic hk => ?_, fun k hk => hk.elim, fun k ic hk hro => ?_, hr.old, fun k hk => ?_, fun B cc hf => partOf_fr (hr.fra B cc hf), fun B cc hf => ?_⟩
    · obtain ⟨k', sh, i, o, hι, ho, hi, rfl⟩ := partOf_some hk
      obtain ⟨o, o', ho2, ho', hoa⟩ := halive k k' sh hι
      rw [ho] at ho2
      cases ho2
      refine ⟨_, (if_pos (hlt k _ ho)).trans ho, ?_⟩
      obtain ⟨o2, ho2, hr2⟩ := hr.rel.obj k' i hi
      have hext : ext σ (fun _ => none) k' = σ.obj k' := if_pos (hr.dom k' i hi)
      rw [hext, ho'] at ho2
      cases ho2
      exact partOf_obj hp hoa hr2
    · obtain ⟨k', sh, i, o, hι, ho, hi, rfl⟩ := partOf_some hk
      exact ⟨Nat.le_refl _, fun _ => rfl⟩
    · rcases partOf_fr_inv hf with h1 | ⟨_, h1⟩
      · exact hr.rel.frz B cc h1
      · exact frAll_eq h1
    · obtain ⟨k', sh, i, o, hι, ho, hi, rfl⟩ := partOf_some hk
      obtain ⟨o, o', g1, g1', hoa⟩ := halive _ _ _ hι
      rw [ho] at g1; cases g1
      have h6 := hoa.alive.2.2 hro
      obtain ⟨q, hq, hrq⟩ := hr.rel.obj k' i hi
      have hext : ext σ (fun _ => none) k' = σ.obj k' := if_pos (hr.dom k' i hi)
      rw [hext, g1'] at hq
      cases hq
      have h7 := hrq.ro
      have hiro : i.ro = false := h7.trans h6
      show (partOf ι π σc w).fr i.blk = none
      cases hfc : (partOf ι π σc w).fr i.blk with
      | none => rfl
      | some cc =>
        exfalso
        rcases partOf_fr_inv hfc with h1 | ⟨⟨b, cells, i2, h1, h2, h3⟩, _⟩
        · rw [hr.rel.fro k' i hi hiro] at h1; cases h1
        · obtain ⟨b1, b2, _⟩ := hfzo b cells i2 h1 h2
          have hne : k' ≠ b := fun h => (hfz b cells h1).2 k sh (h ▸ hι)
          rcases hr.rel.sep k' b i i2 hne hi h2 h3.symm with ⟨h4, _⟩ | ⟨_, _, _, h4 | h4⟩
          · rw [hiro] at h4; cases h4
          · exact hnd _ _ _ hι h4.1
          · exact b2 h4.1
    · obtain ⟨k1', sh1, j1, q1, hι1, ho1, hi1, rfl⟩ := partOf_some hk1
      obtain ⟨k2', sh2, j2, q2, hι2, ho2, hi2, rfl⟩ := partOf_some hk2
      have hne' : k1' ≠ k2' := fun h => by subst h; exact hne (hinj _ _ _ _ _ hι1 hι2)
      obtain ⟨o1, o1', g1, g1', hoa1⟩ := halive _ _ _ hι1
      obtain ⟨o2, o2', g2, g2', hoa2⟩ := halive _ _ _ hι2
      rw [ho1] at g1; cases g1
      rw [ho2] at g2; cases g2
      rcases hr.rel.sep k1' k2' j1 j2 hne' hi1 hi2 hb with ⟨h3, h4⟩ | ⟨_, _, _, h4 | h4⟩
      · have ro_of : ∀ k' i (_ : π k' = some i) (_ : i.ro = true) o' (_ : σ.obj k' = some o') k sh o, ObjA ι k sh o o' → roOf o = true := fun k' i hi hiro o' ho' k sh o hoa => by
          cases hro : roOf o with
          | true => rfl
          | false =>
            have h6 := hoa.alive.2.2 hro
            obtain ⟨q, hq, hrq⟩ := hr.rel.obj k' i hi
            have hext : ext σ (fun _ => none) k' = σ.obj k' := if_pos (hr.dom k' i hi)
            rw [hext, ho'] at hq
            cases hq
            have h7 := hrq.ro
            rw [hiro, h6] at h7; cases h7
        exact .inl ⟨ro_of _ _ hi1 h3 _ g1' _ _ _ hoa1, ro_of _ _ hi2 h4 _ g2' _ _ _ hoa2⟩
      · exact absurd h4.1 (hnd _ _ _ hι1)
      · exact absurd h4.1 (hnd _ _ _ hι2)
    · obtain ⟨k', sh, i, o, hι, ho, hi, rfl⟩ := partOf_some hk
      exact hlt k _ ho
    · obtain ⟨k', sh, i, o, hι, ho, hi, rfl⟩ := partOf_some hk
      obtain ⟨o, o', g1, g1', hoa⟩ := halive _ _ _ hι
      rw [ho] at g1; cases g1
      have h6 := hoa.alive.2.2 hro
      obtain ⟨q, hq, hrq⟩ := hr.rel.obj k' i hi
      have hext : ext σ (fun _ => none) k' = σ.obj k' := if_pos (hr.dom k' i hi)
      rw [hext, g1'] at hq
      cases hq
      have h7 := hrq.ro
      exact hr.own k' i hi (h7.trans h6)
    · obtain ⟨h1, c, e, h2⟩ := hr.anc k hk
      obtain ⟨h3, h4⟩ := hanc k hk
      refine ⟨?_, c, e, h4.trans h2⟩
      rw [← h1]
      simp only [partOf, h3, h4, h2]
      cases hπ : π k with
      | none => rfl
      | some i =>
        obtain ⟨q, hq, hrq⟩ := hr.rel.obj k i hπ
        have hext : ext σ (fun _ => none) k = σ.obj k := if_pos (hr.dom k i hπ)
        rw [hext, h2] at hq
        cases hq
        obtain ⟨_, _, _, _, _, _, _, _, _, _, g1, g2, g3⟩ := hrq
        simp only [Option.map_some, PI.at, Nat.add_zero, ← g1, ← g2, ← g3]
    · rcases partOf_fr_inv hf with h1 | ⟨⟨b, cells, i2, h1, h2, h3⟩, _⟩
      · exact hr.frn B cc h1
      · exact .inr (h3 ▸ hr.own b i2 h2 (hfzo b cells i2 h1 h2).1)
  exact ⟨hp, hrep⟩
theorem tri_match {c : Code} {e ec : Env} {σ σc : ASt} {Q : AEx → Env → ASt → Prop} (hm : Match S G ι e σ ec σc) (h : TriC P G S N c ec σc Q) : TriC P G S N c e σ Q := by
  intro A w₀ π D w a M hr he hg hM
  obtain ⟨hp, hrep⟩ := match_rep hm hr
  obtain ⟨hlow, hwf, hinj, hobj, henv, hdom, hglob, hanc, hfz⟩ := hm
  refine h A w₀ (partOf ι π σc w) No w a M hrep ⟨he.size, fun t => ?_, he.defers⟩ (fun g hgg => ?_) hM
  · cases hec : ec.get t with
    | none => exact .any _
    | some v =>
      obtain ⟨v', h1, h2⟩ := henv t v hec
      have := he.tmp t
      rw [h1] at this
      exact h2.comp hp this
  · obtain ⟨h1, h2⟩ := hp.loc g g 0 (hglob g hgg)
    rcases (hg g hgg).2 with ⟨i, h3, h4, h5⟩ | ⟨_, h3⟩
    · obtain ⟨ic, g1, g2, g3, _⟩ := h2 i h3
      exact ⟨rfl, .inl ⟨ic, g1, h4.trans g2.symm, by rw [g3]; exact h5⟩⟩
    · exact absurd h3 h1
end
end Go.Abs
namespace Go.Abs
open Go.RowKit
structure Entry (G : Globs) (S : Nat → Bool) (ι : Ren) (args argsc : List Value) (σ σc : ASt) : Prop where
  low : σc.low ≤ σc.next
  wf : WF σc
  none : ∀ k, S k = false → σc.obj k = none
  obj : ∀ k, S k = true → ∃ k' sh c e o', ι k = some (k', sh) ∧ σc.obj k = some (.cells c e k true false) ∧ σ.obj k' = some o' ∧ ObjA ι k sh (.cells c e k true false) o'
  dom : ∀ k p, ι k = some p → S k = true
  args : VAs ι argsc args
  glob : ∀ g, G g = true → ι g = some (g, 0)
  fz : ∀ b cells, ι.fz b = some cells → ∃ e org ro, σ.obj b = some (.cells cells e org ro false)
structure Leave (S : Nat → Bool) (ι κ : Ren) (nw : Nat → Nat) (σ σ' σ1 : ASt) (v1 v : Value) : Prop where
  next : σ.next ≤ σ'.next
  low : σ'.low = σ.low
  klow : σ'.klow = σ.klow
  kept : ∀ k, k < σ.next ∨ σ'.next ≤ k → σ'.obj k = σ.obj k
  made : ∀ j, σ.next ≤ j → j < σ'.next → κ (nw j) = some (j, 0) ∧ ∃ c1 org1 e c, σ1.obj (nw j) = some (.cells c1 e org1 false false) ∧ σ'.obj j = some (.cells c e j false false) ∧ VAs κ c1 c
  ren : ∀ k k' sh, κ k = some (k', sh) → (S k = true ∧ ι k = some (k', sh)) ∨ (S k = false ∧ sh = 0 ∧ σ.next ≤ k' ∧ k' < σ'.next ∧ nw k' = k)
  val : VA κ v1 v
  inn : κ.inn = false
  dt : κ.dt = true → ∀ b, ι.fz b = none
noncomputable def EndsIn (T : Tab) (fn : Func) (R : Value → ASt → Prop) (x : AEx) (e : Env) (σ : ASt) : Prop :=
  @AEx.rec (fun _ => Prop) (∃ vs, resultsV T σ e fn.results.toList = some vs ∧ R (oneOrTuple vs) σ) (fun _ => False) (∃ vs, resultsV T σ e fn.results.toList = some vs ∧ R (oneOrTuple vs) σ) x
section
variable {P : Program} {T : Tab} {G : Globs} {S : Nat → Bool} {ι : Ren} {args argsc : List Value} {σ σc : ASt}
theorem Entry.rep {π : PMap} {δ D : Nat → Prop} {H : Nat → Option AObj} {w : World} {σ' : ASt} (h : Entry G S ι args argsc σ σc) (hp : Pre σ σ' π δ D H w) :
    RenP ι π D (partOf ι π σc w) ∧ Rep S (partOf ι π σc w) w σc (partOf ι π σc w) No w := by
  have hobj := h.obj
  have alive : ∀ k k' sh, ι k = some (k', sh) → ∃ c e o', σc.obj k = some (.cells c e k true false) ∧ σ.obj k' = some o' ∧ ObjA ι k sh (.cells c e k true false) o' := fun k k' sh hι => by
    obtain ⟨k2, sh2, c, e, o', h1, h2, h3, h4⟩ := h.obj k (h.dom k _ hι)
    rw [hι] at h1
    cases h1
    exact ⟨c, e, o', h2, h3, h4⟩
  have hkn : ∀ k k' sh, ι k = some (k', sh) → k' < σ.next := fun k k' sh hι => by
    obtain ⟨_, _, o', _, h2, _⟩ := alive k k' sh hι
    rcases Nat.lt_or_ge k' σ.next with h1 | h1
    · exact h1
    · rw [hp.wf k' h1] at h2; cases h2
  have hP0 : ∀ k k' sh, ι k = some (k', sh) → ¬ D k' ∧ ∀ i, π k' = some i → ∃ ic, partOf ι π σc w k = some ic ∧ ic.blk = i.blk ∧ ic.sh = i.sh + sh ∧ ic.bsize = i.bsize ∧ ic.esz = i.esz := fun k k' sh hι => by
    obtain ⟨c, e, o', h1, h2, h3⟩ := alive k k' sh hι
    refine ⟨fun hd => ?_, fun i hi => ⟨i.at k sh true c.length, ?_, rfl, rfl, rfl, rfl⟩⟩
    · rcases hp.dead k' hd with ⟨o, ho, hd2⟩ | h4
      · rw [h2] at ho; cases ho
        rw [h3.alive.1] at hd2; cases hd2
      · have := hkn k k' sh hι; have := hp.nle; omega
    · exact partOf_is hι h1 hi rfl
  have hfz : ∀ b cells, ι.fz b = some cells → b < σ.next ∧ ¬ D b ∧ ∀ i, π b = some i → ∃ cc, (partOf ι π σc w).fr i.blk = some cc ∧ i.sh + cells.length ≤ cc.length ∧ VRs π D cells ((cc.drop i.sh).take cells.length) := fun b cells hF => by
    obtain ⟨e, org, ro, ho⟩ := h.fz b cells hF
    have hb : b < σ.next := by
      rcases Nat.lt_or_ge b σ.next with h1 | h1
      · exact h1
      · rw [hp.wf b h1] at ho; cases ho
    refine ⟨hb, fun hd => ?_, fun i hi => ?_⟩
    · rcases hp.dead b hd with ⟨o, h1, h2⟩ | h4
      · rw [ho] at h1; cases h1; cases h2
      · have := hp.nle; omega
    · obtain ⟨q, hq, hrq⟩ := hp.rel.obj b i hi
      have hext : ext σ H b = σ.obj b := if_pos hb
      rw [hext, ho] at hq
      cases hq
      obtain ⟨cc, elem, fz, g1, g2, g3, g4, g5, _⟩ := hrq
      refine ⟨cc.toList, partOf_frz hF hi g1 ?_, by show _ ≤ cc.size; omega, g5⟩
      cases hc : π.fr i.blk with
      | none => exact .inl rfl
      | some c2 =>
        obtain ⟨_, _, h3⟩ := hp.rel.frz _ _ hc
        rw [g1] at h3; cases h3
        exact .inr rfl
  have hP : RenP ι π D (partOf ι π σc w) := ⟨hP0, fun B cc hf => partOf_fr hf, fun b cells hF => (hfz b cells hF).2⟩
  have hlt : ∀ k o, σc.obj k = some o → k < σc.next := fun k o ho => by
    rcases Nat.lt_or_ge k σc.next with h1 | h1
    · exact h1
    · rw [h.wf k h1] at ho; cases ho
  have hro : ∀ k ic, partOf ι π σc w k = some ic → ic.ro = true ∧ ic.org = k := fun k ic hk => by
    obtain ⟨k', sh, i, o, hι, ho, hi, rfl⟩ := partOf_some hk
    obtain ⟨c2, e2, o', h1, _⟩ := alive k k' sh hι
    rw [ho] at h1; cases h1
    exact ⟨rfl, rfl⟩
  refine ⟨hP, ⟨fun k ic hk => ?_, fun k ic hk => ⟨Nat.le_of_eq (hro k ic hk).2, fun _ => (hro k ic hk).2⟩, fun B cc hf => ?_, fun k ic hk hr => ?_, fun k₁ k₂ i₁ i₂ _ hk1 hk2 _ => .inl ⟨(hro _ _ hk1).1, (hro _ _ hk2).1⟩⟩, h.wf, h.low, fun k ic hk => ?_, fun k hk => hk.elim, fun k ic hk hr => ?_, Below.refl _ _, fun k hk => ⟨rfl, ?_⟩, fun _ _ hf => hf, fun _ _ hf => .inl hf⟩
  · obtain ⟨k', sh, i, o, hι, ho, hi, rfl⟩ := partOf_some hk
    refine ⟨_, (if_pos (hlt k _ ho)).trans ho, ?_⟩
    obtain ⟨c2, e2, o', h1, h2, h3⟩ := alive k k' sh hι
    rw [ho] at h1; cases h1
    obtain ⟨q, hq, hrq⟩ := hp.rel.obj k' i hi
    have hext : ext σ H k' = σ.obj k' := if_pos (hkn k k' sh hι)
    rw [hext, h2] at hq
    cases hq
    exact partOf_obj hP h3 hrq
  · rcases partOf_fr_inv hf with h1 | ⟨_, h1⟩
    · exact hp.rel.frz B cc h1
    · exact frAll_eq h1
  · rw [(hro k ic hk).1] at hr; cases hr
  · obtain ⟨k', sh, i, o, hι, ho, hi, rfl⟩ := partOf_some hk
    exact hlt k _ ho
  · rw [(hro k ic hk).1] at hr; cases hr
  · obtain ⟨k', sh, c, e, o', h1, h2, h3, h4⟩ := h.obj k hk
    exact ⟨c, e, h2⟩
theorem Leave.post {κ : Ren} {nw : Nat → Nat} {σ' σ1 : ASt} {v1 v v' : Value} {π π1 : PMap} {δ D D1 : Nat → Prop} {H : Nat → Option AObj} {w w1 : World}
    (hl : Leave S ι κ nw σ σ' σ1 v1 v) (hp : Pre σ σ' π δ D H w) (hr : Rep S (partOf ι π σc w) w σ1 π1 D1 w1) (hv : VR π1 D1 v1 v') :
    ∃ π', VR π' D v v' ∧ Post σ σ' π δ D H w π' D w1 := by
  let π' : PMap := ⟨fun j => if σ.next ≤ j ∧ j < σ'.next then (π1 (nw j)).map fun i => { i with org := j } else π j, if κ.dt = true then π1.fr else π.fr⟩
  have hfr1 : κ.dt = true → π'.fr = π1.fr := fun h => if_pos h
  have hfr2 : κ.dt ≠ true → π'.fr = π.fr := fun h => if_neg h
  have hfs : FrStep π π' w := by
    by_cases hd : κ.dt = true
    · refine ⟨fun B cc hf => ?_, fun B cc hf => ?_⟩
      · rw [hfr1 hd]; exact hr.fra B cc (partOf_fr hf)
      · rw [hfr1 hd] at hf
        rcases hr.frn B cc hf with h1 | h1
        · rcases partOf_fr_inv h1 with h2 | ⟨⟨b, cells, _, h2, _⟩, _⟩
          · exact .inl h2
          · rw [hl.dt hd b] at h2; cases h2
        · exact .inr h1
    · exact FrStep.same (hfr2 hd)
  have hold : ∀ j, ¬ (σ.next ≤ j ∧ j < σ'.next) → π' j = π j := fun j h => if_neg h
  have hnew : ∀ j, σ.next ≤ j → j < σ'.next → ∀ i, π' j = some i → ∃ i1, π1 (nw j) = some i1 ∧ i = { i1 with org := j } := fun j h1 h2 i hi => by
    have h3 : π' j = (π1 (nw j)).map fun i => { i with org := j } := if_pos ⟨h1, h2⟩
    rw [h3, Option.map_eq_some_iff] at hi
    obtain ⟨i1, h4, h5⟩ := hi
    exact ⟨i1, h4, h5.symm⟩
  have hfr : ∀ j, σ.next ≤ j → j < σ'.next → π j = none := hp.fresh
  have hq0 : ∀ k k' sh, κ k = some (k', sh) → ¬ D1 k ∧ ∀ ic, π1 k = some ic → ∃ i, π' k' = some i ∧ ic.blk = i.blk ∧ ic.sh = i.sh + sh ∧ ic.bsize = i.bsize ∧ ic.esz = i.esz := fun k k' sh hκ => by
    rcases hl.ren k k' sh hκ with ⟨h1, h2⟩ | ⟨h1, rfl, h3, h4, h5⟩
    · obtain ⟨h6, c, e, h7⟩ := hr.anc k h1
      refine ⟨fun hd => ?_, fun ic hic => ?_⟩
      · obtain ⟨o, ho, hd2⟩ := hr.dead k hd
        rw [h7] at ho; cases ho; cases hd2
      · rw [h6] at hic
        obtain ⟨k2, sh2, i, _, g1, g2, g3, rfl⟩ := partOf_some hic
        rw [h2] at g1; cases g1
        refine ⟨i, ?_, rfl, rfl, rfl, rfl⟩
        rw [hold k' fun hf => by rw [hfr k' hf.1 hf.2] at g3; cases g3]
        exact g3
    · obtain ⟨_, c1, org1, e, c, g1, g2, g3⟩ := hl.made k' h3 h4
      rw [h5] at g1
      refine ⟨fun hd => ?_, fun ic hic => ?_⟩
      · obtain ⟨o, ho, hd2⟩ := hr.dead k hd
        rw [g1] at ho; cases ho; cases hd2
      · refine ⟨{ ic with org := k' }, ?_, rfl, rfl, rfl, rfl⟩
        have h6 : π' k' = (π1 (nw k')).map fun i => { i with org := k' } := if_pos ⟨h3, h4⟩
        rw [h6, h5, hic]; rfl
  have hq : RenQ κ π1 D1 π' := ⟨hq0, hl.inn, fun hd B cc hf => by rw [hfr1 hd]; exact hf⟩
  have hobjn : ∀ j, σ.next ≤ j → j < σ'.next → ∀ i, π' j = some i → w.heap.size ≤ i.blk ∧ i.org = j ∧ i.ro = false ∧ ∃ o, σ'.obj j = some o ∧ isDead o = false ∧ ObjR π' D i w1 o := fun j h1 h2 i hi => by
    obtain ⟨i1, h3, rfl⟩ := hnew j h1 h2 i hi
    obtain ⟨_, c1, org1, e, c, g1, g2, g3⟩ := hl.made j h1 h2
    obtain ⟨o1, ho1, hr1⟩ := hr.rel.obj (nw j) i1 h3
    have hext : ext σ1 (fun _ => none) (nw j) = σ1.obj (nw j) := if_pos (hr.dom _ _ h3)
    rw [hext, g1] at ho1
    cases ho1
    obtain ⟨cc, elem, fz, a1, a2, a3, a4, a5, a6, a7, a8, a9, a10⟩ := hr1
    refine ⟨show w.heap.size ≤ i1.blk from hr.own (nw j) i1 h3 a9, rfl, a9, _, g2, rfl, ?_⟩
    have hlen := g3.1
    refine ⟨cc, elem, fz, a1, a2, by show i1.sh + c.length ≤ i1.bsize; omega, VAs.oneCells' g3 a4, ?_, a6, a7, rfl, a9, by show i1.len = c.length; omega⟩
    show VRs π' D c ((cc.toList.drop i1.sh).take c.length)
    rw [← hlen]; exact g3.back hq a5
  have hmono : Mono σ σ' := ⟨hl.next, Nat.le_of_eq hl.low, Nat.le_of_eq hl.klow, fun hw k hk => (hl.kept k (.inr hk)).trans (hw k (Nat.le_trans hl.next hk)), fun k hk => by rw [hl.kept k (.inl hk)]; exact .refl _ _ _ _⟩
  have hstep : PStep π D π' D := ⟨fun k i hk => .inl ((hold k fun hf => by rw [hfr k hf.1 hf.2] at hk; cases hk).trans hk), fun k hk hd => ⟨by
    rw [hold k fun hf => by
      rcases hp.dead k hd with h1 | h1
      · have := deadIn_lt hp.wf h1; omega
      · omega]
    exact hk, hd⟩, hfs.1⟩
  refine ⟨π', hl.val.back hq hv, ⟨hmono, ⟨fun k i hk => ?_, fun k i hk => ?_, fun B cc hf => ?_, fun k i hk hro => ?_, fun k₁ k₂ i₁ i₂ hne hk1 hk2 hb => ?_⟩, fun k i hk => ?_, fun k i hk => ?_, fun k hd => hd, fun k hd => .inl hd, fun k hk hd hnd => ?_, fun k i hk => ?_, fun k i hk hro => ?_, hfs, ⟨hr.old.os, hr.old.tape, hr.old.output, hr.old.size, fun B hB _ => hr.old.block B hB⟩⟩⟩
  · by_cases hf : σ.next ≤ k ∧ k < σ'.next
    · obtain ⟨_, _, _, o, ho, _, hro⟩ := hobjn k hf.1 hf.2 i hk
      exact ⟨o, (if_pos hf.2).trans ho, hro⟩
    · rw [hold k hf] at hk
      obtain ⟨o, ho, hro⟩ := hp.rel.obj k i hk
      refine ⟨o, ?_, hro.mono hstep (hr.old.block i.blk (hp.rel.lt hk))⟩
      rw [← ho]
      by_cases h1 : k < σ.next
      · exact (if_pos (Nat.lt_of_lt_of_le h1 hl.next)).trans ((hl.kept k (.inl h1)).trans (if_pos h1).symm)
      · exact (if_neg (by omega)).trans (if_neg h1).symm
  · by_cases hf : σ.next ≤ k ∧ k < σ'.next
    · obtain ⟨_, h1, _⟩ := hobjn k hf.1 hf.2 i hk
      exact ⟨Nat.le_of_eq h1, fun _ => h1⟩
    · rw [hold k hf] at hk
      exact hp.rel.kin k i hk
  · by_cases hd : κ.dt = true
    · rw [hfr1 hd] at hf; exact hr.rel.frz B cc hf
    · rw [hfr2 hd] at hf
      obtain ⟨el, fz, h1⟩ := hp.rel.frz B cc hf
      exact ⟨el, fz, (hr.old.block B (blk_lt h1)).trans h1⟩
  · by_cases hf : σ.next ≤ k ∧ k < σ'.next
    · obtain ⟨h1, _⟩ := hobjn k hf.1 hf.2 i hk
      obtain ⟨i1, h3, rfl⟩ := hnew k hf.1 hf.2 i hk
      by_cases hd : κ.dt = true
      · rw [hfr1 hd]; exact hr.rel.fro (nw k) i1 h3 hro
      · rw [hfr2 hd]
        cases hc : π.fr i1.blk with
        | none => rfl
        | some cc =>
          obtain ⟨_, _, h4⟩ := hp.rel.frz _ _ hc
          have := blk_lt h4
          have h5 : w.heap.size ≤ i1.blk := h1
          omega
    · rw [hold k hf] at hk
      have h1 := hp.rel.fro k i hk hro
      by_cases hd : κ.dt = true
      · cases hc : π'.fr i.blk with
        | none => rfl
        | some cc =>
          exfalso
          rcases hfs.2 _ _ hc with h2 | h2
          · rw [h1] at h2; cases h2
          · have := hp.rel.lt hk; omega
      · rw [hfr2 hd]; exact h1
  · by_cases hf1 : σ.next ≤ k₁ ∧ k₁ < σ'.next
    · by_cases hf2 : σ.next ≤ k₂ ∧ k₂ < σ'.next
      · exfalso
        obtain ⟨j1, g1, rfl⟩ := hnew k₁ hf1.1 hf1.2 i₁ hk1
        obtain ⟨j2, g2, rfl⟩ := hnew k₂ hf2.1 hf2.2 i₂ hk2
        obtain ⟨m1, c1, org1, e1, c1', m2, m3, _⟩ := hl.made k₁ hf1.1 hf1.2
        obtain ⟨m4, c2, org2, e2, c2', m5, m6, _⟩ := hl.made k₂ hf2.1 hf2.2
        have hne2 : nw k₁ ≠ nw k₂ := fun h => by rw [h, m4] at m1; cases m1; exact hne rfl
        have nd : ∀ k c e org, σ1.obj k = some (.cells c e org false false) → ¬ deadIn σ1 k := fun k c e org h ⟨o, ho, hd⟩ => by rw [h] at ho; cases ho; cases hd
        rcases hr.rel.sep _ _ j1 j2 hne2 g1 g2 hb with ⟨h3, _⟩ | ⟨_, _, _, h4 | h4⟩
        · obtain ⟨_, _, h5, _⟩ := hobjn k₁ hf1.1 hf1.2 _ hk1
          rw [show j1.ro = false from h5] at h3; cases h3
        · exact nd _ _ _ _ m2 h4.1
        · exact nd _ _ _ _ m5 h4.1
      · exfalso
        obtain ⟨h1, _⟩ := hobjn k₁ hf1.1 hf1.2 i₁ hk1
        rw [hold k₂ hf2] at hk2
        have := hp.rel.lt hk2
        omega
    · by_cases hf2 : σ.next ≤ k₂ ∧ k₂ < σ'.next
      · exfalso
        obtain ⟨h1, _⟩ := hobjn k₂ hf2.1 hf2.2 i₂ hk2
        rw [hold k₁ hf1] at hk1
        have := hp.rel.lt hk1
        omega
      · rw [hold k₁ hf1] at hk1
        rw [hold k₂ hf2] at hk2
        rcases hp.rel.sep k₁ k₂ i₁ i₂ hne hk1 hk2 hb with h3 | ⟨h3, h4, h5, h6⟩
        · exact .inl h3
        · exact .inr ⟨h3, h4, h5, h6.imp (fun h => ⟨.inl h.1, h.2⟩) (fun h => ⟨.inl h.1, h.2⟩)⟩
  · by_cases hf : σ.next ≤ k ∧ k < σ'.next
    · exact .inr ⟨hfr k hf.1 hf.2, hf.1, hf.2⟩
    · rw [hold k hf] at hk; exact .inl hk
  · exact .inl ((hold k fun hf => by rw [hfr k hf.1 hf.2] at hk; cases hk).trans hk)
  · obtain ⟨o, ho, hd2⟩ := hd
    rw [hl.kept k (.inl hk)] at ho
    exact absurd ⟨o, ho, hd2⟩ hnd
  · by_cases hf : σ.next ≤ k ∧ k < σ'.next
    · obtain ⟨_, h1, _⟩ := hobjn k hf.1 hf.2 i hk
      exact .inl (by rw [h1]; exact hf.1)
    · rw [hold k hf] at hk; exact .inr ⟨k, i, hk, rfl⟩
  · by_cases hf : σ.next ≤ k ∧ k < σ'.next
    · obtain ⟨h1, _⟩ := hobjn k hf.1 hf.2 i hk
      exact .inr h1
    · rw [hold k hf] at hk; exact .inl ⟨k, i, hk, hro, rfl⟩
theorem call_spec {f : FuncId} {fn : Func} {c : Code} (hfn : FnOk1 P G f fn) (hb : fn.body = some c) (hT : TyOk P T) {σ' : ASt} {v : Value} (hent : Entry G S ι args argsc σ σc)
    (hrun : ∀ N, fn.ntmps ≤ N → TriC P G S N c (initEnv argsc 0 .leaf) σc (EndsIn T fn fun v1 σ1 => ∃ κ nw, Leave S ι κ nw σ σ' σ1 v1 v)) :
    Enters P f ∧ (σ.low ≤ σ.next → ∀ π δ D H w args', GlobR G π D → VRs π D args args' → Pre σ σ' π δ D H w → Calls P f ⟨args'⟩ w (Back σ σ' π δ D H w v)) := by
  obtain ⟨g1, g2, g3⟩ := hfn
  refine ⟨⟨fn, g1, g2, by rw [hb]; rfl⟩, fun _ π δ D H w args' hg ha hp => ?_⟩
  obtain ⟨hP, hrep⟩ := hent.rep hp
  have hac : VRs (partOf ι π σc w) No argsc args' := hent.args.comp hP ha
  refine calls_of_wp g1 hb ?_
  have hsz : (⟨args'⟩ : Array Value).size = args'.length := rfl
  rw [hsz]
  have hgl : GlobR G (partOf ι π σc w) No := fun g hgg => by
    obtain ⟨h1, h2⟩ := hP.loc g g 0 (hent.glob g hgg)
    rcases (hg g hgg).2 with ⟨i, h3, h4, h5⟩ | ⟨_, h3⟩
    · obtain ⟨ic, a1, a2, a3, _⟩ := h2 i h3
      exact ⟨rfl, .inl ⟨ic, a1, h4.trans a2.symm, by rw [a3]; exact h5⟩⟩
    · exact absurd h3 h1
  refine hrun (args'.length + (fn.ntmps - args'.length)) (by omega) (partOf ι π σc w) w (partOf ι π σc w) No w _ _ hrep (EnvR.start hac fn.ntmps) hgl fun x e' σ1 π1 D1 w1 a1 hx hr1 he1 hg1 => ?_
  have hend : ∀ vs, resultsV T σ1 e' fn.results.toList = some vs → (∃ κ nw, Leave S ι κ nw σ σ' σ1 (oneOrTuple vs) v) → bodyPost P fn (Back σ σ' π δ D H w v) .ret a1 w1 := fun vs h1 ⟨κ, nw, h2⟩ => by
    obtain ⟨v', hv1, hv2⟩ := sim_results hT (hr1.pre (Nat.le_refl _)) he1 h1
    obtain ⟨π', h3, h4⟩ := h2.post hp hr1 hv2
    exact ⟨he1.defers, v', hv1, v', π', D, rfl, h3, h4⟩
  cases x with
  | normal => obtain ⟨vs, h1, h2⟩ := hx; exact hend vs h1 h2
  | exit id => exact hx.elim
  | ret => obtain ⟨vs, h1, h2⟩ := hx; exact hend vs h1 h2
end
end Go.Abs
namespace Go.Abs
inductive Sh where
  | int (k : IntKind)
  | bool
  | str
noncomputable def shapesL (f : TypeId → Option (List Sh)) : List TypeId → Option (List Sh)
  | [] => some []
  | t :: ts => andThen (f t) fun a => andThen (shapesL f ts) fun b => some (a ++ b)
noncomputable def shapes (T : Tab) : Nat → TypeId → Option (List Sh)
  | 0, _ => none
  | fuel + 1, t => andThen (desc T t) fun ds => match ds with
    | .bool => some [.bool]
    | .int k => some [.int k]
    | .string => some [.str]
    | .struct fs => andThen (size T t) fun z => iff (contig T fs.toList 0 z) (shapesL (shapes T fuel) (fs.toList.map (·.type))) none
    | .array len e => andThen (size T t) fun z => andThen (size T e) fun ze => iff (Nat.beq z (len * ze)) (shapesL (shapes T fuel) (List.replicate len e)) none
    | _ => none
end Go.Abs
namespace Go.Abs
noncomputable def memN (n : Nat) (l : List Nat) : Bool := @List.rec Nat (fun _ => Bool) false (fun a _ ih => iff (Nat.beq n a) true ih) l
noncomputable def kindAt (n : Nat) (l : List (Nat × Nat)) : Nat := @List.rec (Nat × Nat) (fun _ => Nat) (nat_lit 0) (fun a _ ih => iff (Nat.beq n a.1) a.2 ih) l
inductive HT where
  | done
  | lit (h : HT)
  | split (a b : HT)
  | sure (c : Bool) (h : HT)
class CGuard where
  fn : FuncId → List Value → ASt → Option (Bool × (Value × ASt))
instance : CGuard := ⟨fun _ _ _ => none⟩
structure Hint where
  kd : List (Nat × Nat)
  un : List (Nat × Nat)
  [cg : CGuard]
noncomputable def looked (draw : Bool) (σ : ASt) : ASt := iff draw ⟨σ.heap, σ.next, minN σ.low σ.next, σ.klow⟩ σ
section
variable (T : Tab) (call : CallF)
end
def firstId : Code → Nat
  | .region id _ _ => id
  | .seq a _ => firstId a
  | .cond _ a _ => firstId a
  | .block _ c => firstId c
  | .loop c => firstId c
  | .scope c => firstId c
  | _ => nat_lit 0
section
variable (L : Code → Env → ASt → (AEx → HT → Env → ASt → Prop) → Prop) (T : Tab) (call : CallF) (h : Hint)
end
section
variable {P : Program} {G : Globs} {S : Nat → Bool} {N : Nat} {T : Tab} {call : CallF} {h : Hint}
theorem env_ext {e e' : Env} (he : ∀ t, e'.get t = e.get t) : env e' = env e := by
  funext x
  cases x with
  | tmp t => show orUndef _ = orUndef _; rw [he]
  | _ => rfl
end
end Go.Abs
namespace Go.Abs
abbrev SpecF := List Value → ASt → Res
def SpecSim (P : Program) (G : Globs) (f : FuncId) (s : SpecF) : Prop :=
  (∀ args σ v σ', s args σ = some (v, σ') → Mono σ σ') ∧ ∀ args σ v σ', s args σ = some (v, σ') → Enters P f ∧
    (σ.low ≤ σ.next → ∀ π δ D H w args', GlobR G π D → VRs π D args args' → Pre σ σ' π δ D H w → Calls P f ⟨args'⟩ w (Back σ σ' π δ D H w v))
theorem SpecSim.mono {P : Program} {G G' : Globs} {f : FuncId} {s : SpecF} (h : SpecSim P G f s) (hg : ∀ g, G g = true → G' g = true) : SpecSim P G' f s :=
  ⟨h.1, fun args σ v σ' hs => ⟨(h.2 args σ v σ' hs).1, fun hl π δ D H w args' hgl ha hp => (h.2 args σ v σ' hs).2 hl π δ D H w args' (fun g hgg => hgl g (hg g hgg)) ha hp⟩⟩
noncomputable def callL (l : List (FuncId × SpecF)) : CallF := @List.rec (FuncId × SpecF) (fun _ => CallF) (fun _ _ _ => none) (fun p _ ih f args σ => iff (Nat.beq f p.1) (p.2 args σ) (ih f args σ)) l
theorem callL_okE {P : Program} {G : Globs} : ∀ {l : List (FuncId × SpecF)}, (∀ p ∈ l, SpecSim P G p.1 p.2) → CallSimE P G (callL l) ∧ MonoF (callL l)
  | [], _ => ⟨fun f args σ v σ' h => (by cases (show none = some (v, σ') from h)), fun f args σ v σ' h => (by cases (show none = some (v, σ') from h))⟩
  | p :: l, hp => by
    have ih := callL_okE (l := l) fun q hq => hp q (by simp [hq])
    have h0 := hp p (by simp)
    have key : ∀ f args σ v σ', callL (p :: l) f args σ = some (v, σ') → (f = p.1 ∧ p.2 args σ = some (v, σ')) ∨ callL l f args σ = some (v, σ') := fun f args σ v σ' h => by
      have h' : iff (Nat.beq f p.1) (p.2 args σ) (callL l f args σ) = some (v, σ') := h
      rw [iff_eq] at h'
      split at h'
      · rename_i hb; exact .inl ⟨(beq_iff _ _).1 hb, h'⟩
      · exact .inr h'
    refine ⟨fun f args σ v σ' h => ?_, fun f args σ v σ' h => ?_⟩
    · rcases key f args σ v σ' h with ⟨rfl, h1⟩ | h1
      · exact h0.2 args σ v σ' h1
      · exact ih.1 f args σ v σ' h1
    · rcases key f args σ v σ' h with ⟨rfl, h1⟩ | h1
      · exact h0.1 args σ v σ' h1
      · exact ih.2 f args σ v σ' h1
theorem callL_ok {P : Program} {G : Globs} {l : List (FuncId × SpecF)} (h : ∀ p ∈ l, SpecSim P G p.1 p.2) : CallSim P G (callL l) ∧ MonoF (callL l) := ⟨(callL_okE h).1.sim, (callL_okE h).2⟩
def noG : Globs := fun _ => false
theorem resultsV_ext {T : Tab} {e e' : Env} {σ : ASt} (he : ∀ t, e'.get t = e.get t) : ∀ rs : List ResultVar, resultsV T (norm σ) e' rs = resultsV T σ e rs
  | [] => rfl
  | .tmp t :: rs => by
    show andThen (resultsV T (norm σ) e' rs) (fun vs => some (env e' (.tmp t) :: vs)) = andThen (resultsV T σ e rs) (fun vs => some (env e (.tmp t) :: vs))
    rw [resultsV_ext he rs, env_ext he]
  | .cell a t :: rs => by
    show andThen2 (asPtr (env e' (.tmp a))) (fun k off => andThen (loadV T σ t k off) fun v => andThen (resultsV T (norm σ) e' rs) fun vs => some (v :: vs)) = andThen2 (asPtr (env e (.tmp a))) (fun k off => andThen (loadV T σ t k off) fun v => andThen (resultsV T σ e rs) fun vs => some (v :: vs))
    rw [resultsV_ext he rs, env_ext he]
def noRen : Ren := ⟨fun _ => none, fun _ => none, false, true⟩
theorem noAddr_leave {S : Nat → Bool} {ι : Ren} (hf : ∀ b, ι.fz b = none) {σ σ1 : ASt} {v : Value} (hv : VA noRen v v) : Leave S ι noRen id σ σ σ1 v v :=
  ⟨Nat.le_refl _, rfl, rfl, fun _ _ => rfl, fun j h1 h2 => (by omega), fun k k' sh h => (by cases h), hv, rfl, fun _ => hf⟩
noncomputable def mkTr {α : Type} (l : List (Nat × α)) : Tr α := @List.rec (Nat × α) (fun _ => Tr α) .leaf (fun p _ ih => ih.set p.1 p.2) l
noncomputable def mkTr2 {α : Type} : List Nat → List α → Tr α
  | k :: ks, a :: as => (mkTr2 ks as).set k a
  | _, _ => .leaf
def look2 {α : Type} : List Nat → List α → Nat → Option α
  | k :: ks, a :: as, n => if n = k then some a else look2 ks as n
  | _, _, _ => none
theorem mkTr2_get {α : Type} : ∀ (ks : List Nat) (as : List α) (n : Nat), (mkTr2 ks as).get n = look2 ks as n
  | k :: ks, a :: as, n => by
    rw [show mkTr2 (k :: ks) (a :: as) = (mkTr2 ks as).set k a from rfl, Tr.get_set, mkTr2_get ks as n]; rfl
  | [], _, n => by cases ‹List α› <;> rfl
  | _ :: _, [], n => rfl
def renLoc : List Nat → List Nat → Nat → Option (Nat × Nat)
  | k :: ks, k' :: ks', n => if n = k then some (k', 0) else renLoc ks ks' n
  | _, _, _ => none
def renF (F : Nat → Option (List Value)) (ks ks' : List Nat) : Ren := ⟨renLoc ks ks', F, true, true⟩
def renL (ks ks' : List Nat) : Ren := renF (fun _ => none) ks ks'
noncomputable def ownRow (σ : ASt) (b : Nat) : Option (List Value) := andThen (σ.obj b) fun o => andThen3 (rowsOf o) fun c _ _ => some c
def ObjAs (ι : Ren) : List Nat → List AObj → List AObj → Prop
  | k :: ks, o :: os, o' :: os' => ObjA ι k 0 o o' ∧ ObjAs ι ks os os'
  | [], [], [] => True
  | _, _, _ => False
theorem renL_some : ∀ {ks ks' : List Nat} {k : Nat} {p : Nat × Nat}, renLoc ks ks' k = some p → ∃ i : Nat, ks[i]? = some k ∧ ks'[i]? = some p.1 ∧ p.2 = 0
  | a :: ks, b :: ks', k, p, h => by
    unfold renLoc at h
    split at h
    · rename_i hk; cases h; exact ⟨0, by rw [hk]; rfl, rfl, rfl⟩
    · obtain ⟨i, h1, h2, h3⟩ := renL_some h
      exact ⟨i + 1, h1, h2, h3⟩
  | [], _, k, p, h => by cases ‹List Nat› <;> cases h
  | _ :: _, [], k, p, h => by cases h
theorem look2_some {α : Type} : ∀ {ks : List Nat} {as : List α} {k : Nat} {a : α}, look2 ks as k = some a → ∃ i : Nat, ks[i]? = some k ∧ as[i]? = some a
  | x :: ks, b :: as, k, a, h => by
    unfold look2 at h
    split at h
    · rename_i hk; cases h; exact ⟨0, by rw [hk]; rfl, rfl⟩
    · obtain ⟨i, h1, h2⟩ := look2_some h
      exact ⟨i + 1, h1, h2⟩
  | [], _, k, a, h => by cases ‹List α› <;> cases h
  | _ :: _, [], k, a, h => by cases h
noncomputable def cutS (kb : List Nat) (os : List AObj) (n : Nat) : ASt := ⟨mkTr2 kb os, n, n, n⟩
def allLt (n : Nat) (l : List Nat) : Bool := l.all fun k => Nat.blt k n
def noDup : List Nat → Bool
  | [] => true
  | a :: l => and (not (l.contains a)) (noDup l)
def cutB (sb kb kb' : List Nat) (n : Nat) : Bool := and (and (noDup kb) (noDup kb')) (and (and (allLt n kb) (Nat.beq kb.length kb'.length)) (sb.isPrefixOf kb && sb.isPrefixOf kb'))
theorem noDup_inj : ∀ {l : List Nat}, noDup l = true → ∀ {i j k : Nat}, l[i]? = some k → l[j]? = some k → i = j
  | a :: l, h, i, j, k, h1, h2 => by
    simp only [noDup, Bool.and_eq_true, Bool.not_eq_true', List.contains_eq_mem, decide_eq_false_iff_not] at h
    cases i with
    | zero =>
      cases j with
      | zero => rfl
      | succ j =>
        simp only [List.getElem?_cons_zero, Option.some.injEq] at h1
        subst h1
        exact absurd (List.mem_of_getElem? (by simpa using h2)) h.1
    | succ i =>
      cases j with
      | zero =>
        simp only [List.getElem?_cons_zero, Option.some.injEq] at h2
        subst h2
        exact absurd (List.mem_of_getElem? (by simpa using h1)) h.1
      | succ j => rw [noDup_inj h.2 (i := i) (j := j) (by simpa using h1) (by simpa using h2)]
  | [], _, i, j, k, h1, _ => by simp at h1
theorem ObjAs.get {ι : Ren} : ∀ {ks : List Nat} {os os' : List AObj}, ObjAs ι ks os os' → os.length = ks.length ∧ os'.length = ks.length ∧ ∀ (i k : Nat) o, ks[i]? = some k → os[i]? = some o → ∃ o', os'[i]? = some o' ∧ ObjA ι k 0 o o'
  | [], [], [], _ => ⟨rfl, rfl, fun i k o h => by simp at h⟩
  | k :: ks, o :: os, o' :: os', ⟨h1, h2⟩ => by
    obtain ⟨h3, h4, h5⟩ := ObjAs.get h2
    refine ⟨by simp [h3], by simp [h4], fun i k2 o2 hi ho => ?_⟩
    cases i with
    | zero =>
      simp only [List.getElem?_cons_zero, Option.some.injEq] at hi ho
      subst hi; subst ho
      exact ⟨o', rfl, h1⟩
    | succ i => exact h5 i k2 o2 (by simpa using hi) (by simpa using ho)
  | [], [], _ :: _, h => h.elim
  | [], _ :: _, _, h => by cases ‹List AObj› <;> exact h.elim
  | _ :: _, [], _, h => by cases ‹List AObj› <;> exact h.elim
  | _ :: _, _ :: _, [], h => h.elim
theorem renL_at : ∀ {ks ks' : List Nat} {i k k' : Nat}, noDup ks = true → ks[i]? = some k → ks'[i]? = some k' → renLoc ks ks' k = some (k', 0)
  | a :: ks, b :: ks', i, k, k', hn, h1, h2 => by
    unfold renLoc
    by_cases hk : k = a
    · subst hk
      have : i = 0 := noDup_inj hn h1 rfl
      subst this
      simp only [List.getElem?_cons_zero, Option.some.injEq] at h2
      subst h2
      rw [if_pos rfl]
    · rw [if_neg hk]
      cases i with
      | zero => simp only [List.getElem?_cons_zero, Option.some.injEq] at h1; exact absurd h1.symm hk
      | succ i =>
        simp only [noDup, Bool.and_eq_true] at hn
        exact renL_at hn.2 (by simpa using h1) (by simpa using h2)
  | [], _, i, k, k', _, h1, _ => by simp at h1
  | _ :: _, [], i, k, k', _, _, h2 => by simp at h2
theorem look2_at {α : Type} : ∀ {ks : List Nat} {as : List α} {i k : Nat} {a : α}, noDup ks = true → ks[i]? = some k → as[i]? = some a → look2 ks as k = some a
  | x :: ks, b :: as, i, k, a, hn, h1, h2 => by
    unfold look2
    by_cases hk : k = x
    · subst hk
      have : i = 0 := noDup_inj hn h1 rfl
      subst this
      simp only [List.getElem?_cons_zero, Option.some.injEq] at h2
      subst h2
      rw [if_pos rfl]
    · rw [if_neg hk]
      cases i with
      | zero => simp only [List.getElem?_cons_zero, Option.some.injEq] at h1; exact absurd h1.symm hk
      | succ i =>
        simp only [noDup, Bool.and_eq_true] at hn
        exact look2_at hn.2 (by simpa using h1) (by simpa using h2)
  | [], _, i, k, a, _, h1, _ => by simp at h1
  | _ :: _, [], i, k, a, _, _, h2 => by simp at h2
theorem memN_iff (n : Nat) : ∀ l : List Nat, memN n l = true ↔ n ∈ l
  | [] => by simp [memN]
  | a :: l => by
    show iff (Nat.beq n a) true (memN n l) = true ↔ _
    rw [iff_eq]
    by_cases h : Nat.beq n a = true
    · rw [if_pos h]; simp [(beq_iff _ _).1 h]
    · rw [if_neg h, memN_iff n l]
      have : n ≠ a := fun hn => h ((beq_iff _ _).2 hn)
      simp [this]
end Go.Abs
namespace Go.Abs
def codeOf (fn : Func) : Code := match fn.body with | some c => c | none => .skip
theorem codeOf_ok {fn : Func} (h : fn.body.isSome = true) : fn.body = some (codeOf fn) := by
  unfold codeOf
  cases hb : fn.body with
  | none => rw [hb] at h; cases h
  | some c => rfl
noncomputable def gI (k : IntKind) (v : Value) : Option Int := andThen2 (asI v) fun k' n => iff (sameKind k' k) (some n) none
theorem gI_eq {k : IntKind} {v : Value} {n : Int} (h : gI k v = some n) : v = .int k n := by
  obtain ⟨k', m, h1, h2⟩ := andThen2_eq h
  obtain ⟨h3, h4⟩ := iff_some h2
  cases h4
  rw [sameKind_iff] at h3
  subst h3
  exact asI_eq h1
noncomputable def gB (v : Value) : Option Bool := asB v
theorem gB_eq {v : Value} {b : Bool} (h : gB v = some b) : v = .bool b := asB_eq h
def g1 {α : Type} : List α → Option α | [a] => some a | _ => none
def g2 {α : Type} : List α → Option (α × α) | [a, b] => some (a, b) | _ => none
def g3 {α : Type} : List α → Option (α × α × α) | [a, b, c] => some (a, b, c) | _ => none
def g4 {α : Type} : List α → Option (α × α × α × α) | [a, b, c, d] => some (a, b, c, d) | _ => none
theorem VA.bareA {ι : Ren} {v : Value} (h : Abs.bareA v = true) : VA ι v v := by
  cases v with
  | agg cs =>
    obtain ⟨cs⟩ := cs
    refine (VAs.bare fun v hv => ?_).agg
    have h' : bareAll cs = true := h
    clear h
    induction cs with
    | nil => simp at hv
    | cons a cs ih =>
      have h2 : Abs.iff (Abs.bare a) (bareAll cs) false = true := h'
      rw [iff_eq] at h2
      split at h2
      · rename_i ha
        rcases List.mem_cons.1 hv with rfl | hv
        · exact ha
        · exact ih hv h2
      · cases h2
  | _ => exact VA.bare h
theorem VA.bareR {ι : Ren} {v : Value} (h : Abs.bareR v = true) : VA ι v v := by
  cases v with
  | tuple cs =>
    obtain ⟨cs⟩ := cs
    have h0 : Abs.iff (isDatL cs) false (bareAllA cs) = true := h
    clear h
    rw [iff_eq] at h0
    by_cases hd : isDatL cs = true
    · rw [if_pos hd] at h0; cases h0
    have hd' : isDatL cs = false := by simpa using hd
    rw [if_neg hd] at h0
    refine VAs.tuple hd' hd' ?_
    have h' := h0
    clear h0 hd hd'
    induction cs with
    | nil => exact .nil
    | cons a cs ih =>
      have h2 : Abs.iff (Abs.bareA a) (bareAllA cs) false = true := h'
      rw [iff_eq] at h2
      split at h2
      · rename_i ha
        exact .cons (VA.bareA ha) (ih h2)
      · cases h2
  | agg cs => exact VA.bareA (v := .agg cs) h
  | _ => exact VA.bare h
theorem VA.ints {ι : Ren} {k : IntKind} (r : List Int) : VA ι (.agg ⟨r.map (.int k)⟩) (.agg ⟨r.map (.int k)⟩) :=
  (VAs.bare fun v hv => by obtain ⟨n, _, rfl⟩ := List.mem_map.1 hv; rfl).agg
section
variable {P : Program} {T : Tab} {call : CallF}
end
noncomputable def hasTab (k : Nat) (c : List Value) (σ : ASt) : Bool := match σ.obj k with | some (.cells c' none _ _ false) => sameInts c c' | _ => false
noncomputable def hasTabs (tabs : List (Nat × List Value)) (σ : ASt) : Bool := @List.rec (Nat × List Value) (fun _ => Bool) true (fun p _ ih => iff (hasTab p.1 p.2 σ) ih false) tabs
theorem hasTab_eq {k : Nat} {c : List Value} {σ : ASt} (h : hasTab k c σ = true) : ∃ org ro, σ.obj k = some (.cells c none org ro false) := by
  unfold hasTab at h
  split at h
  · rename_i c' org ro ho
    exact ⟨org, ro, by rw [ho, (sameInts_eq _ _ h).1]⟩
  · cases h
theorem hasTabs_eq : ∀ {tabs : List (Nat × List Value)} {σ : ASt}, hasTabs tabs σ = true → ∀ p ∈ tabs, ∃ org ro, σ.obj p.1 = some (.cells p.2 none org ro false)
  | [], _, _, p, hp => by cases hp
  | q :: tabs, σ, h, p, hp => by
    have h' : Abs.iff (hasTab q.1 q.2 σ) (hasTabs tabs σ) false = true := h
    rw [iff_eq] at h'
    split at h'
    · rename_i h1
      rcases List.mem_cons.1 hp with rfl | hp
      · exact hasTab_eq h1
      · exact hasTabs_eq h' p hp
    · cases h'
def tabRo (k : Nat) (c : List Value) : AObj := .cells c none k true false
noncomputable def tabS (tabs : List (Nat × List Value)) (n : Nat) : ASt := cutS (tabs.map (·.1)) (tabs.map fun p => tabRo p.1 p.2) n
def intsB (c : List Value) : Bool := c.all fun v => (asI v).isSome
theorem intsB_bare {c : List Value} (h : intsB c = true) : ∀ v ∈ c, Abs.bare v = true := fun v hv => by
  have := List.all_eq_true.1 h v hv
  cases v <;> simp [asI] at this ⊢
  rfl
theorem tab_entryF {G : Globs} {F : Nat → Option (List Value)} {tabs : List (Nat × List Value)} {n : Nat} {args argsc : List Value} {σ : ASt} (hb : cutB [] (tabs.map (·.1)) (tabs.map (·.1)) n = true) (hi : ∀ p ∈ tabs, intsB p.2 = true) (hG : ∀ g, G g = true → memN g (tabs.map (·.1)) = true) (ht : hasTabs tabs σ = true)
    (hva : VAs (renF F (tabs.map (·.1)) (tabs.map (·.1))) argsc args) (hF : ∀ b cells, F b = some cells → ∃ e org ro, σ.obj b = some (.cells cells e org ro false)) : Entry G (fun k => memN k (tabs.map (·.1))) (renF F (tabs.map (·.1)) (tabs.map (·.1))) args argsc σ (tabS tabs n) := by
  simp only [cutB, Bool.and_eq_true, beq_iff, allLt, List.all_eq_true] at hb
  obtain ⟨⟨hn1, _⟩, ⟨hlt, _⟩, _⟩ := hb
  have hobj : ∀ k, (tabS tabs n).obj k = look2 (tabs.map (·.1)) (tabs.map fun p => tabRo p.1 p.2) k := fun k => mkTr2_get _ _ k
  have hat : ∀ k, memN k (tabs.map (·.1)) = true → ∃ p ∈ tabs, p.1 = k ∧ (tabS tabs n).obj k = some (tabRo k p.2) ∧ renLoc (tabs.map (·.1)) (tabs.map (·.1)) k = some (k, 0) := fun k hk => by
    rw [memN_iff, List.mem_map] at hk
    obtain ⟨p, hp, rfl⟩ := hk
    obtain ⟨i, hi2, rfl⟩ := List.getElem_of_mem hp
    have h1 : (tabs.map (·.1))[i]? = some tabs[i].1 := by rw [List.getElem?_map, List.getElem?_eq_getElem hi2]; rfl
    refine ⟨_, hp, rfl, ?_, renL_at hn1 h1 h1⟩
    rw [hobj]
    refine look2_at hn1 h1 ?_
    rw [List.getElem?_map, List.getElem?_eq_getElem hi2]; rfl
  refine ⟨Nat.le_refl _, fun k hk => ?_, fun k hk => ?_, fun k hk => ?_, fun k p hk => ?_, hva, fun g hg => ?_, hF⟩
  · rw [hobj]
    cases hl : look2 (tabs.map (·.1)) (tabs.map fun p => tabRo p.1 p.2) k with
    | none => rfl
    | some o =>
      obtain ⟨i, h1, _⟩ := look2_some hl
      have := (blt_iff _ _).1 (hlt k (List.mem_of_getElem? h1))
      have : n ≤ k := hk
      omega
  · rw [hobj]
    cases hl : look2 (tabs.map (·.1)) (tabs.map fun p => tabRo p.1 p.2) k with
    | none => rfl
    | some o =>
      obtain ⟨i, h1, _⟩ := look2_some hl
      rw [(memN_iff k _).2 (List.mem_of_getElem? h1)] at hk
      cases hk
  · obtain ⟨p, hp, rfl, h1, h2⟩ := hat k hk
    obtain ⟨org, ro, h3⟩ := hasTabs_eq ht p hp
    refine ⟨p.1, 0, p.2, none, _, h2, h1, h3, rfl, rfl, rfl, rfl, by omega, ?_, fun h => by cases h⟩
    rw [List.drop_zero, List.take_length]
    exact VAs.bare (intsB_bare (hi p hp))
  · obtain ⟨i, h1, _⟩ := renL_some hk
    exact (memN_iff k _).2 (List.mem_of_getElem? h1)
  · obtain ⟨p, _, _, _, h2⟩ := hat g (hG g hg)
    exact h2
end Go.Abs
namespace Go.Abs
end Go.Abs
namespace Go.Abs
structure Blk where
  own : Nat
  at_ : Nat
  cells : List Value
end Go.Abs
namespace Go.Abs
def IsSh : Sh → Value → Prop
  | .int k, v => ∃ n, v = .int k n ∧ (Lit.int k n).wf = true
  | .bool, v => ∃ b, v = .bool b
  | .str, v => ∃ s : ByteArray, v = .string s ∧ s.size ≤ maxLen
def Are : List Sh → List Value → Prop
  | [], [] => True
  | s :: ss, v :: vs => IsSh s v ∧ Are ss vs
  | _, _ => False
theorem Are.append : ∀ {a b : List Sh} {c d : List Value}, Are a c → Are b d → Are (a ++ b) (c ++ d)
  | [], _, [], _, _, h => h
  | _ :: _, _, _ :: _, _, h, h' => ⟨h.1, Are.append h.2 h'⟩
  | [], _, _ :: _, _, h, _ => h.elim
  | _ :: _, _, [], _, h, _ => h.elim
theorem Are.cons_inv {s : Sh} {ss : List Sh} {l : List Value} (h : Are (s :: ss) l) : ∃ v vs, l = v :: vs ∧ IsSh s v ∧ Are ss vs := by
  match l, h with
  | _ :: _, h => exact ⟨_, _, rfl, h.1, h.2⟩
theorem Are.nil_inv {l : List Value} (h : Are [] l) : l = [] := by
  match l, h with
  | [], _ => rfl
section
variable {P : Program} {T : Tab} {H : Type} {enc : TypeId × Value → H} {w : World} {base : Nat} {spare : Nat → Bool} {held : Bool} {D : Nat → Prop}
def IsArg (p : Bool × List Sh) (v : Value) : Prop := if p.1 then ∃ cs, v = .agg ⟨cs⟩ ∧ Are p.2 cs else ∃ s, p.2 = [s] ∧ IsSh s v
def AreArgs : List (Bool × List Sh) → List Value → Prop
  | [], [] => True
  | s :: ss, v :: vs => IsArg s v ∧ AreArgs ss vs
  | _, _ => False
theorem AreArgs.cons_inv {s : Bool × List Sh} {ss : List (Bool × List Sh)} {l : List Value} (h : AreArgs (s :: ss) l) : ∃ v vs, l = v :: vs ∧ IsArg s v ∧ AreArgs ss vs := by
  match l, h with
  | _ :: _, h => exact ⟨_, _, rfl, h.1, h.2⟩
theorem AreArgs.nil_inv {l : List Value} (h : AreArgs [] l) : l = [] := by
  match l, h with
  | [], _ => rfl
theorem IsArg.agg {s : List Sh} {v : Value} (h : IsArg (true, s) v) : ∃ cs, v = .agg ⟨cs⟩ ∧ Are s cs := h
theorem IsArg.one {s : Sh} {v : Value} (h : IsArg (false, [s]) v) : IsSh s v := by
  obtain ⟨s', e, h⟩ := (show ∃ s', [s] = [s'] ∧ IsSh s' v from h)
  cases e; exact h
theorem _root_.Go.DataW.TrodAll.length_ds : ∀ {ts : List TypeId} {vs : List Value} {ds : List (DataW H)} {ps : List MemPlace}, DataW.TrodAll enc P w base spare held ts vs ds ps → ts.length = ds.length
  | [], [], [], _, _ => rfl
  | _ :: _, _ :: _, _ :: _, _, ⟨_, _, _, h, _⟩ => congrArg Nat.succ h.length_ds
  | [], [], _ :: _, _, h => h.elim
  | [], _ :: _, [], _, h => h.elim
  | [], _ :: _, _ :: _, _, h => h.elim
  | _ :: _, [], [], _, h => h.elim
  | _ :: _, [], _ :: _, _, h => h.elim
  | _ :: _, _ :: _, [], _, h => h.elim
end
end Go.Abs
namespace Go.Abs
end Go.Abs
namespace Go.Abs
inductive Ds where
  | int (k : IntKind)
  | bool
  | str
  | sl (ss : List Ds)
noncomputable def shapesDL (f : TypeId → Option (List Ds)) : List TypeId → Option (List Ds)
  | [] => some []
  | t :: ts => andThen (f t) fun a => andThen (shapesDL f ts) fun b => some (a ++ b)
noncomputable def shapesD (T : Tab) : Nat → TypeId → Option (List Ds)
  | 0, _ => none
  | fuel + 1, t => andThen (desc T t) fun ds => match ds with
    | .bool => some [.bool]
    | .int k => some [.int k]
    | .string => some [.str]
    | .slice e => andThen (size T e) fun z => iff (isZ z) none (andThen (shapesD T fuel e) fun ss => iff (Nat.beq ss.length z) (some [.sl ss]) none)
    | .struct fs => andThen (size T t) fun z => iff (contig T fs.toList 0 z) (shapesDL (shapesD T fuel) (fs.toList.map (·.type))) none
    | .array len e => andThen (size T t) fun z => andThen (size T e) fun ze => iff (Nat.beq z (len * ze)) (shapesDL (shapesD T fuel) (List.replicate len e)) none
    | _ => none
def aggs (rows : List (List Value)) : List Value := rows.map fun c => .agg ⟨c⟩
mutual
def IsD : Ds → Value → Prop
  | .int k, v => ∃ n, v = .int k n ∧ (Lit.int k n).wf = true
  | .bool, v => ∃ b, v = .bool b
  | .str, v => ∃ s : ByteArray, v = .string s ∧ s.size ≤ maxLen
  | .sl ss, v => ∃ rows : List (List Value), v = dat (aggs rows) ∧ rows.length ≤ maxLen ∧ ∀ r ∈ rows, AreD ss r
def AreD : List Ds → List Value → Prop
  | [], [] => True
  | s :: ss, v :: vs => IsD s v ∧ AreD ss vs
  | _, _ => False
end
theorem AreD.append : ∀ {a b : List Ds} {c d : List Value}, AreD a c → AreD b d → AreD (a ++ b) (c ++ d)
  | [], _, [], _, _, h => h
  | _ :: _, _, _ :: _, _, h, h' => by
    simp only [AreD, List.cons_append] at h ⊢
    exact ⟨h.1, AreD.append h.2 h'⟩
  | [], _, _ :: _, _, h, _ => by simp only [AreD] at h
  | _ :: _, _, [], _, h, _ => by simp only [AreD] at h
theorem AreD.cons_inv {s : Ds} {ss : List Ds} {l : List Value} (h : AreD (s :: ss) l) : ∃ v vs, l = v :: vs ∧ IsD s v ∧ AreD ss vs := by
  match l, h with
  | _ :: _, h => simp only [AreD] at h; exact ⟨_, _, rfl, h.1, h.2⟩
  | [], h => simp only [AreD] at h
theorem AreD.nil_inv {l : List Value} (h : AreD [] l) : l = [] := by
  match l, h with
  | [], _ => rfl
  | _ :: _, h => simp only [AreD] at h
theorem AreD.one {s : Ds} {v : Value} (h : IsD s v) : AreD [s] [v] := by simp only [AreD]; exact ⟨h, trivial⟩
theorem AreD.length : ∀ {ss : List Ds} {l : List Value}, AreD ss l → l.length = ss.length
  | [], l, h => by rw [h.nil_inv]; rfl
  | _ :: _, l, h => by
    obtain ⟨v, vs, rfl, _, h2⟩ := h.cons_inv
    simp [h2.length]
theorem IsD.int_inv {k : IntKind} {v : Value} (h : IsD (.int k) v) : ∃ n, v = .int k n ∧ (Lit.int k n).wf = true := by simpa only [IsD] using h
theorem IsD.bool_inv {v : Value} (h : IsD .bool v) : ∃ b, v = .bool b := by simpa only [IsD] using h
theorem IsD.str_inv {v : Value} (h : IsD .str v) : ∃ s : ByteArray, v = .string s ∧ s.size ≤ maxLen := by simpa only [IsD] using h
theorem IsD.sl_inv {ss : List Ds} {v : Value} (h : IsD (.sl ss) v) : ∃ rows : List (List Value), v = dat (aggs rows) ∧ rows.length ≤ maxLen ∧ ∀ r ∈ rows, AreD ss r := by simpa only [IsD] using h
theorem rowsCells_aggs {z : Nat} : ∀ {rows : List (List Value)}, (∀ r ∈ rows, r.length = z) → rowsCells z (aggs rows) = some rows.flatten
  | [], _ => rfl
  | r :: rows, h => by
    rw [List.flatten_cons]
    exact rowsCells_mk (h r (by simp)) (rowsCells_aggs fun q hq => h q (by simp [hq]))
theorem aggs_length (rows : List (List Value)) : (aggs rows).length = rows.length := List.length_map ..
theorem VA.closed {ι : Ren} (hd : ι.dt = true) {v : Value} (h : closed1 v = true) : VA ι v v := by
  unfold closed1 at h
  rw [Bool.or_eq_true, Bool.or_eq_true] at h
  rcases h with (h | h) | h
  · exact .bare h
  · obtain ⟨l, hl⟩ := Option.isSome_iff_exists.1 h
    rw [asDat_eq hl]
    exact .data l hd
  · obtain ⟨a, rfl, hs⟩ := noRoom_eq h
    exact .slz _ _ hs hs
theorem VAs.closed {ι : Ren} (hd : ι.dt = true) : ∀ {l : List Value}, (∀ v ∈ l, closed1 v = true) → VAs ι l l
  | [], _ => .nil
  | v :: _, h => .cons (VA.closed hd (h v (by simp))) (VAs.closed hd fun u hu => h u (by simp [hu]))
theorem IsD.closed1 {s : Ds} {v : Value} (h : IsD s v) : Abs.closed1 v = true := by
  match s, h with
  | .int k, h => obtain ⟨n, rfl, _⟩ := h.int_inv; rfl
  | .bool, h => obtain ⟨b, rfl⟩ := h.bool_inv; rfl
  | .str, h => obtain ⟨s, rfl, _⟩ := h.str_inv; rfl
  | .sl ss, h => obtain ⟨rows, rfl, _⟩ := h.sl_inv; rfl
theorem AreD.closed1 : ∀ {ss : List Ds} {l : List Value}, AreD ss l → ∀ v ∈ l, Abs.closed1 v = true
  | [], l, h => by rw [h.nil_inv]; intro v hv; cases hv
  | s :: ss, l, h => by
    obtain ⟨v, vs, rfl, h1, h2⟩ := h.cons_inv
    intro u hu
    rcases List.mem_cons.1 hu with rfl | hu
    · exact h1.closed1
    · exact h2.closed1 u hu
theorem IsD.oneA {s : Ds} {v : Value} (h : IsD s v) : Abs.oneA v = true := by
  match s, h with
  | .int k, h => obtain ⟨n, rfl, _⟩ := h.int_inv; rfl
  | .bool, h => obtain ⟨b, rfl⟩ := h.bool_inv; rfl
  | .str, h => obtain ⟨s, rfl, _⟩ := h.str_inv; rfl
  | .sl ss, h => obtain ⟨rows, rfl, _⟩ := h.sl_inv; rfl
theorem AreD.oneA : ∀ {ss : List Ds} {l : List Value}, AreD ss l → ∀ v ∈ l, Abs.oneA v = true
  | [], l, h => by rw [h.nil_inv]; intro v hv; cases hv
  | s :: ss, l, h => by
    obtain ⟨v, vs, rfl, h1, h2⟩ := h.cons_inv
    intro u hu
    rcases List.mem_cons.1 hu with rfl | hu
    · exact h1.oneA
    · exact h2.oneA u hu
mutual
def bulkD {H : Type} : DataW H → Nat
  | .lit (.string bytes) => bytes.length + 1
  | .lit _ => 1
  | .nil => 1
  | .ptr d => bulkD d + 1
  | .slice elems spare => bulkAll elems + bulkAll spare + 1
  | .agg parts => bulkAll parts + 1
  | .iface _ d => bulkD d + 1
  | .map entries => bulkEntries entries + 1
  | .held _ => 1
def bulkAll {H : Type} : List (DataW H) → Nat
  | [] => 0
  | d :: r => bulkD d + bulkAll r
def bulkEntries {H : Type} : List (Lit × DataW H) → Nat
  | [] => 0
  | x :: r => bulkEntry x + bulkEntries r
def bulkEntry {H : Type} : Lit × DataW H → Nat
  | (.string bytes, d) => bytes.length + bulkD d + 1
  | (_, d) => bulkD d + 1
end
mutual
def wtD : Ds → Value → Nat
  | .str, v => (match asS v with | some l => l.length | none => 0)
  | .sl ss, v => (match asDat v with | some rows => (rows.map fun r => match asA r with | some c => 1 + wtL ss c | none => 1).sum | none => 0)
  | .int _, _ => 0
  | .bool, _ => 0
def wtL : List Ds → List Value → Nat
  | s :: ss, v :: vs => wtD s v + wtL ss vs
  | [], _ => 0
  | _ :: _, [] => 0
end
theorem wtL_append : ∀ {a b : List Ds} {c d : List Value}, a.length = c.length → wtL (a ++ b) (c ++ d) = wtL a c + wtL b d
  | [], _, [], _, _ => by simp only [List.nil_append, wtL, Nat.zero_add]
  | _ :: _, _, _ :: _, _, h => by
    simp only [List.cons_append, wtL]
    rw [wtL_append (by simpa using h), Nat.add_assoc]
  | [], _, _ :: _, _, h => by simp at h
  | _ :: _, _, [], _, h => by simp at h
theorem wtD_sl {ss : List Ds} {rows : List (List Value)} : wtD (.sl ss) (dat (aggs rows)) = (rows.map fun c => 1 + wtL ss c).sum := by
  simp only [wtD]
  show ((aggs rows).map fun r => match asA r with | some c => 1 + wtL ss c | none => 1).sum = _
  unfold aggs
  rw [List.map_map]
  rfl
theorem bulkAll_sum {H : Type} : ∀ l : List (DataW H), bulkAll l = (l.map bulkD).sum
  | [] => by simp [bulkAll]
  | d :: l => by simp only [bulkAll, List.map_cons, List.sum_cons, bulkAll_sum l]
theorem bulkD_slice {H : Type} (a b : List (DataW H)) : bulkD (.slice a b) = bulkAll a + bulkAll b + 1 := by simp only [bulkD]
theorem bulkD_agg {H : Type} (a : List (DataW H)) : bulkD (.agg a) = bulkAll a + 1 := by simp only [bulkD]
section
variable {P : Program} {T : Tab} {H : Type} {enc : TypeId × Value → H} {w : World} {base : Nat} {held : Bool} {D : Nat → Prop}
def DatOk (w : World) (ss : List Ds) (cs : List Value) (b : Nat) : Prop := ∃ acs, AreD ss acs ∧ acs.length = cs.length ∧ Rds (frAll w) acs cs ∧ wtL ss acs ≤ b
theorem DatOk.nil : DatOk w [] [] 0 := ⟨[], by simp only [AreD], rfl, .nil, by simp only [wtL]; exact Nat.le_refl 0⟩
theorem DatOk.append {a b : List Ds} {c d : List Value} {m n : Nat} (h : DatOk w a c m) (h' : DatOk w b d n) : DatOk w (a ++ b) (c ++ d) (m + n) := by
  obtain ⟨x, h1, h2, h3, h7⟩ := h
  obtain ⟨y, h4, h5, h6, h8⟩ := h'
  refine ⟨x ++ y, h1.append h4, by simp [h2, h5], h3.append h6, ?_⟩
  rw [wtL_append h1.length.symm]
  omega
theorem DatOk.one {s : Ds} {v v' : Value} {b : Nat} (h : IsD s v) (hv : Rd (frAll w) v v') (hb : wtD s v ≤ b) : DatOk w [s] [v'] b := ⟨[v], .one h, rfl, .cons hv .nil, by simp only [wtL, Nat.add_zero]; exact hb⟩
theorem DatOk.mono {s : List Ds} {c : List Value} {m n : Nat} (h : DatOk w s c m) (hm : m ≤ n) : DatOk w s c n := by
  obtain ⟨x, h1, h2, h3, h4⟩ := h
  exact ⟨x, h1, h2, h3, by omega⟩
theorem shapesDL_ok {sh : TypeId → Option (List Ds)} : ∀ (ts : List TypeId) (ss : List Ds) (css : List (List Value)) (bs : List Nat), shapesDL sh ts = some ss → css.length = ts.length → bs.length = ts.length →
    (∀ (i : Nat) t c s b, ts[i]? = some t → css[i]? = some c → bs[i]? = some b → sh t = some s → DatOk w s c b) → DatOk w ss css.flatten bs.sum
  | [], ss, css, bs, h, hl, hb, _ => by
    cases (show some [] = some ss from h)
    have : css = [] := List.eq_nil_of_length_eq_zero hl
    subst this
    have : bs = [] := List.eq_nil_of_length_eq_zero hb
    subst this
    exact .nil
  | t :: ts, ss, css, bs, h, hl, hb, hp => by
    obtain ⟨a, h1, h2⟩ := andThen_eq (show andThen (sh t) (fun a => andThen (shapesDL sh ts) fun b => some (a ++ b)) = some ss from h)
    obtain ⟨b, h3, h4⟩ := andThen_eq h2
    cases h4
    cases css with
    | nil => simp at hl
    | cons c css =>
      cases bs with
      | nil => simp at hb
      | cons n bs =>
        rw [List.flatten_cons, List.sum_cons]
        exact (hp 0 t c a n rfl rfl rfl h1).append (shapesDL_ok ts b css bs h3 (by simpa using hl) (by simpa using hb) fun i u x s m hu hx hm hs => hp (i + 1) u x s m (by simpa using hu) (by simpa using hx) (by simpa using hm) hs)
theorem choose_rows {α : Type} {p : Nat → α → Prop} : ∀ (n : Nat), (∀ i, i < n → ∃ x, p i x) → ∃ l : List α, l.length = n ∧ ∀ (i : Nat) x, l[i]? = some x → p i x
  | 0, _ => ⟨[], rfl, fun i x h => by simp at h⟩
  | n + 1, h => by
    obtain ⟨l, h1, h2⟩ := choose_rows n fun i hi => h i (by omega)
    obtain ⟨x, hx⟩ := h n (by omega)
    refine ⟨l ++ [x], by simp [h1], fun i y hy => ?_⟩
    by_cases hi : i < l.length
    · rw [List.getElem?_append_left hi] at hy
      exact h2 i y hy
    · rw [List.getElem?_append_right (by omega)] at hy
      have hi2 := (List.getElem?_eq_some_iff.1 hy).1
      have : i = n := by simp at hi2; omega
      subst this
      rw [h1, Nat.sub_self] at hy
      cases hy
      exact hx
theorem Rds.flatten {fr : Nat → Option (List Value)} : ∀ {rows rows' : List (List Value)}, rows.length = rows'.length → (∀ (i : Nat) r r', rows[i]? = some r → rows'[i]? = some r' → Rds fr r r') → Rds fr rows.flatten rows'.flatten
  | [], [], _, _ => .nil
  | r :: rows, r' :: rows', hl, h => by
    rw [List.flatten_cons, List.flatten_cons]
    exact (h 0 r r' rfl rfl).append (Rds.flatten (by simpa using hl) fun i q q' hq hq' => h (i + 1) q q' (by simpa using hq) (by simpa using hq'))
  | [], _ :: _, hl, _ => by simp at hl
  | _ :: _, [], hl, _ => by simp at hl
theorem sum_le : ∀ {a b : List Nat}, a.length = b.length → (∀ (i : Nat) x y, a[i]? = some x → b[i]? = some y → x ≤ y) → a.sum ≤ b.sum
  | [], [], _, _ => Nat.le_refl _
  | x :: a, y :: b, hl, h => by
    rw [List.sum_cons, List.sum_cons]
    exact Nat.add_le_add (h 0 x y rfl rfl) (sum_le (by simpa using hl) fun i x y hx hy => h (i + 1) x y (by simpa using hx) (by simpa using hy))
  | [], _ :: _, hl, _ => by simp at hl
  | _ :: _, [], hl, _ => by simp at hl
theorem dat_ok (hT : TyOk P T) : ∀ (fuel : Nat) (t : TypeId) (ss : List Ds) (d : DataW H) (cs : List Value), shapesD T fuel t = some ss →
    (∃ fuel' ps, DataW.trod enc P w base (fun _ => true) held fuel' t cs = some (d, ps)) → ∃ b, b + 1 ≤ bulkD d ∧ DatOk w ss cs b
  | 0, _, _, _, _, h, _ => by cases (show none = some _ from h)
  | fuel + 1, t, ss, d, cs, h, ⟨fuel', ps, hr⟩ => by
    simp only [shapesD] at h
    obtain ⟨ds, hd, h⟩ := andThen_eq h
    have hu := und_desc hT hd
    split at h
    · cases h
      obtain ⟨b, rfl, hx⟩ := DataW.trod_bool hu hr
      cases hx
      exact ⟨0, by simp only [bulkD]; omega, .one (s := .bool) (by simp only [IsD]; exact ⟨b, rfl⟩) (.bool b) (by simp only [wtD]; omega)⟩
    · rename_i k
      cases h
      obtain ⟨m, rfl, hx, hm⟩ := DataW.trod_int hu hr
      cases hx
      exact ⟨0, by simp only [bulkD]; omega, .one (s := .int k) (by simp only [IsD]; exact ⟨m, rfl, hm⟩) (.int _ m) (by simp only [wtD]; omega)⟩
    · cases h
      obtain ⟨s, rfl, hx, hs⟩ := DataW.trod_string hu hr
      cases hx
      exact ⟨s.data.toList.length, by simp only [bulkD]; omega, .one (s := .str) (by simp only [IsD]; exact ⟨s, rfl, hs⟩) (.string s) (by simp only [wtD, asS]; exact Nat.le_refl _)⟩
    · rename_i e
      obtain ⟨z, hsz, h⟩ := andThen_eq h
      obtain ⟨hzz, h⟩ := iff_else h
      obtain ⟨es, he, h⟩ := andThen_eq h
      obtain ⟨hel0, h⟩ := iff_some h
      cases h
      rw [beq_iff] at hel0
      have hzn : z ≠ 0 := fun h0 => by rw [(Tr.isZ_iff z).2 h0] at hzz; cases hzz
      rcases DataW.trod_slice hu hr with ⟨rfl, hx⟩ | ⟨a, len, cap, els, rest, m, _, rfl, hx, _, hlc, hcm, hlen, hel, hsp, _⟩
      · cases hx
        exact ⟨0, by simp only [bulkD]; omega, .one (s := .sl es) (by simp only [IsD]; exact ⟨[], rfl, Nat.zero_le _, fun r hr => by cases hr⟩) (.data0 0 0 rfl) (by rw [show dat [] = dat (aggs []) from rfl, wtD_sl]; exact Nat.le_refl _)⟩
      · cases hx
        rw [cellsOf_eq hT hsz] at hel
        have hw : ∀ i, i < len → ∃ cs', w.cells? base (a.add (i * z)) z = some cs' ∧ ∃ y, els[i]? = some y ∧ DataW.trod enc P w base (fun _ => true) held m e cs' = some y := fun i hi => by
          have := hel i hi
          rw [List.getElem?_eq_getElem (by omega), Option.bind_eq_some_iff] at this
          obtain ⟨cs', g1, g2⟩ := this
          exact ⟨cs', g1, _, List.getElem?_eq_getElem (by omega), g2⟩
        obtain ⟨css, hcl, hcs⟩ := choose_rows len hw
        obtain ⟨rows, hrl, hrs⟩ := choose_rows (p := fun i (r : List Value) => ∀ c y, css[i]? = some c → els[i]? = some y → AreD es r ∧ r.length = c.length ∧ Rds (frAll w) r c ∧ 1 + wtL es r ≤ bulkD y.1) len fun i hi => by
          have hi2 : i < css.length := by omega
          obtain ⟨_, y, hy0, hy⟩ := hcs i css[i] (List.getElem?_eq_getElem hi2)
          obtain ⟨b, hb, r, h1, h2, h3, h4⟩ := dat_ok hT fuel e es y.1 css[i] he ⟨m, y.2, hy⟩
          exact ⟨r, fun c y' hc hy' => by
            rw [List.getElem?_eq_getElem hi2] at hc
            rw [hy0] at hy'
            cases hc; cases hy'
            exact ⟨h1, h2, h3, by omega⟩⟩
        have hrow : ∀ r ∈ rows, AreD es r := fun r hr => by
          obtain ⟨i, hi, rfl⟩ := List.getElem_of_mem hr
          have hi2 : i < css.length := by omega
          exact (hrs i _ (List.getElem?_eq_getElem hi) css[i] els[i] (List.getElem?_eq_getElem hi2) (List.getElem?_eq_getElem (by omega))).1
        have hz : ∀ r ∈ rows, r.length = z := fun r hr => (hrow r hr).length.trans hel0
        have hD : IsD (.sl es) (dat (aggs rows)) := by
          simp only [IsD]
          exact ⟨rows, rfl, by omega, hrow⟩
        have hwt : wtD (.sl es) (dat (aggs rows)) ≤ bulkAll (els.map (·.1)) := by
          rw [wtD_sl, bulkAll_sum, List.map_map]
          refine sum_le (by simp; omega) fun i x y hx hy => ?_
          rw [List.getElem?_map, Option.map_eq_some_iff] at hx hy
          obtain ⟨r, hr, rfl⟩ := hx
          obtain ⟨q, hq, rfl⟩ := hy
          have hi := (List.getElem?_eq_some_iff.1 hr).1
          exact (hrs i r hr css[i] q (List.getElem?_eq_getElem (by omega)) hq).2.2.2
        refine ⟨bulkAll (els.map (·.1)), by rw [bulkD_slice]; omega, [dat (aggs rows)], .one hD, rfl, .cons ?_ .nil, by simp only [wtL, Nat.add_zero]; exact hwt⟩
        have hv : Rds (frAll w) rows.flatten css.flatten := Rds.flatten (by omega) fun i r c hr hc => by
          have hi := (List.getElem?_eq_some_iff.1 hr).1
          have hi2 : i < els.length := by omega
          exact (hrs i r hr c els[i] hc (List.getElem?_eq_getElem hi2)).2.2.1
        have hlen2 : (aggs rows).length = len := by rw [aggs_length]; exact hrl
        rw [← hlen2]
        refine .data (rowsCells_aggs hz) (by omega) ?_ hv.1 hv.2
        · rcases Nat.eq_zero_or_pos len with h0 | h0
          · exact .inl (List.eq_nil_of_length_eq_zero (hlen2.trans h0))
          · right
            obtain ⟨g1, _⟩ := hcs 0 css[0] (List.getElem?_eq_getElem (by omega))
            have ha0 : a.add (0 * z) = a := by rw [Nat.zero_mul]; unfold Addr.add; rw [if_pos rfl]
            rw [ha0] at g1
            obtain ⟨cc, elem, fz, hs, hB, hsz0, hw0⟩ := cells_window (by omega) g1
            have blk : ∀ k, (a.add k).block = a.block := fun k => by unfold Addr.add; split <;> rfl
            have offs : ∀ k, (a.add k).off = a.off + k := fun k => by unfold Addr.add; split <;> simp_all
            have hwin : ∀ (i : Nat) c, css[i]? = some c → a.off + i * z + z ≤ cc.size ∧ (cc.toList.drop (a.off + i * z)).take z = c := fun i c hc => by
              obtain ⟨g2, _⟩ := hcs i c hc
              obtain ⟨cc', elem', fz', _, hB', hsz', hw'⟩ := cells_window (by omega) g2
              rw [blk, hB] at hB'
              cases hB'
              rw [offs] at hsz' hw'
              exact ⟨hsz', hw'⟩
            have hflat := take_flatten (cc := cc.toList) (sz := z) css a.off fun i x hx => (hwin i x hx).2
            have hbound : a.off + len * z ≤ cc.size := by
              have := (hwin (len - 1) css[len - 1] (List.getElem?_eq_getElem (by omega))).1
              have e2 : len * z = (len - 1) * z + z := by rw [← Nat.succ_mul]; congr 1; omega
              omega
            have hfl : css.flatten.length = len * z := by rw [← hflat, hcl]; simp; omega
            refine ⟨hs, cc.toList, ?_, by rw [hfl]; exact hbound, by rw [hfl, ← hcl]; exact hflat⟩
            simp only [frAll, hB]
    · rename_i fs
      obtain ⟨z, hz, h⟩ := andThen_eq h
      obtain ⟨hc, h⟩ := iff_some h
      obtain ⟨ys, m, _, hx, hl, hyl, hy⟩ := DataW.trod_struct hu hr
      cases hx
      rw [cellsOf_eq hT hz] at hl
      obtain ⟨css, g1, g2, g3⟩ := contig_pieces fs.toList 0 cs hc hl (Nat.zero_le _)
      rw [List.drop_zero] at g2
      rw [← g2]
      refine ⟨bulkAll (ys.map (·.1)), by rw [bulkD_agg]; omega, ?_⟩
      rw [bulkAll_sum]
      refine shapesDL_ok _ _ css _ h (by simp [g1]) (by have h0 : fs.toList.length = fs.size := rfl; simp; omega) fun i t c s b ht hcx hb hs => ?_
      rw [List.getElem?_map, Option.map_eq_some_iff] at ht
      obtain ⟨f, h5, rfl⟩ := ht
      obtain ⟨zf, h7, h8⟩ := g3 i f h5
      rw [hcx] at h8
      cases h8
      have h9 := hy i f (by rw [← Array.getElem?_toList]; exact h5)
      rw [cellsOf_eq hT h7] at h9
      have hi : i < ys.length := by
        have := (List.getElem?_eq_some_iff.1 h5).1
        have h0 : fs.toList.length = fs.size := rfl
        omega
      rw [List.getElem?_eq_getElem hi] at h9
      obtain ⟨b', hb', hk⟩ := dat_ok hT fuel f.type s (ys[i]).1 _ hs ⟨m, _, h9⟩
      rw [List.map_map, List.getElem?_map, List.getElem?_eq_getElem hi] at hb
      cases hb
      exact hk.mono (by show b' ≤ bulkD (ys[i]).1; omega)
    · rename_i len e
      obtain ⟨z, hz, h⟩ := andThen_eq h
      obtain ⟨ze, hze, h⟩ := andThen_eq h
      obtain ⟨hc, h⟩ := iff_some h
      rw [beq_iff] at hc
      obtain ⟨ys, m, _, hx, hl, hyl, hy⟩ := DataW.trod_array hu hr
      cases hx
      rw [cellsOf_eq hT hz] at hl
      rw [cellsOf_eq hT hze] at hy
      let css : List (List Value) := (List.range len).map fun i => (cs.drop (i * ze)).take ze
      have hcsl : css.length = len := by simp [css]
      have hcsi : ∀ (i : Nat) x, css[i]? = some x → i < len ∧ (cs.drop (i * ze)).take ze = x := fun i x hx => by
        simp only [css, List.getElem?_map, Option.map_eq_some_iff] at hx
        obtain ⟨j, hj, rfl⟩ := hx
        have := (List.getElem?_eq_some_iff.1 hj).1
        rw [List.getElem?_range (by simpa using this)] at hj
        cases hj
        exact ⟨by simpa using this, rfl⟩
      have hflat := take_flatten (cc := cs) (sz := ze) css 0 fun i x hx => by rw [Nat.zero_add]; exact (hcsi i x hx).2
      rw [List.drop_zero, hcsl, ← hc, ← hl, List.take_length] at hflat
      rw [hflat]
      refine ⟨bulkAll (ys.map (·.1)), by rw [bulkD_agg]; omega, ?_⟩
      rw [bulkAll_sum]
      refine shapesDL_ok _ _ css _ h (by simp [hcsl]) (by simp; omega) fun i t c s b ht hcx hb hs => ?_
      obtain ⟨hi, hx2⟩ := hcsi i c hcx
      rw [List.getElem?_replicate] at ht
      rw [if_pos hi] at ht
      cases ht
      have h9 := hy i hi
      rw [hx2, List.getElem?_eq_getElem (by omega)] at h9
      obtain ⟨b', hb', hk⟩ := dat_ok hT fuel e s (ys[i]).1 _ hs ⟨m, _, h9⟩
      rw [List.map_map, List.getElem?_map, List.getElem?_eq_getElem (by omega)] at hb
      cases hb
      exact hk.mono (by show b' ≤ bulkD (ys[i]).1; omega)
    · cases h
noncomputable def argDs (T : Tab) (fuel : Nat) : List TypeId → Option (List (Bool × List Ds))
  | [] => some []
  | t :: ts => andThen (ty T t) fun i => andThen (shapesD T fuel t) fun s => iff (or i.agg (Nat.beq s.length 1)) (andThen (argDs T fuel ts) fun r => some ((i.agg, s) :: r)) none
def IsArgD (p : Bool × List Ds) (v : Value) : Prop := if p.1 then ∃ cs, v = .agg ⟨cs⟩ ∧ AreD p.2 cs else ∃ s, p.2 = [s] ∧ IsD s v
def AreArgsD : List (Bool × List Ds) → List Value → Prop
  | [], [] => True
  | s :: ss, v :: vs => IsArgD s v ∧ AreArgsD ss vs
  | _, _ => False
def wtA (p : Bool × List Ds) (v : Value) : Nat := if p.1 then (match asA v with | some cs => wtL p.2 cs | none => 0) else wtL p.2 [v]
def wtAs : List (Bool × List Ds) → List Value → Nat
  | p :: ss, v :: vs => wtA p v + wtAs ss vs
  | _, _ => 0
theorem AreArgsD.cons_inv {s : Bool × List Ds} {ss : List (Bool × List Ds)} {l : List Value} (h : AreArgsD (s :: ss) l) : ∃ v vs, l = v :: vs ∧ IsArgD s v ∧ AreArgsD ss vs := by
  match l, h with
  | _ :: _, h => exact ⟨_, _, rfl, h.1, h.2⟩
theorem AreArgsD.nil_inv {l : List Value} (h : AreArgsD [] l) : l = [] := by
  match l, h with
  | [], _ => rfl
theorem IsArgD.agg {s : List Ds} {v : Value} (h : IsArgD (true, s) v) : ∃ cs, v = .agg ⟨cs⟩ ∧ AreD s cs := h
theorem IsArgD.one {s : Ds} {v : Value} (h : IsArgD (false, [s]) v) : IsD s v := by
  obtain ⟨s', e, h⟩ := (show ∃ s', [s] = [s'] ∧ IsD s' v from h)
  cases e; exact h
theorem dat_args (hT : TyOk P T) {fuel : Nat} : ∀ (ts : List TypeId) (ds : List (DataW H)) (vs' : List Value) (ss : List (Bool × List Ds)) (ps : List MemPlace), argDs T fuel ts = some ss →
    DataW.TrodAll enc P w base (fun _ => true) held ts vs' ds ps → (∀ (j : Nat) t v, ts[j]? = some t → vs'[j]? = some v → Value.okWide P w .any base t v) →
    ∃ vs, AreArgsD ss vs ∧ wtAs ss vs ≤ bulkAll ds ∧ ∀ π : PMap, π.fr = frAll w → VRs π D vs vs'
  | [], [], [], ss, ps, h, _, _ => by cases (show some [] = some ss from h); exact ⟨[], trivial, Nat.zero_le _, fun _ _ => .nil⟩
  | t :: ts, d :: ds, v' :: vs', ss, ps, h, ht, hok => by
    obtain ⟨i, h1, h2⟩ := andThen_eq (show andThen (ty T t) (fun i => andThen (shapesD T fuel t) fun s => iff (or i.agg (Nat.beq s.length 1)) (andThen (argDs T fuel ts) fun r => some ((i.agg, s) :: r)) none) = some ss from h)
    obtain ⟨s, h3, h4⟩ := andThen_eq h2
    obtain ⟨h0, h4⟩ := iff_some h4
    obtain ⟨r, h5, h6⟩ := andThen_eq h4
    cases h6
    obtain ⟨p, q, ⟨fl, t1⟩, t2, _⟩ := ht
    obtain ⟨bb, hbb, acs, g1, g2, g3, g7⟩ := dat_ok hT fuel t s d _ h3 ⟨fl, p, t1⟩
    obtain ⟨vs, g4, g8, g5⟩ := dat_args hT ts ds vs' r q h5 t2 fun j t v hj hv => hok (j + 1) t v (by simpa using hj) (by simpa using hv)
    have hone : ∀ u ∈ acs, oneA u = true := g1.oneA
    have hv : ∃ v, valueOf T t acs = some v ∧ IsArgD (i.agg, s) v ∧ wtA (i.agg, s) v = wtL s acs := by
      unfold valueOf
      rw [h1, andThen_some]
      cases ha : i.agg with
      | true => exact ⟨_, rfl, ⟨acs, rfl, g1⟩, rfl⟩
      | false =>
        rw [ha, Bool.false_or, beq_iff] at h0
        match s, h0 with
        | [s0], _ =>
          obtain ⟨v, rest, rfl, k1, k2⟩ := g1.cons_inv
          obtain rfl := k2.nil_inv
          exact ⟨v, rfl, ⟨s0, rfl, k1⟩, rfl⟩
    obtain ⟨v, k1, k2, k3⟩ := hv
    exact ⟨v :: vs, ⟨k2, g4⟩, by show wtA (i.agg, s) v + wtAs r vs ≤ bulkAll (d :: ds); rw [k3]; simp only [bulkAll]; omega, fun π hπ => .cons (valueOf_ok hT k1 (hok 0 t v' rfl rfl) (Rds.vrs (by rw [hπ]; exact g3)) hone hone) (g5 π hπ)⟩
  | [], [], _ :: _, _, _, _, ht, _ => ht.elim
  | [], _ :: _, [], _, _, _, ht, _ => ht.elim
  | [], _ :: _, _ :: _, _, _, _, ht, _ => ht.elim
  | _ :: _, [], [], _, _, _, ht, _ => ht.elim
  | _ :: _, [], _ :: _, _, _, _, ht, _ => ht.elim
  | _ :: _, _ :: _, [], _, _, _, ht, _ => ht.elim
end
end Go.Abs
namespace Go.Abs
theorem VA.dat_inv {ι : Ren} {rows : List Value} {v : Value} (h : VA ι (dat rows) v) :
    (v = dat rows ∧ ι.dt = true) ∨ (rows = [] ∧ ∃ c, v = .slice none 0 c) ∨
    (∃ cs cs' cells z b off n c s, v = .slice (some ⟨b, off, s⟩) n c ∧ ι.fz b = some cells ∧ RowsAre z rows cs ∧ rows.length = n ∧ Win cells off cs' ∧ VAs ι cs cs') := by
  generalize hd : dat rows = d at h
  cases h with
  | tuple h1 _ _ _ => unfold dat at hd; cases hd; cases h1
  | data rows2 h1 => unfold dat at hd; cases hd; exact .inl ⟨rfl, h1⟩
  | dataP _ _ => unfold dat datP at hd; cases hd
  | nil0 c _ => unfold dat at hd; cases hd; exact .inr (.inl ⟨rfl, c, rfl⟩)
  | @fz rows2 cs cs' cells z b off n c s _ hF hr hn hw _ hl hcs =>
    unfold dat at hd; cases hd
    exact .inr (.inr ⟨cs, cs', cells, z, b, off, n, c, s, rfl, hF, hr, hn, hw, hl, hcs⟩)
  | fzP _ _ _ _ _ _ => unfold dat datP at hd; cases hd
  | _ => unfold dat at hd; cases hd
structure EncV (α : Type) where
  val : α → Value
  closed : ∀ (ι : Ren) a, ι.dt = true → VA ι (val a) (val a)
  uniq : ∀ (ι : Ren) a b v, VA ι (val a) v → VA ι (val b) v → a = b
structure EncT (α : Type) where
  n : Nat
  cells : α → List Value
  len : ∀ a, (cells a).length = n
  closed : ∀ a, ∀ v ∈ cells a, closed1 v = true
  uniq : ∀ (ι : Ren) a b l, VAs ι (cells a) l → VAs ι (cells b) l → a = b
structure EncL (α : Type) where
  vals : α → List Value
  closed : ∀ (ι : Ren) a, ι.dt = true → VAs ι (vals a) (vals a)
  uniq : ∀ (ι : Ren) a b l, VAs ι (vals a) l → VAs ι (vals b) l → a = b
def EncV.int (k : IntKind) : EncV Int := ⟨.int k, fun _ n _ => .int k n, fun ι a b v h1 h2 => by cases h1; cases h2; rfl⟩
def EncV.bool : EncV Bool := ⟨.bool, fun _ b _ => .bool b, fun ι a b v h1 h2 => by cases h1; cases h2; rfl⟩
def EncV.str : EncV ByteArray := ⟨.string, fun _ s _ => .string s, fun ι a b v h1 h2 => by cases h1; cases h2; rfl⟩
def EncV.text : EncV (List UInt8) := ⟨fun l => .string ⟨⟨l⟩⟩, fun _ s _ => .string _, fun ι a b v h1 h2 => by cases h1; cases h2; rfl⟩
theorem VAs.split_at {ι : Ren} {a b l : List Value} (h : VAs ι (a ++ b) l) : VAs ι a (l.take a.length) ∧ VAs ι b (l.drop a.length) := by
  have hl := h.1
  rw [List.length_append] at hl
  refine ⟨⟨by simp; omega, fun i v v' h1 h2 => ?_⟩, ⟨by simp; omega, fun i v v' h1 h2 => ?_⟩⟩
  · have hi := (List.getElem?_eq_some_iff.1 h1).1
    rw [List.getElem?_take, if_pos hi] at h2
    exact h.2 i v v' (by rw [List.getElem?_append_left hi]; exact h1) h2
  · rw [List.getElem?_drop] at h2
    exact h.2 (a.length + i) v v' (by rw [List.getElem?_append_right (by omega), Nat.add_sub_cancel_left]; exact h1) h2
namespace EncT
variable {α β : Type}
theorem rows_uniq (E : EncT α) {ι : Ren} : ∀ {l m : List α} {cs : List Value}, l.length = m.length → VAs ι (l.map E.cells).flatten cs → VAs ι (m.map E.cells).flatten cs → l = m
  | [], [], _, _, _, _ => rfl
  | a :: l, b :: m, cs, hl, h1, h2 => by
    rw [List.map_cons, List.flatten_cons] at h1 h2
    obtain ⟨g1, g2⟩ := h1.split_at
    obtain ⟨g3, g4⟩ := h2.split_at
    rw [E.len] at g1 g2 g3 g4
    rw [E.uniq ι a b _ g1 g3, rows_uniq E (by simpa using hl) g2 g4]
  | [], _ :: _, _, hl, _, _ => by simp at hl
  | _ :: _, [], _, hl, _, _ => by simp at hl
theorem rows_of (E : EncT α) {l : List α} : ∀ r ∈ l.map E.cells, r.length = E.n := fun r hr => by
  obtain ⟨a, _, rfl⟩ := List.mem_map.1 hr
  exact E.len a
theorem rows_flat (E : EncT α) {l : List α} {z : Nat} {cs : List Value} (h : RowsAre z (aggs (l.map E.cells)) cs) : cs = (l.map E.cells).flatten :=
  rowsCells_same h (rowsCells_aggs E.rows_of)
theorem flat_len (E : EncT α) (l : List α) : (l.map E.cells).flatten.length = l.length * E.n := by
  have := rowsCells_len (rowsCells_aggs (E.rows_of (l := l)))
  rw [aggs_length, List.length_map] at this
  exact this
def ofV (V : EncV α) (h : ∀ a, closed1 (V.val a) = true) : EncT α :=
  ⟨1, fun a => [V.val a], fun _ => rfl, fun a v hv => by simp at hv; rw [hv]; exact h a, fun ι a b l h1 h2 => by
    obtain ⟨v, hv, g1⟩ := h1.get (i := 0) rfl
    obtain ⟨v', hv', g2⟩ := h2.get (i := 0) rfl
    rw [hv] at hv'; cases hv'
    exact V.uniq ι a b v g1 g2⟩
def int (k : IntKind) : EncT Int := ofV (.int k) fun _ => rfl
def bool : EncT Bool := ofV .bool fun _ => rfl
def text : EncT (List UInt8) := ofV .text fun _ => rfl
def pair (E : EncT α) (F : EncT β) : EncT (α × β) :=
  ⟨E.n + F.n, fun p => E.cells p.1 ++ F.cells p.2, fun p => by rw [List.length_append, E.len, F.len], fun p v hv => by
    rcases List.mem_append.1 hv with h | h
    · exact E.closed _ v h
    · exact F.closed _ v h, fun ι p q l h1 h2 => by
    obtain ⟨g1, g2⟩ := h1.split_at
    obtain ⟨g3, g4⟩ := h2.split_at
    rw [E.len] at g1 g2 g3 g4
    exact Prod.ext (E.uniq ι _ _ _ g1 g3) (F.uniq ι _ _ _ g2 g4)⟩
def vec (E : EncT α) (k : Nat) : EncT { l : List α // l.length = k } :=
  ⟨k * E.n, fun l => (l.1.map E.cells).flatten, fun l => by rw [E.flat_len, l.2], fun l v hv => by
    obtain ⟨r, hr, hv⟩ := List.mem_flatten.1 hv
    obtain ⟨a, _, rfl⟩ := List.mem_map.1 hr
    exact E.closed a v hv, fun ι a b l h1 h2 => Subtype.ext (E.rows_uniq (a.2.trans b.2.symm) h1 h2)⟩
end EncT
namespace EncV
variable {α β : Type}
def list (E : EncT α) : EncV (List α) :=
  ⟨fun l => dat (aggs (l.map E.cells)), fun ι l hd => .data _ hd, fun ι l m v h1 h2 => by
    have hlen : ∀ {k : List α}, (aggs (k.map E.cells)).length = k.length := fun {k} => by rw [aggs_length, List.length_map]
    have hself : ∀ (k : List α), ι.dt = true → VAs ι (k.map E.cells).flatten (k.map E.cells).flatten := fun k hd => VAs.closed hd fun v hv => by
      obtain ⟨r, hr, hv⟩ := List.mem_flatten.1 hv
      obtain ⟨a, _, rfl⟩ := List.mem_map.1 hr
      exact E.closed a v hv
    rcases h1.dat_inv with ⟨rfl, hd⟩ | ⟨a1, c, rfl⟩ | ⟨cs, cs', cells, z, b, off, n, c, s, rfl, a1, a2, a3, a4, a5⟩
    · rcases h2.dat_inv with ⟨he, _⟩ | ⟨_, c, he⟩ | ⟨_, _, _, _, _, _, _, _, _, he, _⟩
      · unfold dat at he
        have he : aggs (l.map E.cells) = aggs (m.map E.cells) := by injection he with he; injection he with he; injection he with he _; injection he with he; injection he
        have h3 : l.length = m.length := by rw [← hlen (k := l), he, hlen]
        have h4 : (l.map E.cells).flatten = (m.map E.cells).flatten := by
          have g1 := rowsCells_aggs (E.rows_of (l := l))
          have g2 := rowsCells_aggs (E.rows_of (l := m))
          rw [he] at g1
          exact Option.some.inj (g1.symm.trans g2)
        exact E.rows_uniq h3 (hself l hd) (by rw [h4]; exact hself m hd)
      · unfold dat at he; cases he
      · unfold dat at he; cases he
    · have hl0 : l = [] := List.eq_nil_of_length_eq_zero (by rw [← hlen (k := l), a1]; rfl)
      rcases h2.dat_inv with ⟨he, _⟩ | ⟨b1, _⟩ | ⟨_, _, _, _, _, _, _, _, _, he, _⟩
      · unfold dat at he; cases he
      · rw [hl0, List.eq_nil_of_length_eq_zero (l := m) (by rw [← hlen (k := m), b1]; rfl)]
      · cases he
    · rcases h2.dat_inv with ⟨he, _⟩ | ⟨_, _, he⟩ | ⟨ds, ds', cells2, z2, b2, off2, n2, c2, s2, he, b1, b2', b3, b4, b5⟩
      · unfold dat at he; cases he
      · cases he
      · cases he
        rw [a1] at b1
        cases b1
        rw [E.rows_flat a2] at a5
        rw [E.rows_flat b2'] at b5
        rw [hlen] at a3 b3
        have e1 : cs'.length = ds'.length := by rw [← a5.1, ← b5.1, E.flat_len, E.flat_len, a3, b3]
        have e2 : cs' = ds' := by rw [← a4.2, ← b4.2, e1]
        subst e2
        exact E.rows_uniq (by omega) a5 b5⟩
def agg (E : EncT α) : EncV α := ⟨fun a => .agg ⟨E.cells a⟩, fun ι a hd => (VAs.closed hd (E.closed a)).agg, fun ι a b v h1 h2 => by
  cases h1 with
  | agg hc1 hcs1 =>
    cases h2 with
    | agg hc2 hcs2 => exact E.uniq ι a b _ ⟨hc1, hcs1⟩ ⟨hc2, hcs2⟩⟩
end EncV
def EncT.list {α : Type} (E : EncT α) : EncT (List α) := EncT.ofV (EncV.list E) fun _ => rfl
namespace EncL
variable {α β : Type}
def nil : EncL Unit := ⟨fun _ => [], fun _ _ _ => .nil, fun _ _ _ _ _ _ => rfl⟩
def cons (V : EncV α) (F : EncL β) : EncL (α × β) :=
  ⟨fun p => V.val p.1 :: F.vals p.2, fun ι p hd => .cons (V.closed ι p.1 hd) (F.closed ι p.2 hd), fun ι p q l h1 h2 => by
    match l, h1, h2 with
    | v :: l, h1, h2 =>
      have t : ∀ {x : Value} {xs : List Value}, VAs ι (x :: xs) (v :: l) → VA ι x v ∧ VAs ι xs l := fun h => ⟨h.2 0 _ _ rfl rfl, ⟨by have := h.1; simpa using this, fun i u u' g1 g2 => h.2 (i + 1) u u' (by simpa using g1) (by simpa using g2)⟩⟩
      exact Prod.ext (V.uniq ι _ _ v (t h1).1 (t h2).1) (F.uniq ι _ _ l (t h1).2 (t h2).2)
    | [], h1, _ => exact absurd h1.1 (by simp)⟩
def one (V : EncV α) : EncL α := ⟨fun a => [V.val a], fun ι a hd => .cons (V.closed ι a hd) .nil, fun ι a b l h1 h2 => by
  obtain ⟨v, hv, g1⟩ := h1.get (i := 0) rfl
  obtain ⟨v', hv', g2⟩ := h2.get (i := 0) rfl
  rw [hv] at hv'; cases hv'
  exact V.uniq ι a b v g1 g2⟩
end EncL
noncomputable def lend (tabs : List (Nat × List Value)) (σ : ASt) : Ren := renF (fun b => σ.row b) (tabs.map (·.1)) (tabs.map (·.1))
def noDat : Ren := ⟨fun _ => none, fun _ => none, false, false⟩
noncomputable def specE {α : Type} (E : EncL α) (tabs : List (Nat × List Value)) (ok : α → Prop) (res : α → Value) : SpecF := fun args σ =>
  @dite _ (hasTabs tabs σ = true ∧ ∃ a, ok a ∧ VAs (lend tabs σ) (E.vals a) args) (Classical.propDecidable _) (fun h => some (res (Classical.choose h.2), σ)) (fun _ => none)
theorem specE_eq {α : Type} {E : EncL α} {tabs : List (Nat × List Value)} {ok : α → Prop} {res : α → Value} {args : List Value} {σ : ASt} {a : α} (ht : hasTabs tabs σ = true) (ha : ok a) (hv : VAs (lend tabs σ) (E.vals a) args) : specE E tabs ok res args σ = some (res a, σ) := by
  have h : hasTabs tabs σ = true ∧ ∃ a, ok a ∧ VAs (lend tabs σ) (E.vals a) args := ⟨ht, a, ha, hv⟩
  unfold specE
  rw [dif_pos h]
  have := Classical.choose_spec h.2
  rw [E.uniq _ _ _ _ this.2 hv]
theorem specE_inv {α : Type} {E : EncL α} {tabs : List (Nat × List Value)} {ok : α → Prop} {res : α → Value} {args : List Value} {σ σ' : ASt} {v : Value} (h : specE E tabs ok res args σ = some (v, σ')) :
    σ' = σ ∧ hasTabs tabs σ = true ∧ ∃ a, ok a ∧ VAs (lend tabs σ) (E.vals a) args ∧ v = res a := by
  unfold specE at h
  split at h
  · rename_i hh
    cases h
    have := Classical.choose_spec hh.2
    exact ⟨rfl, hh.1, _, this.1, this.2, rfl⟩
  · cases h
noncomputable def specA {α : Type} (E : EncL α) (tabs : List (Nat × List Value)) (ok : α → Prop) (res : α → Value) : SpecF := fun args σ =>
  @dite _ (hasTabs tabs σ = true ∧ ∃ a, ok a ∧ VAs (renL (tabs.map (·.1)) (tabs.map (·.1))) (E.vals a) args) (Classical.propDecidable _) (fun h => some (res (Classical.choose h.2), σ)) (fun _ => none)
theorem specA_eq {α : Type} {E : EncL α} {tabs : List (Nat × List Value)} {ok : α → Prop} {res : α → Value} {args : List Value} {σ : ASt} {a : α} (ht : hasTabs tabs σ = true) (ha : ok a) (hv : VAs (renL (tabs.map (·.1)) (tabs.map (·.1))) (E.vals a) args) : specA E tabs ok res args σ = some (res a, σ) := by
  have h : hasTabs tabs σ = true ∧ ∃ a, ok a ∧ VAs (renL (tabs.map (·.1)) (tabs.map (·.1))) (E.vals a) args := ⟨ht, a, ha, hv⟩
  unfold specA
  rw [dif_pos h]
  have := Classical.choose_spec h.2
  rw [E.uniq _ _ _ _ this.2 hv]
theorem specA_inv {α : Type} {E : EncL α} {tabs : List (Nat × List Value)} {ok : α → Prop} {res : α → Value} {args : List Value} {σ σ' : ASt} {v : Value} (h : specA E tabs ok res args σ = some (v, σ')) :
    σ' = σ ∧ hasTabs tabs σ = true ∧ ∃ a, ok a ∧ VAs (renL (tabs.map (·.1)) (tabs.map (·.1))) (E.vals a) args ∧ v = res a := by
  unfold specA at h
  split at h
  · rename_i hh
    cases h
    have := Classical.choose_spec hh.2
    exact ⟨rfl, hh.1, _, this.1, this.2, rfl⟩
  · cases h
noncomputable def seen (σ : ASt) : Ren := ⟨fun _ => none, fun b => ownRow σ b, true, true⟩
theorem seen_match (σ : ASt) : Match (fun _ => false) noG (seen σ) .leaf σ .leaf ⟨.leaf, 0, 0, 0⟩ :=
  ⟨Nat.le_refl _, fun _ _ => rfl, fun _ _ _ _ _ h => (by cases h), fun _ _ h => (by cases h), fun _ _ h => (by cases h), fun _ _ h => (by cases h), fun _ h => (by cases h), fun _ h => (by cases h), fun b cells hF => by
    obtain ⟨o, h1, h2⟩ := andThen_eq (show andThen (σ.obj b) (fun o => andThen3 (rowsOf o) fun c _ _ => some c) = some cells from hF)
    obtain ⟨c, e, org, h3, h4⟩ := andThen3_eq h2
    cases h4
    rw [rowsOf_eq h3] at h1
    exact ⟨⟨e, org, h1⟩, fun k sh h => by cases h⟩⟩
theorem call_spec_fz {P : Program} {T : Tab} {G : Globs} {S : Nat → Bool} {ι : Ren} {args argsc : List Value} {σ σc : ASt} {f : FuncId} {fn : Func} {c : Code} (hfn : FnOk1 P G f fn) (hb : fn.body = some c) (hT : TyOk P T) {v : Value} (hent : Entry G S ι args argsc σ σc)
    (hfz : ∀ b, ι.fz b = none) (hv : VA noRen v v) (hrun : ∀ N, fn.ntmps ≤ N → TriC P G S N c (initEnv argsc 0 .leaf) σc (EndsIn T fn fun v1 σ1 => VA (seen σ1) v v1)) :
    Enters P f ∧ (σ.low ≤ σ.next → ∀ π δ D H w args', GlobR G π D → VRs π D args args' → Pre σ σ π δ D H w → Calls P f ⟨args'⟩ w (Back σ σ π δ D H w v)) := by
  obtain ⟨g1, g2, g3⟩ := hfn
  refine ⟨⟨fn, g1, g2, by rw [hb]; rfl⟩, fun _ π δ D H w args' hg ha hp => ?_⟩
  obtain ⟨hP, hrep⟩ := hent.rep hp
  have hac : VRs (partOf ι π σc w) No argsc args' := hent.args.comp hP ha
  refine calls_of_wp g1 hb ?_
  have hsz : (⟨args'⟩ : Array Value).size = args'.length := rfl
  rw [hsz]
  have hgl : GlobR G (partOf ι π σc w) No := fun g hgg => by
    obtain ⟨h1, h2⟩ := hP.loc g g 0 (hent.glob g hgg)
    rcases (hg g hgg).2 with ⟨i, h3, h4, h5⟩ | ⟨_, h3⟩
    · obtain ⟨ic, a1, a2, a3, _⟩ := h2 i h3
      exact ⟨rfl, .inl ⟨ic, a1, h4.trans a2.symm, by rw [a3]; exact h5⟩⟩
    · exact absurd h3 h1
  refine hrun (args'.length + (fn.ntmps - args'.length)) (by omega) (partOf ι π σc w) w (partOf ι π σc w) No w _ _ hrep (EnvR.start hac fn.ntmps) hgl fun x e' σ1 π1 D1 w1 a1 hx hr1 he1 hg1 => ?_
  have hend : ∀ vs, resultsV T σ1 e' fn.results.toList = some vs → VA (seen σ1) v (oneOrTuple vs) → bodyPost P fn (Back σ σ π δ D H w v) .ret a1 w1 := fun vs h1 h2 => by
    obtain ⟨v', hv1, hv2⟩ := sim_results hT (hr1.pre (Nat.le_refl _)) he1 h1
    have hr0 : Rep (fun _ => false) (partOf ι π σc w) w σ1 π1 D1 w1 := { hr1 with anc := fun k hk => (by cases hk) }
    obtain ⟨hP2, hr2⟩ := match_rep (seen_match σ1) hr0
    have hl : Leave (fun _ => false) ι noRen id σ σ ⟨.leaf, 0, 0, 0⟩ v v := noAddr_leave hfz hv
    obtain ⟨π', h3, h4⟩ := hl.post hp hr2 (h2.comp hP2 hv2)
    exact ⟨he1.defers, v', hv1, v', π', D, rfl, h3, h4⟩
  cases x with
  | normal => obtain ⟨vs, h1, h2⟩ := hx; exact hend vs h1 h2
  | exit id => exact hx.elim
  | ret => obtain ⟨vs, h1, h2⟩ := hx; exact hend vs h1 h2
end Go.Abs
