/- The abstract machine, one part: see its own sections. Conditions: none. -/
import Derived.Test.YtlhagmgfffigfaaMachF
import Derived.Shelf.SlSortCmp.NoneTotal
/- THE LIFTER: what puts an own slice in order, held against the model's memory. -/
namespace Go.Abs

section
variable {P : Program} {σ σ' : ASt} {π π' : PMap} {δ D D' : Nat → Prop} {H : Nat → Option AObj} {w w1 : World}
/-- the world grows, and draws are made: nothing that is told changes -/
theorem Post.grown (h : Post σ σ' π δ D H w π' D' w1) (n : Nat) (os : Array Obj) : Post σ σ' π δ D H w π' D' (Go.Sort.grow (Go.Sort.ahead w1 n) os) := by
  have hold : ∀ B, B < w1.heap.size → (Go.Sort.grow (Go.Sort.ahead w1 n) os).heap[B]? = w1.heap[B]? := fun B hB => by
    show (w1.heap ++ os)[B]? = _
    rw [Array.getElem?_append_left hB]
  refine ⟨h.mono, ⟨fun k i hk => ?_, h.rel.kin, fun B cc hf => ?_, h.rel.fro, h.rel.sep⟩, h.sub, h.kept, h.dmono, h.dnew, h.kld, h.kin, h.blk, h.frs, ⟨h.fr.os, h.fr.tape, h.fr.output, ?_, fun B hB hu => ?_⟩⟩
  · obtain ⟨o, ho, hr⟩ := h.rel.obj k i hk
    exact ⟨o, ho, hr.mono (PStep.refl _ _) (hold _ (h.rel.lt hk))⟩
  · obtain ⟨el, fz, h1⟩ := h.rel.frz B cc hf
    exact ⟨el, fz, (hold _ (blk_lt h1)).trans h1⟩
  · show w.heap.size ≤ (w1.heap ++ os).size
    rw [Array.size_append]
    exact Nat.le_trans h.fr.size (Nat.le_add_right _ _)
  · rw [hold B (Nat.lt_of_lt_of_le hB h.fr.size)]
    exact h.fr.keep B hB hu
theorem post_low (hp : Pre σ ⟨σ.heap, σ.next, 0, σ.klow⟩ π δ D H w) : Post σ ⟨σ.heap, σ.next, 0, σ.klow⟩ π δ D H w π D w :=
  ⟨⟨Nat.le_refl _, Nat.zero_le _, Nat.le_refl _, fun hw => hw, fun _ _ => .refl _ _ _ _⟩, hp.rel.weaken fun _ h => .inl h, fun _ _ h => .inl h, fun _ _ h => .inl h, fun _ h => h, fun _ h => .inl h, fun _ _ h h' => absurd h h',
    fun k i h => .inr ⟨k, i, h, rfl⟩, fun k i h hr => .inl ⟨k, i, h, hr, rfl⟩, FrStep.same rfl, .refl π w⟩
/-- all cells of a block are written -/
theorem post_rows {b : Nat} {c c' c'' : List Value} {e : Option Nat} {org : Nat} {i : PI} {cc : Array Value} {elem : TypeId} {fz : Nat × Nat} (hp : Pre σ ⟨σ.heap.set b (.cells c' e org false false), σ.next, 0, σ.klow⟩ π δ D H w)
    (ho : σ.obj b = some (.cells c e org false false)) (hi : π b = some i) (hlen : c'.length = c.length) (hB : w.heap[i.blk]? = some (.cells cc elem fz)) (hsz : cc.size = i.bsize) (hle : i.sh + c.length ≤ i.bsize)
    (hfz : ∀ x, x < i.bsize → ¬ (fz.1 ≤ x ∧ x < fz.2)) (hes : i.esz = e) (horg : i.org = org) (hro : i.ro = false) (hl : i.len = c.length) (hv : VRs π D c' c'') (h1 : ∀ v ∈ c', oneA v = true) :
    Post σ ⟨σ.heap.set b (.cells c' e org false false), σ.next, 0, σ.klow⟩ π δ D H w (forget π b i.blk) (forgotten π b i.blk D) (putObj w i.blk (.cells (put1 cc i.sh c'') elem fz)) := by
  have hl2 := hv.1
  refine post_write hp (rewrite_set σ b _ _) ho hi hro rfl rfl (Nat.zero_le _) (Nat.zero_le _) (.cells hlen (fun h => by cases h) (fun h => by cases h) (.inl (Nat.zero_le _)) (.inr rfl)) rfl ?_
  have hps := forget_pstep π b i.blk D
  refine ⟨put1 cc i.sh c'', elem, fz, putObj_same (blk_lt hB), ?_, by rw [hlen]; exact hle, h1, ?_, fun _ => hfz, hes, horg, hro, by rw [hlen]; exact hl⟩
  · rw [put1_size (by omega), hsz]
  · have h2 := flatten_window (cc := cc) (x := i.sh) (off := 0) (n := c''.length) (vs := c'') (by omega) (by omega)
    rw [Nat.add_zero, Nat.zero_add] at h2
    rw [hl2, h2]
    have h3 : (((cc.toList.drop i.sh).take c''.length).drop c''.length) = [] := List.drop_eq_nil_of_le (by simp; omega)
    rw [h3, List.take_zero, List.nil_append, List.append_nil]
    exact hv.mono hps
end

/-- the model's world with a row put down -/
theorem putRow_world {w : World} {blk off : Nat} {cc : Array Value} {elem : TypeId} {fz : Nat × Nat} (hB : w.heap[blk]? = some (.cells cc elem fz)) (l : List Value) (h : off + l.length ≤ cc.size) (n : Nat) :
    Go.Sort.putRow id (Go.Sort.ahead w n) blk off ⟨l⟩ = Go.Sort.ahead (putObj w blk (.cells (put1 cc off l) elem fz)) n := by
  have key : Go.Sort.putCells id off (⟨l⟩ : Array Value) cc = put1 cc off l := by
    apply Array.ext_getElem?
    intro k
    have hsz : cc.toList.length = cc.size := rfl
    have h1 : (put1 cc off l)[k]? = (cc.toList.take off ++ l ++ cc.toList.drop (off + l.length))[k]? := by
      unfold put1
      rw [List.getElem?_toArray]
    rw [h1]
    simp only [Go.Sort.putCells, Array.getElem?_mapIdx, List.getElem?_append, List.length_append, List.length_take, List.getElem?_take, List.getElem?_drop]
    have hd : (⟨l⟩ : Array Value).size = l.length := rfl
    by_cases hk : k < cc.size
    · rw [Array.getElem?_eq_getElem hk, Option.map_some]
      by_cases ha : off ≤ k ∧ k < off + (⟨l⟩ : Array Value).size
      · rw [if_pos ha, hd] at *
        rw [if_pos (by omega), if_neg (by omega)]
        have : k - min off cc.toList.length < l.length := by omega
        rw [List.getElem?_eq_getElem this]
        congr 1
        rw [getElem!_pos (⟨l⟩ : Array Value) (k - off) (by show k - off < l.length; omega)]
        show l[k - off] = _
        congr 1
        omega
      · rw [if_neg ha]
        rw [hd] at ha
        by_cases hb : k < off
        · rw [if_pos (by omega), if_pos (by omega), if_pos hb, Array.getElem?_toList]
          exact (Array.getElem?_eq_getElem hk).symm
        · rw [if_neg (by omega), ← Array.getElem?_eq_getElem hk]
          rw [← Array.getElem?_toList]
          congr 1
          omega
    · rw [Array.getElem?_eq_none (by omega), Option.map_none, if_neg (by omega), List.getElem?_eq_none (by omega)]
  have hh : w.heap.modify blk (Go.Sort.onCells (Go.Sort.putCells id off ⟨l⟩)) = w.heap.setIfInBounds blk (.cells (put1 cc off l) elem fz) := by
    apply Array.ext_getElem?
    intro k
    rw [Array.getElem?_modify]
    by_cases hk : blk = k
    · subst hk
      rw [if_pos rfl, hB, Option.map_some, Array.getElem?_setIfInBounds_self_of_lt (blk_lt hB)]
      show some (Obj.cells (Go.Sort.putCells id off ⟨l⟩ cc) elem fz) = _
      rw [key]
    · rw [if_neg hk, Array.getElem?_setIfInBounds_ne hk]
  unfold Go.Sort.putRow Go.Sort.mapBlock Go.Sort.ahead putObj
  show World.mk (w.heap.modify blk (Go.Sort.onCells (Go.Sort.putCells id off ⟨l⟩))) _ _ _ _ = _
  rw [hh]
theorem holds_rows {w : World} {blk off : Nat} {cc : Array Value} {elem : TypeId} {fz : Nat × Nat} (hB : w.heap[blk]? = some (.cells cc elem fz)) {l : List Value} (hle : off + l.length ≤ cc.size) (hw : (cc.toList.drop off).take l.length = l)
    (hfz : ∀ x, x < cc.size → ¬ (fz.1 ≤ x ∧ x < fz.2)) : Go.Sort.Holds id w blk off ⟨l⟩ := fun j hj => by
  have hj' : j < l.length := hj
  refine ⟨?_, ?_⟩
  · simp only [World.cell?, hB, Option.isSome_none, Bool.false_eq_true, if_false]
    have h1 : l[j]? = cc[off + j]? := by
      have h2 : ((cc.toList.drop off).take l.length)[j]? = cc.toList[off + j]? := by
        rw [List.getElem?_take, if_pos hj', List.getElem?_drop]
      rw [hw] at h2
      rw [h2, Array.getElem?_toList]
    rw [← h1, List.getElem?_eq_getElem hj', getElem!_pos (⟨l⟩ : Array Value) j hj]
    rfl
  · simp only [World.frozen?, hB]
    have := hfz (off + j) (by omega)
    obtain ⟨lo, hi⟩ := fz
    simp only at this ⊢
    rw [Bool.and_eq_false_iff, decide_eq_false_iff_not, decide_eq_false_iff_not]
    omega

/-- what lies in boxes, in the model's world: it lies elsewhere than the block -/
def CapsM (w : World) (blk : Nat) : (C : List Ty) → ElL C → List Value → Prop
  | [], _, cs => cs = []
  | t :: C, y, cs => ∃ a r cc elem fz cells' fr, cs = .pointer (some a) :: r ∧ a.spot = none ∧ a.block ≠ blk ∧ w.heap[a.block]? = some (.cells cc elem fz) ∧ Win cc.toList a.off cells' ∧ Rds fr (cellsT t y.1) cells' ∧
      (∀ B cc, fr B = some cc → B ≠ blk ∧ ∃ elem fz, w.heap[B]? = some (.cells ⟨cc⟩ elem fz)) ∧ CapsM w blk C y.2 r
theorem plain_cells {π : PMap} {D : Nat → Prop} : ∀ (t : Ty) (x : El t), plainT t = true → ∀ v ∈ cellsT t x, ∀ v', VR π D v v' → v' = v
  | .bool, x, _, v, hv, v', h => by
    obtain rfl := List.mem_singleton.1 (show v ∈ [Value.bool x] from hv)
    cases h; rfl
  | .int k, x, _, v, hv, v', h => by
    obtain rfl := List.mem_singleton.1 (show v ∈ [Value.int k x] from hv)
    cases h; rfl
  | .str, x, _, v, hv, v', h => by
    obtain rfl := List.mem_singleton.1 (show v ∈ [Value.string ⟨⟨x⟩⟩] from hv)
    cases h; rfl
  | .unit, _, _, v, hv, _, _ => by cases (show v ∈ [] from hv)
  | .slice _, _, h, _, _, _, _ => by cases h
  | .pair a b, x, hp, v, hv, v', h => by
    have hp : (plainT a && plainT b) = true := hp
    rw [Bool.and_eq_true] at hp
    rcases List.mem_append.1 (show v ∈ cellsT a x.1 ++ cellsT b x.2 from hv) with hv | hv
    · exact plain_cells a x.1 hp.1 v hv v' h
    · exact plain_cells b x.2 hp.2 v hv v' h
  | .arr n t, x, hp, v, hv, v', h => by
    obtain ⟨r, hr, hv⟩ := List.mem_flatten.1 (show v ∈ (x.1.map (cellsT t)).flatten from hv)
    obtain ⟨y, _, rfl⟩ := List.mem_map.1 hr
    exact plain_cells t y hp v hv v' h
theorem plain_vr {π : PMap} {D : Nat → Prop} : ∀ (t : Ty) (x : El t), plainT t = true → ∀ v ∈ cellsT t x, VR π D v v ∧ oneA v = true
  | .bool, x, _, v, hv => by
    obtain rfl := List.mem_singleton.1 (show v ∈ [Value.bool x] from hv)
    exact ⟨.bool _, rfl⟩
  | .int k, x, _, v, hv => by
    obtain rfl := List.mem_singleton.1 (show v ∈ [Value.int k x] from hv)
    exact ⟨.int _ _, rfl⟩
  | .str, x, _, v, hv => by
    obtain rfl := List.mem_singleton.1 (show v ∈ [Value.string ⟨⟨x⟩⟩] from hv)
    exact ⟨.string _, rfl⟩
  | .unit, _, _, v, hv => by cases (show v ∈ [] from hv)
  | .slice _, _, h, _, _ => by cases h
  | .pair a b, x, hp, v, hv => by
    have hp : (plainT a && plainT b) = true := hp
    rw [Bool.and_eq_true] at hp
    rcases List.mem_append.1 (show v ∈ cellsT a x.1 ++ cellsT b x.2 from hv) with hv | hv
    · exact plain_vr a x.1 hp.1 v hv
    · exact plain_vr b x.2 hp.2 v hv
  | .arr n t, x, hp, v, hv => by
    obtain ⟨r, hr, hv⟩ := List.mem_flatten.1 (show v ∈ (x.1.map (cellsT t)).flatten from hv)
    obtain ⟨y, _, rfl⟩ := List.mem_map.1 hr
    exact plain_vr t y hp v hv
theorem plain_rows {π : PMap} {D : Nat → Prop} {t : Ty} (hp : plainT t = true) {xs : List (El t)} {l : List Value} (h : VRs π D (rowsC t xs) l) : l = rowsC t xs := by
  apply List.ext_getElem?
  intro i
  by_cases hi : i < (rowsC t xs).length
  · have hi' : i < l.length := h.1 ▸ hi
    rw [List.getElem?_eq_getElem hi, List.getElem?_eq_getElem hi']
    have hm := List.getElem_mem hi
    obtain ⟨r, hr, hv⟩ := List.mem_flatten.1 (show (rowsC t xs)[i] ∈ (xs.map (cellsT t)).flatten from hm)
    obtain ⟨y, _, rfl⟩ := List.mem_map.1 hr
    rw [plain_cells t y hp _ hv _ (h.2 i _ _ (List.getElem?_eq_getElem hi) (List.getElem?_eq_getElem hi'))]
  · have hl := h.1
    rw [List.getElem?_eq_none (by omega), List.getElem?_eq_none (by omega)]
theorem rowsC_length {t : Ty} (xs : List (El t)) : (rowsC t xs).length = xs.length * sizeT t := rows_len t xs

section
variable {P : Program} {σ σ' : ASt} {π : PMap} {δ D : Nat → Prop} {H : Nat → Option AObj} {w : World}
theorem caps_model (hp : Pre σ σ' π δ D H w) (hlow : σ'.low = 0) {b org0 : Nat} {c0 : List Value} {z : Nat} {i : PI} (ho : σ.obj b = some (.cells c0 (some z) org0 false false)) (hi : π b = some i) (hiro : i.ro = false) :
    ∀ {C : List Ty} {ys : ElL C} {cs cs' : List Value}, Caps σ C ys cs → VRs π D cs cs' → CapsM w i.blk C ys cs'
  | [], _, cs, cs', h, hv => by
    obtain rfl := (show cs = [] from h)
    exact hv.empty
  | t :: C, (y, ys), cs, cs', h, hv => by
    obtain ⟨k, r, org, ro, rfl, hk, h3⟩ := h
    obtain ⟨v', r', rfl, hv1, hv2⟩ := hv.split
    obtain ⟨a', rfl, ha⟩ := hv1.ptr_inv
    obtain ⟨j, hj, cc, elem, fz, hB, hsz, hle, h1c, hvs, hfz, hes, horg, hro, hl⟩ := hp.here hk rfl ha.known
    obtain rfl := ha.at hj
    have hne : k ≠ b := fun e => by rw [e, ho] at hk; cases hk
    have hb : j.blk ≠ i.blk := fun e => by
      rcases hp.rel.sep k b j i hne hj hi e with ⟨_, h5⟩ | ⟨_, _, _, h5⟩
      · rw [hiro] at h5; cases h5
      · have dead : ∀ k i o, δ k → π k = some i → σ.obj k = some o → isDead o = false → False := fun k i o hd hk ho hal => by
          have hlt : k < σ.next := by
            rcases Nat.lt_or_ge k σ.next with h | h
            · exact h
            · rw [hp.wf k h] at ho; cases ho
          rcases hp.okd k i hd hk with h6 | ⟨_, h6 | ⟨_, h6⟩⟩
          · have := hp.nle; omega
          · obtain ⟨x, hx, hy⟩ := h6; rw [ho] at hx; cases hx; rw [hal] at hy; cases hy
          · omega
        rcases h5 with h5 | h5
        · exact dead k j _ h5.1 hj hk rfl
        · exact dead b i _ h5.1 hi ho rfl
    have hcl := cellsT_closed t y
    refine ⟨_, r', cc, elem, fz, (cc.toList.drop j.sh).take (cellsT t y).length, π.fr, rfl, rfl, hb, hB, ?_, hvs.rds hcl, fun B cc2 hf => ⟨fun e => ?_, hp.rel.frz B cc2 hf⟩, caps_model hp hlow ho hi hiro h3 hv2⟩
    · have hcs : cc.toList.length = cc.size := rfl
      have hle : j.sh + (cellsT t y).length ≤ j.bsize := hle
      refine ⟨?_, ?_⟩
      · show j.sh + 0 + _ ≤ _
        rw [List.length_take, List.length_drop]; omega
      · show (cc.toList.drop (j.sh + 0)).take _ = _
        rw [Nat.add_zero, List.length_take, List.length_drop, Nat.min_eq_left (by omega)]
    · subst e
      have := hp.rel.fro b i hi hiro
      rw [hf] at this
      cases this

theorem slo_inv {b z n c : Nat} {v' : Value} (h : VR π D (.slice (some ⟨b, 0, some z⟩) n c) v') : ∃ a' c', v' = .slice (some a') n c' ∧ OpenR π D z ⟨b, 0, some z⟩ a' n c c' := by
  generalize hu : Value.slice (some ⟨b, 0, some z⟩) n c = u at h
  cases h with
  | sl n c hn hs ha => cases hu; cases hs
  | slz a a' hs => cases hu; cases hs
  | @slo a a' s n c c' hn hs hop => cases hu; cases hs; exact ⟨a', c', rfl, hop⟩
  | data h => unfold dat at hu; cases hu
  | dataP _ _ _ => unfold datP at hu; cases hu
  | any _ => unfold unk at hu; cases hu
  | _ => cases hu
/-- **what puts an own slice in order** -/
theorem sort_sim {r : Srt} {f : FuncId} (hent : Enters P f) (hpl : plainT r.t = true) (hnone : ∀ (p : Option Addr) (cap : Nat) (fv : Value) (w : World), Calls P f #[.slice p 0 cap, fv] w fun e w' => e = .returned (.tuple #[]) ∧ w' = w)
    (hsort : ∀ (w : World) (blk off cap : Nat) (cs : List Value) (xs zs : List (El r.t)) (ys : ElL r.C), xs ≠ [] → r.F xs ys = some zs → zs.length = xs.length → blk < w.heap.size → Go.Sort.Holds id w blk off ⟨rowsC r.t xs⟩ → CapsM w blk r.C ys cs →
      Calls P f #[.slice (some ⟨blk, off, none⟩) xs.length cap, .func (.func r.g) #[] ⟨cs⟩] w fun e w' => e = .returned (.tuple #[]) ∧ ∃ n os, w' = Go.Sort.grow (Go.Sort.putRow id (Go.Sort.ahead w n) blk off ⟨rowsC r.t zs⟩) os) : SpecSim P noG f (sortF r) := by
  refine ⟨fun args σ v σ' h => ?_, fun args σ v σ' h => ⟨hent, fun _ π δ D H w args' _ ha hp => ?_⟩⟩
  · obtain ⟨rfl, x, cs, ys, h1, h2, h3⟩ := sortF_inv h
    rcases h3 with ⟨_, rfl⟩ | ⟨b, xs, xs', org, h3, h4, h5, h6, rfl⟩
    · exact ⟨Nat.le_refl _, Nat.zero_le _, Nat.le_refl _, fun hw => hw, fun _ _ => .refl _ _ _ _⟩
    · exact (rewrite_set σ b _ _).mono h4 (Nat.zero_le _) (.cells (by rw [rowsC_length, rowsC_length, h6]) (fun h => by cases h) (fun h => by cases h) (.inl (Nat.zero_le _)) (.inr rfl))
  · obtain ⟨rfl, x, cs, ys, rfl, h2, h3⟩ := sortF_inv h
    obtain ⟨x', r1, rfl, hx, ha⟩ := ha.split
    obtain ⟨fv, r2, rfl, hf, ha⟩ := ha.split
    obtain rfl := ha.empty
    have none_case : ∀ (p : Option Addr) (cap : Nat), Pre σ ⟨σ.heap, σ.next, 0, σ.klow⟩ π δ D H w → Calls P f ⟨[.slice p 0 cap, fv]⟩ w (Back σ ⟨σ.heap, σ.next, 0, σ.klow⟩ π δ D H w (.tuple ⟨[]⟩)) := fun p cap hp =>
      (hnone p cap fv w).mono fun e w' ⟨he, hw⟩ => by
        subst hw
        exact ⟨_, π, D, he, .tuple rfl rfl fun i v v' h _ => (by simp at h), post_low hp⟩
    rcases h3 with ⟨rfl, rfl⟩ | ⟨b, xs, xs', org, rfl, h4, h5, h6, rfl⟩
    · cases hx with
      | sl0 _ c _ => exact none_case none 0 hp
    · obtain ⟨a', c', rfl, hs', hcc, hop⟩ := slo_inv hx
      obtain ⟨i, hi, cc, elem, fz, hB, hsz, hle, h1c, hvs, hfz, hes, horg, hro, hl⟩ := hp.here h4 rfl (hop.imp (fun ⟨i, h, _⟩ => ⟨i, h⟩) id)
      by_cases hxs : xs = []
      · subst hxs
        have : xs' = [] := List.eq_nil_of_length_eq_zero h6
        subst this
        have e : (⟨σ.heap.set b (.cells (rowsC r.t []) (some (sizeT r.t)) org false false), σ.next, 0, σ.klow⟩ : ASt) = ⟨σ.heap, σ.next, 0, σ.klow⟩ := by
          rw [Tr.set_again _ _ _ (show σ.heap.get b = some _ from h4)]
        rw [e] at hp ⊢
        exact none_case (some a') c' hp
      · have hro' : i.ro = false := hro
        have hvx := plain_rows hpl hvs
        rcases hop with ⟨j, hj, hb, hjz, hoff⟩ | ⟨hn0, _⟩
        · have hji : j = i := by rw [hi] at hj; cases hj; rfl
          subst hji
          have hoff' : a'.off = j.sh := by
            rcases hoff with ⟨h7, _⟩ | ⟨h7, _⟩
            · exact h7
            · exact absurd (List.eq_nil_of_length_eq_zero h7) hxs
          obtain ⟨ab, ao, asp⟩ := a'
          simp only at hs' hb hoff'
          subst hs'; subst hb; subst hoff'
          have hcs : cc.toList.length = cc.size := rfl
          have hlen : (rowsC r.t xs').length = (rowsC r.t xs).length := by rw [rowsC_length, rowsC_length, h6]
          cases hf with
          | func fn hfl hfs hcl hcs2 =>
          obtain rfl := List.eq_nil_of_length_eq_zero hfl.symm
          refine Calls.mono (hsort w j.blk j.sh c' _ xs xs' ys hxs h5 h6 (blk_lt hB) (holds_rows hB (by omega) hvx (by rw [hsz]; exact hfz rfl)) (caps_model hp rfl h4 hi hro' h2 ⟨hcl, hcs2⟩)) fun e w' ⟨he, n, os, hw⟩ => ?_
          rw [putRow_world hB _ (by omega)] at hw
          subst hw
          have this : ∀ v ∈ rowsC r.t xs', VR π D v v ∧ oneA v = true := fun v hv => by
            obtain ⟨q, hq, hv⟩ := List.mem_flatten.1 hv
            obtain ⟨y, _, rfl⟩ := List.mem_map.1 hq
            exact plain_vr r.t y hpl v hv
          have hv2 : VRs π D (rowsC r.t xs') (rowsC r.t xs') := ⟨rfl, fun i v v' h1 h2 => by rw [h1] at h2; cases h2; exact (this v (List.mem_of_getElem? h1)).1⟩
          have hpost := post_rows (c'' := rowsC r.t xs') hp h4 hi hlen hB hsz hle (hfz rfl) hes horg hro hl hv2 fun v hv => (this v hv).2
          exact ⟨_, _, _, he, .tuple rfl rfl fun i v v' h _ => (by simp at h), hpost.grown n os⟩
        · rw [hi] at hn0; cases hn0
end
end Go.Abs

/- THE LIFTER: slices.SortFunc, by keys that are all different: the rows in order of their keys. -/
namespace Go.Abs
open Go.Proofs Go.Sort

theorem flat_get {t : Ty} {k : Nat} (hk : sizeT t = k) (k0 : 0 < k) : ∀ (xs : List (El t)) (i : Nat), i < xs.length * k → ∃ x, xs[i / k]? = some x ∧ (rowsC t xs)[i]? = (cellsT t x)[i % k]?
  | [], i, h => by rw [List.length_nil, Nat.zero_mul] at h; omega
  | x :: xs, i, h => by
    have hl : (cellsT t x).length = k := (cellsT_len t x).trans hk
    have he : rowsC t (x :: xs) = cellsT t x ++ rowsC t xs := rfl
    by_cases hi : i < k
    · refine ⟨x, by rw [Nat.div_eq_of_lt hi]; rfl, ?_⟩
      rw [he, List.getElem?_append_left (by omega), Nat.mod_eq_of_lt hi]
    · have hi : k ≤ i := by omega
      rw [List.length_cons, Nat.succ_mul] at h
      obtain ⟨y, h1, h2⟩ := flat_get hk k0 xs (i - k) (by omega)
      refine ⟨y, ?_, ?_⟩
      · rw [Nat.div_eq_sub_div k0 hi, List.getElem?_cons_succ]; exact h1
      · rw [he, List.getElem?_append_right (by omega), hl, h2, Nat.mod_eq_sub_mod hi]
theorem flatK_rows {t : Ty} {k : Nat} (hk : sizeT t = k) {α : Type} [Inhabited α] (f : α → El t) (d : List α) : flatK (fun a => cellsT t (f a)) k d.toArray = ⟨rowsC t (d.map f)⟩ := by
  rcases Nat.eq_zero_or_pos k with k0 | k0
  · have h1 : (flatK (fun a => cellsT t (f a)) k d.toArray).size = 0 := by rw [size_flatK, k0]; rfl
    have h2 : (rowsC t (d.map f)).length = 0 := by rw [rowsC_length, hk, k0]; rfl
    rw [List.eq_nil_of_length_eq_zero h2]
    exact Array.eq_empty_of_size_eq_zero h1
  apply Array.ext_getElem?
  intro i
  rw [show (⟨rowsC t (d.map f)⟩ : Array Value)[i]? = (rowsC t (d.map f))[i]? from List.getElem?_toArray ..]
  by_cases hi : i < d.length * k
  · have hi' : i < (flatK (fun a => cellsT t (f a)) k d.toArray).size := by rw [size_flatK]; exact hi
    rw [Array.getElem?_eq_getElem hi']
    obtain ⟨x, h1, h2⟩ := flat_get hk k0 (d.map f) i (by rw [List.length_map]; exact hi)
    have hx : i / k < d.length := Nat.div_lt_of_lt_mul (by rw [Nat.mul_comm]; exact hi)
    have hm : i % k < (cellsT t x).length := by rw [cellsT_len, hk]; exact Nat.mod_lt _ k0
    rw [h2, List.getElem?_eq_getElem hm]
    congr 1
    have h3 := get_flatK (fun a => cellsT t (f a)) k d.toArray i (by exact hi)
    rw [getElem!_pos _ i hi'] at h3
    rw [h3]
    have h4 : d.toArray[i / k]! = d[i / k] := by
      rw [getElem!_pos _ _ (by exact hx)]; rfl
    rw [h4]
    rw [List.getElem?_map, List.getElem?_eq_getElem hx] at h1
    have h5 : f d[i / k] = x := by simpa using h1
    rw [h5]
    exact getElem!_pos (cellsT t x) (i % k) hm
  · rw [Array.getElem?_eq_none (by rw [size_flatK]; show d.length * k ≤ i; omega), List.getElem?_eq_none (by rw [rowsC_length, hk, List.length_map]; omega)]
theorem lt_compare (x y : Int) : decide (Lib.compareInt x y < 0) = decide (x < y) := by
  unfold Lib.compareInt
  by_cases h : x < y
  · rw [if_pos h, decide_eq_true h]; rfl
  · rw [if_neg h, decide_eq_false h]
    split <;> rfl
theorem swo_key {α : Type} (key : α → Int) : SWO (ltOf fun x y : α => Lib.compareInt (key x) (key y)) := by
  refine ⟨fun x => ?_, fun x y z h1 h2 => ?_, fun x y z h1 h2 => ?_⟩ <;> simp only [ltOf, lt_compare, decide_eq_true_eq, decide_eq_false_iff_not] at *
  · omega
  · omega
  · omega
theorem sort_map {α : Type} (key : α → Int) (xs : List α) : ((xs.attach).mergeSort fun a b => !(ltOf (fun x y : {x // x ∈ xs} => Lib.compareInt (key x.1) (key y.1))) b a).map (·.1) = xs.mergeSort fun a b => decide (key a ≤ key b) := by
  have h := List.map_mergeSort (r := fun a b : {x // x ∈ xs} => !(ltOf (fun x y : {x // x ∈ xs} => Lib.compareInt (key x.1) (key y.1))) b a) (s := fun a b => decide (key a ≤ key b)) (f := fun x : {x // x ∈ xs} => x.1) (l := xs.attach) (fun a _ b _ => by
    show (!(decide (Lib.compareInt (key b.1) (key a.1) < 0))) = decide (key a.1 ≤ key b.1)
    rw [lt_compare]
    by_cases h : key b.1 < key a.1
    · rw [decide_eq_true h, decide_eq_false (by omega)]; rfl
    · rw [decide_eq_false h, decide_eq_true (by omega)]; rfl)
  rw [h, List.attach_map_subtype_val]

section
variable {P : Program} {ρ : Go.Shelf.Ren}
/-- rows of structs -/
theorem rowsK_calls (L : SlLaysF0.n6 P ρ) {t : Ty} {k : Nat} (hk : sizeT t = k) (aE : ∀ w, (isAgg (ρ.t 24)).run P w = .ok true w) (zE : ∀ w, (Go.sizeOf (ρ.t 24)).run P w = .ok k w) (hpl : plainT t = true) (key : El t → Int) (g : Nat) (cb : Array Value) (blk off cap : Nat) (xs : List (El t)) (w : World)
    (eg : ∀ args w, (callFunc g args).run P w = .ok (.enter g args) w) (hne : xs ≠ []) (hnd : (xs.map key).Nodup) (hsz : xs.length ≤ 1000000)
    (hcmp : ∀ (m : Nat) (os : Array Obj) (l : List Value), l.length = xs.length * k → ∀ x ∈ xs, ∀ y ∈ xs, Calls P g (#[.agg ⟨cellsT t x⟩, .agg ⟨cellsT t y⟩] ++ cb) (Go.Sort.grow (Go.Sort.putRow id (Go.Sort.ahead w m) blk off ⟨l⟩) os) fun e w' => e = .returned (.int .i64 (Lib.compareInt (key x) (key y))) ∧
      ∃ q os', w' = Go.Sort.grow ((Go.Sort.grow (Go.Sort.putRow id (Go.Sort.ahead w m) blk off ⟨l⟩) os).drewN q) os')
    (hH : Holds id w blk off ⟨rowsC t xs⟩) (hblk : blk < w.heap.size) :
    Calls P (ρ.f 6) #[.slice (some ⟨blk, off, none⟩) xs.length cap, .func (.func g) #[] cb] w fun e w' => e = .returned (.tuple #[]) ∧ ∃ n os, w' = Go.Sort.grow (Go.Sort.putRow id (Go.Sort.ahead w n) blk off ⟨rowsC t (xs.mergeSort fun a b => decide (key a ≤ key b))⟩) os := by
  obtain ⟨a, ha⟩ := List.exists_mem_of_ne_nil xs hne
  let _ : Inhabited {x // x ∈ xs} := ⟨⟨a, ha⟩⟩
  have hd : (xs.attach.toArray).size = xs.length := by rw [List.size_toArray, List.length_attach]
  have hfl : ∀ d : List {x // x ∈ xs}, flatK (fun a : {x // x ∈ xs} => cellsT t a.1) k d.toArray = ⟨rowsC t (d.map (·.1))⟩ := fun d => flatK_rows hk (fun a : {x // x ∈ xs} => a.1) d
  have h := AnyQ.slices_SortFunc_total L k aE zE (fun a : {x // x ∈ xs} => cellsT t a.1) (fun x => (cellsT_len t x.1).trans hk) (fun x v hv => by
      have := oneCell_of_VR (plain_vr (π := ⟨fun _ => none, fun _ => none⟩) (D := fun _ => False) t x.1 hpl v hv).1 (plain_vr (π := ⟨fun _ => none, fun _ => none⟩) (D := fun _ => False) t x.1 hpl v hv).2
      exact this) (fun x y => Lib.compareInt (key x.1) (key y.1)) (swo_key fun x : {x // x ∈ xs} => key x.1) g cb blk off cap xs.attach.toArray w eg (fun m os dk hs x y => by
      have hl : (rowsC t (dk.toList.map (·.1))).length = xs.length * k := by
        rw [rowsC_length, hk, List.length_map, Array.length_toList, hs, hd]
      have h1 := hcmp m os (rowsC t (dk.toList.map (·.1))) hl x.1 x.2 y.1 y.2
      rw [← hfl dk.toList] at h1
      exact h1) (by
      unfold HoldsK
      rw [hfl, List.attach_map_subtype_val]
      exact hH) hblk (by rw [hd]; omega) (fun x y h1 h2 => by
      simp only [ltOf, lt_compare, decide_eq_false_iff_not] at h1 h2
      exact Subtype.ext (nodup_key hnd x.2 y.2 (by omega)))
  rw [hd] at h
  refine h.mono fun e w' ⟨he, n, os, hw⟩ => ⟨he, n, os, ?_⟩
  rw [hw]
  unfold sortWorldK putRowK
  rw [hfl]
  have := sort_map key xs
  rw [show (xs.attach.toArray).toList = xs.attach from rfl, this]
end
end Go.Abs
