/- Function 34, slices.SortFunc at numbers of events, as a function of data; its contract. Conditions: none. -/
import Derived.Test.YtlhagmgfffigfaaTy
import Derived.Test.YtlhagmgfffigfaaShp
import Derived.Test.YtlhagmgfffigfaaMachG
set_option maxRecDepth 100000
namespace Go.Proofs.Ytlhagmgfffigfaa
open Go Go.Abs
namespace L
/-- the ticket of the event with a number -/
noncomputable def keyT (l : List (El t80)) (i : Int) : Int := @Option.rec (El t80) (fun _ => Int) 0 (fun e => e.2.2.2.2.2.1) l[i.toNat]?
noncomputable def r34 (xs : List (El t3)) (ys : ElL [t33]) : Option (List (El t3)) := @ite _ (∀ i ∈ xs, 0 ≤ (show Int from i) ∧ (show Int from i).toNat < List.length (α := El t80) ys.1) (Classical.propDecidable _) (ordBy (α := Int) (keyT ys.1) xs) none
noncomputable def r34k (_ : Nat) : Con := ⟨34, [], [], fun _ => none, false, some ⟨t3, 35, [t33], r34⟩⟩
set_option maxHeartbeats 2000000 in
theorem closure35 (B o blk off n c : Nat) (W : World) (G : Nat → Int) (hs : W.cell? ⟨B, o, none⟩ = some (.slice (some ⟨blk, off, none⟩) n c))
    (hc : ∀ t, t < n → W.cell? ⟨blk, off + t * 61 + 14, none⟩ = some (.int .i64 (G t))) (i j : Nat) (hi : i < n) (hj : j < n) :
    Calls Try.prog 35 #[.int .i64 i, .int .i64 j, .pointer (some ⟨B, o, none⟩)] W fun e w' => e = .returned (.int .i64 (Lib.compareInt (G i) (G j))) ∧ ∃ q, w' = W.drewN q := by
  have ci := hc i hi
  have cj := hc j hj
  have hcon := fun W' => AnyG.cmp_Compare_int Try.cmpInt (G i) (G j) W'
  change ∀ W', Calls Try.prog 32 _ _ _ at hcon
  generalize Lib.compareInt (G i) (G j) = r at hcon ⊢
  go_enter Try.func35, Try.ntmps35
  go_wp2
  go_quiet (first | (go_at_call 32; refine Calls.quiet_of_same (hcon _)))
  go_wp2
  go_ret
  exact ⟨rfl, nq, rfl⟩
theorem enters34 : Go.Abs.Enters Try.prog 34 := ⟨_, Try.func34, by kernel_rfl, by kernel_rfl⟩
theorem t80_at (x : El t80) : (cellsT t80 x)[14]? = some (.int .i64 x.2.2.2.2.2.1) := rfl
theorem r34_core (w : World) (blk off cap : Nat) (cs : List Value) (xs zs : List Int) (l : List (El t80)) (hne : xs ≠ []) (hF : @ite _ (∀ i ∈ xs, 0 ≤ i ∧ i.toNat < l.length) (Classical.propDecidable _) (ordBy (keyT l) xs) none = some zs)
    (hblk : blk < w.heap.size) (hH : Go.Sort.Holds id w blk off ⟨rowI .i64 xs⟩) (hcap : CapsM w blk [t33] (l, PUnit.unit) cs) :
    Calls Try.prog 34 #[.slice (some ⟨blk, off, none⟩) xs.length cap, .func (.func 35) #[] ⟨cs⟩] w fun e w' => e = .returned (.tuple #[]) ∧ ∃ n os, w' = Go.Sort.grow (Go.Sort.putRow id (Go.Sort.ahead w n) blk off ⟨rowI .i64 zs⟩) os := by
  split at hF
  · rename_i hin
    obtain ⟨h1, h2, rfl⟩ := ordBy_eq hF
    obtain ⟨a, r, cc, elem, fz, cells', fr, rfl, hsp, hab, hB, hwin, hrd, hfr, hr⟩ := hcap
    obtain rfl := (show r = [] from hr)
    obtain ⟨B, o, sp⟩ := a
    simp only at hsp hab hB hwin
    subst hsp
    have hrd : Rds fr [dat (aggs (l.map (cellsT t80)))] cells' := hrd
    obtain ⟨v', hv', hv⟩ : ∃ v', cells' = [v'] ∧ Rd fr (dat (aggs (l.map (cellsT t80)))) v' := by
      match cells', hrd with
      | [v'], h => exact ⟨v', rfl, h.2 0 _ _ rfl rfl⟩
      | [], h => have := h.1; simp at this
      | _ :: _ :: _, h => have := h.1; simp at this
    subst hv'
    have hxs : ∀ i ∈ xs, 0 ≤ i ∧ i.toNat < l.length := hin
    have hll : (aggs (l.map (cellsT t80))).length = l.length := by rw [aggs_length]; exact List.length_map _
    have hl0 : l ≠ [] := fun e => by
      obtain ⟨i, hi⟩ := List.exists_mem_of_ne_nil xs hne
      have := (hxs i hi).2
      rw [e] at this; simp at this
    rcases hv.dat_inv with ⟨h3, _⟩ | ⟨cs, cs', z, c', a', rfl, hrows, hle, hdat, hcs⟩
    · rw [h3] at hll
      exact absurd (List.eq_nil_of_length_eq_zero hll.symm) hl0
    · rcases hdat with h3 | ⟨hs', cc2, hf2, hw2⟩
      · rw [h3] at hll
        exact absurd (List.eq_nil_of_length_eq_zero hll.symm) hl0
      · obtain ⟨b2, o2, sp2⟩ := a'
        simp only at hs' hf2 hw2
        subst hs'
        obtain ⟨hb2, elem2, fz2, hB2⟩ := hfr b2 cc2 hf2
        have hcs0 : cs = rowsC t80 l := (encT t80).rows_flat hrows
        subst hcs0
        have hcells : ∀ t, t < l.length → w.cell? ⟨b2, o2 + t * 61 + 14, none⟩ = some (.int .i64 (keyT l (Int.ofNat t))) := fun t ht => by
          obtain ⟨x, g1, g2⟩ := flat_get (t := t80) (k := 61) rfl (by omega) l (t * 61 + 14) (by omega)
          have e1 : (t * 61 + 14) / 61 = t := by omega
          have e2 : (t * 61 + 14) % 61 = 14 := by omega
          rw [e1] at g1
          rw [e2, t80_at] at g2
          have hlt := (List.getElem?_eq_some_iff.1 g2).1
          obtain ⟨v2, g3⟩ : ∃ v2, cs'[t * 61 + 14]? = some v2 := ⟨_, List.getElem?_eq_getElem (hcs.1 ▸ hlt)⟩
          have g4 := hcs.2 _ _ _ g2 g3
          cases g4
          have g5 : cc2[o2 + (t * 61 + 14)]? = some (Value.int .i64 x.2.2.2.2.2.1) := by
            have : ((cc2.drop o2).take cs'.length)[t * 61 + 14]? = cc2[o2 + (t * 61 + 14)]? := by
              rw [List.getElem?_take, if_pos (hcs.1 ▸ hlt), List.getElem?_drop]
            rw [← this, hw2.2, g3]
          simp only [World.cell?, hB2, Option.isSome_none, Bool.false_eq_true, if_false]
          rw [show o2 + t * 61 + 14 = o2 + (t * 61 + 14) by omega]
          have hk : keyT l (Int.ofNat t) = x.2.2.2.2.2.1 := by
            unfold keyT
            rw [show (Int.ofNat t).toNat = t from rfl, g1]
          rw [hk]
          exact (List.getElem?_toArray ..).trans g5
        have hbox : w.cell? ⟨B, o, none⟩ = some (.slice (some ⟨b2, o2, none⟩) l.length c') := by
          simp only [World.cell?, hB, Option.isSome_none, Bool.false_eq_true, if_false]
          have : ((cc.toList.drop o).take 1)[0]? = cc[o]? := by
            rw [List.getElem?_take, if_pos (by omega), List.getElem?_drop, Nat.add_zero, Array.getElem?_toList]
          rw [← this]
          have h9 := hwin.2
          rw [hll] at h9
          have h10 : (cc.toList.drop o).take 1 = [Value.slice (some ⟨b2, o2, none⟩) l.length c'] := h9
          rw [h10]; rfl
        exact rows1_calls Try.sortI (kd := .i64) (keyT l) 35 ⟨[.pointer (some ⟨B, o, none⟩)]⟩ blk off cap xs w (enters_of Try.func35 (by kernel_rfl) rfl) hne h1 h2 (fun m os rows _ x hx y hy => by
          obtain ⟨hx0, hx1⟩ := hxs x hx
          obtain ⟨hy0, hy1⟩ := hxs y hy
          have hBs := blk_lt hB
          have hB2s := blk_lt hB2
          have key : ∀ a : Addr, a.block ≠ blk → a.block < w.heap.size → (Go.Sort.grow (Go.Sort.putRow id (Go.Sort.ahead w m) blk off ⟨rows⟩) os).cell? a = w.cell? a := fun a ha hal => by
            rw [Go.Sort.cell?_grow _ _ _ (by rw [Go.Sort.size_putRow]; exact hal), Go.Sort.cell?_putRow_other _ _ _ _ _ _ (.inl ha)]
            rfl
          have h5 := closure35 B o b2 o2 l.length c' (Go.Sort.grow (Go.Sort.putRow id (Go.Sort.ahead w m) blk off ⟨rows⟩) os) (fun t => keyT l (Int.ofNat t)) (by rw [key _ hab hBs]; exact hbox) (fun t ht => by rw [key _ hb2 hB2s]; exact hcells t ht) x.toNat y.toNat hx1 hy1
          have ex : ((x.toNat : Nat) : Int) = x := Int.toNat_of_nonneg hx0
          have ey : ((y.toNat : Nat) : Int) = y := Int.toNat_of_nonneg hy0
          have kx : keyT l (Int.ofNat x.toNat) = keyT l x := congrArg (keyT l) ex
          have ky : keyT l (Int.ofNat y.toNat) = keyT l y := congrArg (keyT l) ey
          rw [ex, ey] at h5
          refine Calls.mono h5 fun e w' ⟨he, q, hw⟩ => ⟨?_, q, #[], ?_⟩
          · rw [he]
            show Ending.returned (.int .i64 (Lib.compareInt (keyT l (Int.ofNat x.toNat)) (keyT l (Int.ofNat y.toNat)))) = _
            rw [kx, ky]
          · rw [hw, Go.Sort.grow_empty]) hH hblk
  · cases hF
theorem r34_ok (n : Nat) : SpecSim Try.prog noG 34 (Con.spec (r34k n)) := by
  refine sort_sim (r := ⟨t3, 35, [t33], r34⟩) enters34 rfl (fun p cap fv w => AnyF.slices_SortFunc_none { Try.sortI with } p cap fv w) fun w blk off cap cs xs zs ys hne hF hl hblk hH hcap => ?_
  have e1 : rowsC t3 xs = rowI .i64 xs := rowsC_int (kd := .i64) xs
  have e2 : rowsC t3 zs = rowI .i64 zs := rowsC_int (kd := .i64) zs
  have hH : Go.Sort.Holds id w blk off ⟨rowsC t3 xs⟩ := hH
  rw [e1] at hH
  have h := r34_core w blk off cap cs xs zs ys.1 hne hF hblk hH hcap
  rw [← e2] at h
  exact h
end L
end Go.Proofs.Ytlhagmgfffigfaa
