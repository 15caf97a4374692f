/- LinearOrders returns true wherever what it reads is of bulk at most 1048576: the given statement. -/
import Derived.Test.YtlhagmgfffigfaaOd
import Derived.ProofKit
import Derived.Deep.DeepHandedRow
import Derived.JoinedCond
set_option maxRecDepth 100000
namespace Go.Proofs.Ytlhagmgfffigfaa
open Go Go.Abs Go.ChangeShapes Go.WideShapes Go.ChangeAt Go.RowKit
namespace Linear
mutual
theorem bulk_eq {H : Type} : ∀ d : DataW H, Rows.uptoBulk d = bulkD d
  | .lit l => by cases l <;> simp only [Rows.uptoBulk, bulkD]
  | .nil => by simp only [Rows.uptoBulk, bulkD]
  | .ptr d => by simp only [Rows.uptoBulk, bulkD, bulk_eq d]
  | .slice a b => by simp only [Rows.uptoBulk, bulkD, bulks_eq a, bulks_eq b]
  | .agg a => by simp only [Rows.uptoBulk, bulkD, bulks_eq a]
  | .iface _ d => by simp only [Rows.uptoBulk, bulkD, bulk_eq d]
  | .map es => by simp only [Rows.uptoBulk, bulkD, bulke_eq es]
  | .held _ => by simp only [Rows.uptoBulk, bulkD]
theorem bulks_eq {H : Type} : ∀ l : List (DataW H), Rows.uptoBulkAll l = bulkAll l
  | [] => by simp only [Rows.uptoBulkAll, bulkAll]
  | d :: l => by simp only [Rows.uptoBulkAll, bulkAll, bulk_eq d, bulks_eq l]
theorem bulke_eq {H : Type} : ∀ l : List (Lit × DataW H), Rows.uptoBulkEntries l = bulkEntries l
  | [] => by simp only [Rows.uptoBulkEntries, bulkEntries]
  | (k, d) :: l => by
    have h := bulk_eq d
    simp only [Rows.uptoBulkEntries, bulkEntries, bulke_eq l]
    cases k <;> simp only [Rows.uptoBulkEntry, bulkEntry, h]
end
theorem own : ownKnob Try.prog.godebug = none := by kernel_rfl
theorem laidOut : laidOutB Try.prog = true := by kernel_rfl
theorem shapes : argDs Tb.T 14 [33, 36] = some (dsL [L.t33, L.t36]) := by kernel_rfl
theorem readable : (Try.f5.params.toList.all fun t => Try.prog.readableRec t && Nat.blt t Try.prog.types.size) = true := by kernel_rfl
theorem length_weight {t : Ty} : ∀ (l : List (El t)), l.length ≤ (l.map fun y => 1 + wtE t y).sum
  | [] => Nat.zero_le _
  | x :: l => by
    rw [List.map_cons, List.sum_cons, List.length_cons]
    have := length_weight l
    omega
theorem short_of {l : List (El L.t80)} {p : List (El L.t82)} {b : Nat} (h : wtEL [L.t33, L.t36] (l, p, ()) ≤ b) (hb : b ≤ 1048576) : l.length ≤ 1048576 := by
  have h1 := length_weight (t := L.t80) l
  have h2 : (l.map fun y => 1 + wtE L.t80 y).sum + (wtE L.t36 p + 0) ≤ b := h
  omega
theorem contract (H : Type) (enc : TypeId × Value → H) (W : World) (base : Nat) (args : Array Value) (ds gs : List (DataW H)) (before : List MemPlace)
    (hval : ∀ (j : Nat) t v, Try.f5.params[j]? = some t → args[j]? = some v → Value.okWide Try.prog W .any base t v)
    (hW : DataW.Whole enc Try.prog Try.f5.params.toList Rows.linearOrdersSpec.vars false W args.toList ds gs before) (hc : Rows.uptoSmall H (ds ++ gs) = true) (hL : laidMetH Try.prog [] W) :
    Calls Try.prog 5 args W fun e W' => ∃ v, e = .returned v ∧ Rows.linearOrdersSpec.post enc Try.prog Try.f5 false true false false W args v W' := by
  have hW0 := hW
  obtain ⟨p, q, hA, hV, _, _, _⟩ := hW
  obtain ⟨rfl, rfl⟩ := trodVars_none hV
  have hL' : laidMet Try.prog [] W := hL
  obtain ⟨ps, hl, _⟩ := hL'
  have hn : ds.length = 2 := by
    have := hA.length_ds
    exact this.symm.trans (by kernel_rfl)
  have hb : bulkAll ds ≤ 1048576 := by
    rw [List.append_nil] at hc
    have : Rows.uptoBulkAll ds ≤ 1048576 := of_decide_eq_true hc
    rwa [bulks_eq] at this
  have h := lift_true (m := 0) (gs := []) (bs := []) (xs := []) (laid := []) (fuel := 14) (A := [L.t33, L.t36]) (F := fun n => L.r5 n) Tb.tys (fun n => L.r5_ok n) (show DataW.TrodAll enc Try.prog W _ (fun _ => true) _ [33, 36] args.toList ds p from hA)
    (fun j t v ht hv => hval j t v (by rw [← Array.getElem?_toList]; exact ht) (by rw [← Array.getElem?_toList]; exact hv)) trivial hl rfl (fun g c h => by cases h) shapes (fun a _ hw => by
      obtain ⟨l, p, u⟩ := a
      exact ⟨1048577, L.orders 1048577 (by omega) l (short_of hw hb) p⟩)
  refine h.mono fun e W' ⟨he, hs⟩ => ⟨_, he, ?_⟩
  refine law_post 4 laidOut (fun t ht => ?_) (by kernel_rfl) (by kernel_rfl) rfl ?_ hW0 hs
  · have := List.all_eq_true.1 readable t ht
    rw [Bool.and_eq_true] at this
    exact ⟨this.1, (blt_iff _ _).1 this.2⟩
  · match ds, hn with
    | [_, _], _ => rfl
theorem reads (os : Os) {H : Type} (enc : TypeId × Value → H) : ∃ places, DataW.whole enc Try.prog ((World.holding Try.prog os ⟨#[], #[.slice none 0 0, .slice none 0 0], []⟩).forCall (fun _ _ => 0) ⟨#[], #[.slice none 0 0, .slice none 0 0], []⟩).memory Try.f5.params.toList Rows.linearOrdersSpec.vars false (#[.slice none 0 0, .slice none 0 0] : Array Value).toList 14 = some ([.nil, .nil], [], places) :=
  ⟨[], by kernel_rfl⟩
theorem laid_met (os : Os) : laidMet Try.prog [] ((World.holding Try.prog os ⟨#[], #[.slice none 0 0, .slice none 0 0], []⟩).forCall (fun _ _ => 0) ⟨#[], #[.slice none 0 0, .slice none 0 0], []⟩).memory :=
  laidMet_of_run' 8 (by kernel_rfl) (by kernel_rfl)
theorem lifted (os : Os) (started : os.Started) (H : Type) (enc : TypeId × Value → H) (F : Stop.Interp) :
    ReturnsInHanded {} Try.checked os 5 .any ((Rows.OpenSpec.upto Rows.linearOrdersSpec).preRow enc Try.prog Try.f5 Rows.linearOrdersUptoRow.domain false Rows.linearOrdersUptoRow.laid) (((Rows.OpenSpec.upto Rows.linearOrdersSpec).at F).post enc Try.prog Try.f5 false true false false) := by
  obtain ⟨places, hx⟩ := reads os enc
  refine returnsInHanded_of_row (C := Try.checked) (s := Rows.OpenSpec.upto Rows.linearOrdersSpec) own started (by kernel_rfl) Try.func5
    (witness_row_at (enc := enc) (C := Try.checked) false (World.holding Try.prog os ⟨#[], #[.slice none 0 0, .slice none 0 0], []⟩) #[.slice none 0 0, .slice none 0 0] rfl (by kernel_rfl) (by kernel_rfl) (by kernel_rfl)
      (OpenSpec.preRow_of_cond 14 hx (by kernel_rfl) (fun k hk => by cases hk; exact (by kernel_rfl : Rows.uptoSmall H [.nil, .nil] = true)) (by kernel_rfl) (laid_met os))) ?_
  intro W base args ds gs before hval hW _ hc _ hL _ _
  exact contract H enc W base args ds gs before hval hW (hc _ rfl) hL
theorem said : Rows.LinearOrdersUptoSaid :=
  OpenClaim.holds_of_cond 5 Try.f5 rfl rfl rfl rfl rfl rfl rfl ⟨rfl, rfl, rfl, rfl, rfl⟩ rfl rfl rfl rfl rfl (by kernel_rfl) Try.func5 (by kernel_rfl)
    (of_decide_eq_true (by kernel_rfl)) (by unfold Func.isWrapper; first | (rw [if_pos (by decide +kernel)]; kernel_rfl) | (rw [if_neg (by decide +kernel)]; exact ⟨rfl, rfl⟩))
    (fun os started H enc _ F => by rw [OpenClaim.pre_eq_preRow]; exact lifted os started H enc F)
end Linear
end Go.Proofs.Ytlhagmgfffigfaa
