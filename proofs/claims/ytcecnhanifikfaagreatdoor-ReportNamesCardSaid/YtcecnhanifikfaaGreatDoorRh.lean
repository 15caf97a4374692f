/- What the program's text says of ReportNames. Conditions: none. -/
import Derived.Test.YtcecnhanifikfaaGreatDoorCards
import Derived.ProofKit
import Derived.Deep.DeepHandedRow
import Derived.SevenTiedAt
set_option maxRecDepth 100000
namespace Go.Proofs.YtcecnhanifikfaaGreatDoor
open Go Go.ChangeShapes Go.WideShapes Go.ChangeAt Go.RowKit
namespace RcF
theorem named : Tryz.pinned.checked.prog.funcNamed Rows.reportNamesRow.func = some 3 := by kernel_rfl
theorem inst : Tryz.f3.isInstance Tryz.pinned.checked.prog Rows.reportNamesRow.origin Rows.reportNamesRow.targs := of_decide_eq_true (by kernel_rfl)
theorem wrap : Tryz.f3.isWrapper Tryz.pinned.checked.prog Rows.reportNamesRow.wrapper Rows.reportNamesRow.mainSum := by
  unfold Func.isWrapper; first | (rw [if_pos (by decide +kernel)]; kernel_rfl) | (rw [if_neg (by decide +kernel)]; exact ⟨rfl, rfl⟩)
theorem looks : true = Tryz.pinned.checked.prog.looks [] := by kernel_rfl
theorem wf : Rows.reportNamesRow.wfByText (OpenSpec.ofChange Rows.reportNamesSpec) = true := by kernel_rfl
theorem mainIs : Tryz.pinned.checked.prog.mainIs = some (Rows.reportNamesCard.stood.harness.1, Rows.reportNamesCard.stood.harness.2.toList) := by kernel_rfl
theorem any_part {α : Type} {p : α → Bool} (k : Nat) : ∀ (n : Nat) (l : List α), l.length ≤ n * k → (∀ i, i < n → ((l.drop (i * k)).take k).any p = false) → l.any p = false
  | 0, l, h, _ => by
    rw [Nat.zero_mul] at h
    rw [List.eq_nil_of_length_eq_zero (Nat.le_zero.1 h)]; rfl
  | n + 1, l, h, h1 => by
    rw [← List.take_append_drop k l, List.any_append]
    have h0 := h1 0 (Nat.succ_pos n)
    rw [Nat.zero_mul, List.drop_zero] at h0
    rw [h0, Bool.false_or]
    refine any_part k n (l.drop k) (by rw [List.length_drop, Nat.succ_mul] at *; omega) fun i hi => ?_
    have := h1 (i + 1) (by omega)
    rwa [Nat.succ_mul, Nat.add_comm, ← List.drop_drop] at this
theorem goes_of {P : Program} {f : FuncId} (h : P.funcs.toList.any Func.goes = false) : P.goes f = false := by
  have hg : ∀ g : FuncId, (P.funcs[g]?).any Func.goes = false := fun g => by
    cases hf : P.funcs[g]? with
    | none => rfl
    | some fn =>
      have hm : fn ∈ P.funcs.toList := List.mem_of_getElem? (by rw [Array.getElem?_toList]; exact hf)
      rw [List.any_eq_false] at h
      show fn.goes = false
      simpa using h fn hm
  unfold Program.goes
  have h2 : P.funcs.any Func.goes = false := by rw [← Array.any_toList]; exact h
  have h3 : ((P.closure f).any fun g => (P.funcs[g]?).any Func.goes) = false := by
    rw [List.any_eq_false]
    intro g _
    rw [hg g]; decide
  rw [h2, h3, Bool.and_false]; rfl
theorem go0 : ((Tryz.prog.funcs.toList.drop (0 * 60)).take 60).any Func.goes = false := by kernel_rfl
theorem go1 : ((Tryz.prog.funcs.toList.drop (1 * 60)).take 60).any Func.goes = false := by kernel_rfl
theorem go2 : ((Tryz.prog.funcs.toList.drop (2 * 60)).take 60).any Func.goes = false := by kernel_rfl
theorem go3 : ((Tryz.prog.funcs.toList.drop (3 * 60)).take 60).any Func.goes = false := by kernel_rfl
theorem go4 : ((Tryz.prog.funcs.toList.drop (4 * 60)).take 60).any Func.goes = false := by kernel_rfl
theorem go5 : ((Tryz.prog.funcs.toList.drop (5 * 60)).take 60).any Func.goes = false := by kernel_rfl
theorem go6 : ((Tryz.prog.funcs.toList.drop (6 * 60)).take 60).any Func.goes = false := by kernel_rfl
theorem go7 : ((Tryz.prog.funcs.toList.drop (7 * 60)).take 60).any Func.goes = false := by kernel_rfl
theorem go8 : ((Tryz.prog.funcs.toList.drop (8 * 60)).take 60).any Func.goes = false := by kernel_rfl
theorem go9 : ((Tryz.prog.funcs.toList.drop (9 * 60)).take 60).any Func.goes = false := by kernel_rfl
theorem go10 : ((Tryz.prog.funcs.toList.drop (10 * 60)).take 60).any Func.goes = false := by kernel_rfl
theorem few : (Tryz.prog.funcs.toList.length).ble 660 = true := by kernel_rfl
theorem none_goes : Tryz.prog.funcs.toList.any Func.goes = false :=
  any_part 60 11 _ (Nat.le_of_ble_eq_true few) fun i hi => match i, hi with
    | 0, _ => go0
    | 1, _ => go1
    | 2, _ => go2
    | 3, _ => go3
    | 4, _ => go4
    | 5, _ => go5
    | 6, _ => go6
    | 7, _ => go7
    | 8, _ => go8
    | 9, _ => go9
    | 10, _ => go10
theorem goesBy_of {c : OpenClaim} {P : Program} {f : FuncId} (hs : c.start = .entering) (hn : P.funcNamed c.func = some f) (hg : P.goes f = false) : false = c.goesBy P := by
  unfold OpenClaim.goesBy Program.goesAt Program.goesFrom
  rw [hs, hn]
  simp [hg]
theorem goes : false = Rows.reportNamesRow.goesBy Tryz.pinned.checked.prog := goesBy_of rfl named (goes_of none_goes)
end RcF
end Go.Proofs.YtcecnhanifikfaaGreatDoor
