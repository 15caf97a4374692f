/- QuotaNames returns true at every start. No condition beyond the card's own: the table of moves reads as its initialiser lays it. -/
import Derived.Test.YtkadjjicakinbaaDoorNm
import Derived.Test.YtkadjjicakinbaaDoorCards
import Derived.Test.YtkadjjicakinbaaDoorTie
import Derived.ProofKit
import Derived.Deep.DeepHandedRow
import Derived.SevenTiedAt
set_option maxRecDepth 100000
namespace Go.Proofs.YtkadjjicakinbaaDoor
open Go Go.Abs Go.ChangeShapes Go.WideShapes Go.ChangeAt Go.RowKit
theorem own : ownKnob Tryd.prog.godebug = none := by kernel_rfl
theorem laidOut : laidOutB Tryd.prog = true := by kernel_rfl
theorem vars0 : VarsAre Tryd.prog xs0 Rows.quotaNamesRow.laid := ⟨by kernel_rfl, by kernel_rfl, rfl, trivial⟩
theorem gs0_lt : ∀ g c, lookG gs0 g = some c → g < 1 := fun g c h => by
  by_cases h0 : 0 = g
  · omega
  · rw [show lookG gs0 g = if 0 = g then some rowsC else none from rfl, if_neg h0] at h; cases h
theorem glob_some : ∀ g, Tb.glob g = true → (lookG gs0 g).isSome = true := fun g h => by
  have : g < 1 := (blt_iff _ _).1 h
  have : 0 = g := by omega
  rw [show lookG gs0 g = if 0 = g then some rowsC else none from rfl, if_pos this]; rfl

noncomputable def laidWorld (os : Os) : World :=
  { World.holding Tryd.prog os ⟨#[], #[], []⟩ with heap := (World.holding Tryd.prog os ⟨#[], #[], []⟩).heap.modify 0 fun
      | .cells _ t frozen => .cells ⟨rowsC⟩ t frozen
      | o => o }

namespace Names
theorem run_some : ∃ σ', callN Tb.T 200 40 8 [] st0 = some (.bool true, σ') := by
  have h := names_run
  revert h
  cases hc : callN Tb.T 200 40 8 [] st0 with
  | none => intro h; cases h
  | some p =>
    obtain ⟨v, σ'⟩ := p
    intro h
    have h' : asB v = some true := h
    rw [asB_eq h']
    exact ⟨σ', rfl⟩

theorem laid_met (os : Os) : laidMet Tryd.prog Rows.quotaNamesRow.laid ((laidWorld os).forCall (fun _ _ => 0) ⟨#[], #[], []⟩).memory :=
  laidMet_of_run' 8 (by kernel_rfl) (by kernel_rfl)
theorem reads (os : Os) {H : Type} (enc : TypeId × Value → H) : ∃ places, DataW.whole enc Tryd.prog ((laidWorld os).forCall (fun _ _ => 0) ⟨#[], #[], []⟩).memory Tryd.f8.params.toList Rows.quotaNamesSpec.vars false (#[] : Array Value).toList 8 = some ([], [], places) :=
  ⟨[], by kernel_rfl⟩

theorem contract (H : Type) (enc : TypeId × Value → H) (W : World) (base : Nat) (args : Array Value) (ds gs : List (DataW H)) (before : List MemPlace)
    (hval : ∀ (j : Nat) t v, Tryd.f8.params[j]? = some t → args[j]? = some v → Value.okWide Tryd.prog W .any base t v)
    (hW : DataW.Whole enc Tryd.prog Tryd.f8.params.toList Rows.quotaNamesSpec.vars false W args.toList ds gs before) (hL : laidMetH Tryd.prog Rows.quotaNamesRow.laid W) :
    Calls Tryd.prog 8 args W fun e W' => ∃ v, e = .returned v ∧ Rows.quotaNamesSpec.post enc Tryd.prog Tryd.f8 false true false false W args v W' := by
  have hW0 := hW
  obtain ⟨p, q, hA, hV, _, _, _⟩ := hW
  obtain ⟨rfl, rfl⟩ := trodVars_none hV
  have hL' : laidMet Tryd.prog Rows.quotaNamesRow.laid W := hL
  obtain ⟨ps, hl, _⟩ := hL'
  obtain ⟨σ', hrun⟩ := run_some
  have hds : args.toList = [] ∧ ds = [] ∧ p = [] := Go.ChangeShapes.trodAll_nil (show DataW.TrodAll enc Tryd.prog W 0 (fun _ => true) true [] args.toList ds p from hA)
  obtain ⟨ha, rfl, rfl⟩ := hds
  have h := abs_true (m := 40) (lf := 200) (f := 8) (n := 1) (gs := gs0) (bs := []) (bs' := []) (vs := []) (σ' := σ') Tb.tys Tb.fns hA (fun j t v ht hv => hval j t v (by rw [← Array.getElem?_toList]; exact ht) (by rw [← Array.getElem?_toList]; exact hv)) vars0 hl lay0 gs0_lt (show layArgs Tb.T 8 [] [] 1 = some ([], []) from rfl) glob_some hrun
  refine h.mono fun e W' ⟨he, hs⟩ => ⟨_, he, ?_⟩
  exact law_post 4 laidOut (fun t ht => by cases ht) (by kernel_rfl) (by kernel_rfl) rfl rfl hW0 hs

theorem lifted (os : Os) (started : os.Started) (H : Type) (enc : TypeId × Value → H) (F : Stop.Interp) :
    ReturnsInHanded {} Tryd.checked os 8 .any ((OpenSpec.ofChange Rows.quotaNamesSpec).preRow enc Tryd.prog Tryd.f8 Rows.quotaNamesRow.domain false Rows.quotaNamesRow.laid) (((OpenSpec.ofChange Rows.quotaNamesSpec).at F).post enc Tryd.prog Tryd.f8 false true false false) := by
  obtain ⟨places, hx⟩ := reads os enc
  refine returnsInHanded_of_row (C := Tryd.checked) (s := OpenSpec.ofChange Rows.quotaNamesSpec) own started (by kernel_rfl) Tryd.func8
    (witness_row_at (enc := enc) (C := Tryd.checked) false (laidWorld os) #[] rfl (by kernel_rfl) (by kernel_rfl) (by kernel_rfl)
      (OpenSpec.preRow_of_cond 8 hx (by kernel_rfl) (fun k hk => by cases hk) (by kernel_rfl) (laid_met os))) ?_
  intro W base args ds gs before hval hW _ _ _ hL _ _
  exact contract H enc W base args ds gs before hval hW hL

theorem said : Rows.QuotaNamesSaid :=
  OpenClaim.holds_of_cond 8 Tryd.f8 rfl rfl rfl rfl rfl rfl rfl ⟨rfl, rfl, rfl, rfl, rfl⟩ rfl rfl rfl rfl rfl (by kernel_rfl) Tryd.func8 (by kernel_rfl)
    (of_decide_eq_true (by kernel_rfl)) (by unfold Func.isWrapper; first | (rw [if_pos (by decide +kernel)]; kernel_rfl) | (rw [if_neg (by decide +kernel)]; exact ⟨rfl, rfl⟩))
    (fun os started H enc _ F => by rw [OpenClaim.pre_eq_preRow]; exact lifted os started H enc F)

theorem plain (f : FuncId) (fn : Func) (hf : Tryd.pinned.checked.prog.funcNamed "braid/braidlaw26.QuotaNames" = some f) (hfn : Tryd.pinned.checked.prog.funcs[f]? = some fn) :
    false = Tryd.pinned.checked.prog.looks [] ∧ ∀ (j : Nat) t, fn.params[j]? = some t → Tryd.pinned.checked.prog.wantsStandIn t = false := by
  obtain rfl : f = 8 := Option.some.inj ((show Tryd.prog.funcNamed "braid/braidlaw26.QuotaNames" = some 8 by kernel_rfl).symm.trans hf) |>.symm
  obtain rfl : fn = Tryd.f8 := (Option.some.inj (Tryd.func8.symm.trans hfn)).symm
  exact ⟨by kernel_rfl, fun j t ht => by rw [Tryd.params8] at ht; simp at ht⟩

theorem card : Rows.QuotaNamesCardSaid :=
  Claim7.holds_tied_plain_at .later [] _ _ _ _ said (fun _ h => by cases h) (by kernel_rfl) (fun _ h => by cases h) quotaNames_row_tie rfl ⟨rfl, rfl⟩ (by kernel_rfl) rfl plain (by kernel_rfl)
end Names
end Go.Proofs.YtkadjjicakinbaaDoor
