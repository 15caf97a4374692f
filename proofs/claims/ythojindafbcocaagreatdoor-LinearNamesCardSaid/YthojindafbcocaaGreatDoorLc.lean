/- LinearNames returns true at every start. No condition beyond the card's own: the package's variables read as their initialisers lay them. -/
import Derived.Test.YthojindafbcocaaGreatDoorLnQ
import Derived.Test.YthojindafbcocaaGreatDoorLf
import Derived.Test.YthojindafbcocaaGreatDoorCards
import Derived.Test.YthojindafbcocaaGreatDoorTie
import Derived.ProofKit
import Derived.Deep.DeepHandedRow
import Derived.SevenTiedAt
set_option maxRecDepth 100000
namespace Go.Proofs.YthojindafbcocaaGreatDoor
open Go Go.Abs Go.ChangeShapes Go.WideShapes Go.ChangeAt Go.RowKit
namespace Linear
theorem own : ownKnob Tryz.prog.godebug = none := by kernel_rfl
theorem laidOut : laidOutB Tryz.prog = true := by kernel_rfl
theorem vars0 : VarsAre Tryz.prog xs0 Rows.linearNamesRow.laid := ⟨by kernel_rfl, by kernel_rfl, rfl, ⟨by kernel_rfl, by kernel_rfl, rfl, trivial⟩⟩
noncomputable def cellsOf (g : Nat) : List Value := match lookG gs0 g with | some c => c | none => []
noncomputable def putC (c : List Value) : Obj → Obj
  | .cells _ t frozen => .cells ⟨c⟩ t frozen
  | o => o
noncomputable def laidWorld (os : Os) : World :=
  { World.holding Tryz.prog os ⟨#[], #[], []⟩ with heap := ((World.holding Tryz.prog os ⟨#[], #[], []⟩).heap.modify 1 (putC (cellsOf 1))).modify 2 (putC (cellsOf 2)) }

theorem laid_met (os : Os) : laidMet Tryz.prog Rows.linearNamesRow.laid ((laidWorld os).forCall (fun _ _ => 0) ⟨#[], #[], []⟩).memory :=
  laidMet_of_run' 8 (by kernel_rfl) (by kernel_rfl)
theorem reads (os : Os) {H : Type} (enc : TypeId × Value → H) : ∃ places, DataW.whole enc Tryz.prog ((laidWorld os).forCall (fun _ _ => 0) ⟨#[], #[], []⟩).memory Tryz.f3.params.toList Rows.linearNamesSpec.vars false (#[] : Array Value).toList 8 = some ([], [], places) :=
  ⟨[], by kernel_rfl⟩

theorem contract (H : Type) (enc : TypeId × Value → H) (W : World) (base : Nat) (args : Array Value) (ds gs : List (DataW H)) (before : List MemPlace)
    (hval : ∀ (j : Nat) t v, Tryz.f3.params[j]? = some t → args[j]? = some v → Value.okWide Tryz.prog W .any base t v)
    (hW : DataW.Whole enc Tryz.prog Tryz.f3.params.toList Rows.linearNamesSpec.vars false W args.toList ds gs before) (hL : laidMetH Tryz.prog Rows.linearNamesRow.laid W) :
    Calls Tryz.prog 3 args W fun e W' => ∃ v, e = .returned v ∧ Rows.linearNamesSpec.post enc Tryz.prog Tryz.f3 false true false false W args v W' := by
  have hW0 := hW
  obtain ⟨p, q, hA, hV, _, _, _⟩ := hW
  obtain ⟨rfl, rfl⟩ := trodVars_none hV
  have hL' : laidMet Tryz.prog Rows.linearNamesRow.laid W := hL
  obtain ⟨ps, hl, _⟩ := hL'
  have hds : args.toList = [] ∧ ds = [] ∧ p = [] := Go.ChangeShapes.trodAll_nil (show DataW.TrodAll enc Tryz.prog W 0 (fun _ => true) true [] args.toList ds p from hA)
  obtain ⟨ha, rfl, rfl⟩ := hds
  have h := abs_trueS (sp := Ln.sp3) (ks := [Ln.k3, Ln.k5284, Ln.k10792, Ln.k15776]) (m := 60) (lf := 2000) (f := 3) (n := 3) (gs := gs0) (bs := []) (bs' := []) (vs := []) Tb.tys Tb.fns Ln.sp3_ok (Ln.ks_ok) hA (fun j t v ht hv => hval j t v (by rw [← Array.getElem?_toList]; exact ht) (by rw [← Array.getElem?_toList]; exact hv)) vars0 hl lay0 gs0_lt (show layArgs Tb.T 8 [] [] 3 = some ([], []) from rfl) glob_some Ln.run
  refine h.mono fun e W' ⟨he, hs⟩ => ⟨_, he, ?_⟩
  exact law_post 4 laidOut (fun t ht => by cases ht) (by kernel_rfl) (by kernel_rfl) rfl rfl hW0 hs

theorem lifted (os : Os) (started : os.Started) (H : Type) (enc : TypeId × Value → H) (F : Stop.Interp) :
    ReturnsInHanded {} Tryz.checked os 3 .any ((OpenSpec.ofChange Rows.linearNamesSpec).preRow enc Tryz.prog Tryz.f3 Rows.linearNamesRow.domain false Rows.linearNamesRow.laid) (((OpenSpec.ofChange Rows.linearNamesSpec).at F).post enc Tryz.prog Tryz.f3 false true false false) := by
  obtain ⟨places, hx⟩ := reads os enc
  refine returnsInHanded_of_row (C := Tryz.checked) (s := OpenSpec.ofChange Rows.linearNamesSpec) own started (by kernel_rfl) Tryz.func3
    (witness_row_at (enc := enc) (C := Tryz.checked) false (laidWorld os) #[] rfl (by kernel_rfl) (by kernel_rfl) (by kernel_rfl)
      (OpenSpec.preRow_of_cond 8 hx (by kernel_rfl) (fun k hk => by cases hk) (by kernel_rfl) (laid_met os))) ?_
  intro W base args ds gs before hval hW _ _ _ hL _ _
  exact contract H enc W base args ds gs before hval hW hL

theorem said : Rows.LinearNamesSaid :=
  OpenClaim.holds_of_cond 3 Tryz.f3 rfl rfl rfl rfl rfl rfl rfl ⟨rfl, rfl, rfl, rfl, rfl⟩ rfl rfl rfl rfl rfl LinearF.named Tryz.func3 LinearF.joined
    LinearF.inst LinearF.wrap
    (fun os started H enc _ F => by rw [OpenClaim.pre_eq_preRow]; exact lifted os started H enc F)

theorem plain (f : FuncId) (fn : Func) (hf : Tryz.pinned.checked.prog.funcNamed "braid/braidlaw33.LinearNames" = some f) (hfn : Tryz.pinned.checked.prog.funcs[f]? = some fn) :
    true = Tryz.pinned.checked.prog.looks [] ∧ ∀ (j : Nat) t, fn.params[j]? = some t → Tryz.pinned.checked.prog.wantsStandIn t = false := by
  obtain rfl : f = 3 := Option.some.inj (LinearF.named.symm.trans hf) |>.symm
  obtain rfl : fn = Tryz.f3 := (Option.some.inj (Tryz.func3.symm.trans hfn)).symm
  exact ⟨LinearF.looks, fun j t ht => by rw [Tryz.params3] at ht; simp at ht⟩

theorem card : Rows.LinearNamesCardSaid :=
  Claim7.holds_tied_plain_at .later [] _ _ _ _ said (fun _ h => by cases h) LinearF.wf (fun _ h => by cases h) linearNames_row_tie rfl ⟨rfl, rfl⟩ LinearF.mainIs rfl plain LinearF.goes
end Linear
end Go.Proofs.YthojindafbcocaaGreatDoor
