/- ReportNames returns true at every start. No condition beyond the card's own: the package's variables read as their initialisers lay them. -/
import Derived.Test.YtcecnhanifikfaaGreatDoorRnQ
import Derived.Test.YtcecnhanifikfaaGreatDoorRf
import Derived.Test.YtcecnhanifikfaaGreatDoorRh
import Derived.Test.YtcecnhanifikfaaGreatDoorRw
import Derived.Test.YtcecnhanifikfaaGreatDoorGm
import Derived.Test.YtcecnhanifikfaaGreatDoorGn
import Derived.Test.YtcecnhanifikfaaGreatDoorTl
import Derived.Test.YtcecnhanifikfaaGreatDoorCards
import Derived.ProofKit
import Derived.Deep.DeepHandedRow
import Derived.SevenTiedAt
set_option maxRecDepth 100000
namespace Go.Proofs.YtcecnhanifikfaaGreatDoor
open Go Go.Abs Go.ChangeShapes Go.WideShapes Go.ChangeAt Go.RowKit
namespace Rc
theorem own : ownKnob Tryz.prog.godebug = none := by kernel_rfl
theorem reads (os : Os) {H : Type} (enc : TypeId × Value → H) : ∃ places, DataW.whole enc Tryz.prog ((laidWorld os).forCall (fun _ _ => 0) ⟨#[], #[], []⟩).memory Tryz.f3.params.toList Rows.reportNamesSpec.vars false (#[] : Array Value).toList 8 = some ([], [], places) :=
  ⟨[], by kernel_rfl⟩
theorem contract (H : Type) (enc : TypeId × Value → H) (W : World) (_base : Nat) (args : Array Value) (ds gs : List (DataW H)) (before : List MemPlace)
    (hW : DataW.Whole enc Tryz.prog Tryz.f3.params.toList Rows.reportNamesSpec.vars false W args.toList ds gs before) (hL : laidMetH Tryz.prog Rows.reportNamesRow.laid W) (hsh : W.ShapedOpen Tryz.prog) :
    Calls Tryz.prog 3 args W fun e W' => ∃ v, e = .returned v ∧ Rows.reportNamesSpec.post enc Tryz.prog Tryz.f3 false true false false W args v W' := by
  have hW0 := hW
  obtain ⟨p, q, hA, hV, _, _, _⟩ := hW
  obtain ⟨rfl, rfl⟩ := trodVars_none hV
  have hL' : laidMet Tryz.prog Rows.reportNamesRow.laid W := hL
  have hds : args.toList = [] ∧ ds = [] ∧ p = [] := Go.ChangeShapes.trodAll_nil (show DataW.TrodAll enc Tryz.prog W 0 (fun _ => true) true [] args.toList ds p from hA)
  obtain ⟨ha, rfl, rfl⟩ := hds
  obtain rfl : args = #[] := Array.toList_inj.1 ha
  have h := abs_trueG (sp := Bx.ex) (m := 60) (lf := 2000) (f := 3) (n := 10) (gs := gs0) (Bx.ent 3 _ Tryz.func3 (by kernel_rfl) (by kernel_rfl)) Tb.tys Tb.fns (Bx.ex_ok _) Rn.ks_ok (globs hL' hsh) gs0_lt glob_some Rn.run
  refine h.mono fun e W' ⟨he, hs⟩ => ⟨_, he, ?_⟩
  exact law_post 4 RcF.laidOut (fun t ht => by cases ht) (by kernel_rfl) (by kernel_rfl) rfl rfl hW0 hs

theorem lifted (os : Os) (started : os.Started) (H : Type) (enc : TypeId × Value → H) (F : Stop.Interp) :
    ReturnsInHanded {} Tryz.checked os 3 .any ((OpenSpec.ofChange Rows.reportNamesSpec).preRow enc Tryz.prog Tryz.f3 Rows.reportNamesRow.domain false Rows.reportNamesRow.laid) (((OpenSpec.ofChange Rows.reportNamesSpec).at F).post enc Tryz.prog Tryz.f3 false true false false) := by
  obtain ⟨places, hx⟩ := reads os enc
  refine returnsInHanded_of_row (C := Tryz.checked) (s := OpenSpec.ofChange Rows.reportNamesSpec) own started (by kernel_rfl) Tryz.func3
    (witness_row_at (enc := enc) (C := Tryz.checked) false (laidWorld os) #[] rfl (by kernel_rfl) (by kernel_rfl) (by kernel_rfl)
      (OpenSpec.preRow_of_cond 8 hx (by kernel_rfl) (fun k hk => by cases hk) (by kernel_rfl) (laid_met os))) ?_
  intro W base args ds gs before hval hW _ _ _ hL hsh _
  exact contract H enc W base args ds gs before hW hL hsh

theorem said : Rows.ReportNamesSaid :=
  OpenClaim.holds_of_cond 3 Tryz.f3 rfl rfl rfl rfl rfl rfl rfl ⟨rfl, rfl, rfl, rfl, rfl⟩ rfl rfl rfl rfl rfl RcF.named Tryz.func3 RcF.joined
    RcF.inst RcF.wrap
    (fun os started H enc _ F => by rw [OpenClaim.pre_eq_preRow]; exact lifted os started H enc F)

theorem plain (f : FuncId) (fn : Func) (hf : Tryz.pinned.checked.prog.funcNamed "braid/braidlaw45.ReportNames" = some f) (hfn : Tryz.pinned.checked.prog.funcs[f]? = some fn) :
    true = Tryz.pinned.checked.prog.looks [] ∧ ∀ (j : Nat) t, fn.params[j]? = some t → Tryz.pinned.checked.prog.wantsStandIn t = false := by
  obtain rfl : f = 3 := Option.some.inj (RcF.named.symm.trans hf) |>.symm
  obtain rfl : fn = Tryz.f3 := (Option.some.inj (Tryz.func3.symm.trans hfn)).symm
  exact ⟨RcF.looks, fun j t ht => by rw [Tryz.params3] at ht; simp at ht⟩

theorem card : Rows.ReportNamesCardSaid :=
  Claim7.holds_tied_plain_at .later [] _ _ _ _ said (fun _ h => by cases h) RcF.wf (fun _ h => by cases h) Ti.reportNames_row_tie rfl ⟨rfl, rfl⟩ RcF.mainIs rfl plain RcF.goes
end Rc
end Go.Proofs.YtcecnhanifikfaaGreatDoor
