/- QuotaShares: its card. -/
import Derived.Test.YtkadjjicakinbaaDoorQs
import Derived.Test.YtkadjjicakinbaaDoorWd
set_option maxRecDepth 100000
namespace Go.Proofs.YtkadjjicakinbaaDoor
open Go Go.Abs Go.ChangeShapes Go.WideShapes Go.ChangeAt Go.RowKit
namespace Shares
noncomputable def shp : List (Bool × List Sh) := [(true, [.int .i64, .int .i64, .int .i64, .int .i64, .int .i64, .int .i64, .int .i64, .int .i64, .int .i64])]
theorem law {vs : List Value} (h : AreArgs shp vs) : ∃ σ', s7 vs st0 = some (.bool true, σ') := by
  match vs, h with
  | [v], ⟨⟨cs, hv, hc⟩, _⟩ =>
    subst hv
    have k0 : Are [.int .i64, .int .i64, .int .i64, .int .i64, .int .i64, .int .i64, .int .i64, .int .i64, .int .i64] cs := hc
    clear hc
    obtain ⟨_, t0, rfl, ⟨a, rfl, _⟩, k1⟩ := Are.cons_inv k0
    obtain ⟨_, t1, rfl, ⟨b, rfl, _⟩, k2⟩ := Are.cons_inv k1
    obtain ⟨_, t2, rfl, ⟨c, rfl, _⟩, k3⟩ := Are.cons_inv k2
    obtain ⟨_, t3, rfl, ⟨d, rfl, _⟩, k4⟩ := Are.cons_inv k3
    obtain ⟨_, t4, rfl, ⟨e, rfl, _⟩, k5⟩ := Are.cons_inv k4
    obtain ⟨_, t5, rfl, ⟨f, rfl, _⟩, k6⟩ := Are.cons_inv k5
    obtain ⟨_, t6, rfl, ⟨g, rfl, _⟩, k7⟩ := Are.cons_inv k6
    obtain ⟨_, t7, rfl, ⟨h, rfl, _⟩, k8⟩ := Are.cons_inv k7
    obtain ⟨_, t8, rfl, ⟨i, rfl, _⟩, k9⟩ := Are.cons_inv k8
    obtain rfl := Are.nil_inv k9
    refine ⟨st0, ?_⟩
    have : s7 [.agg ⟨[.int .i64 a, .int .i64 b, .int .i64 c, .int .i64 d, .int .i64 e, .int .i64 f, .int .i64 g, .int .i64 h, .int .i64 i]⟩] st0 = some (.bool (r7_0 a b c d e f g h i), st0) := by kernel_rfl
    rw [true7] at this
    exact this

theorem laid_met (os : Os) : laidMet Tryd.prog Rows.quotaSharesRow.laid ((laidWorld os).forCall (fun _ _ => 0) ⟨#[], #[.agg #[.int .i64 0, .int .i64 0, .int .i64 0, .int .i64 0, .int .i64 0, .int .i64 0, .int .i64 0, .int .i64 0, .int .i64 0]], []⟩).memory :=
  laidMet_of_run' 8 (by kernel_rfl) (by kernel_rfl)
theorem reads (os : Os) {H : Type} (enc : TypeId × Value → H) : ∃ places, DataW.whole enc Tryd.prog ((laidWorld os).forCall (fun _ _ => 0) ⟨#[], #[.agg #[.int .i64 0, .int .i64 0, .int .i64 0, .int .i64 0, .int .i64 0, .int .i64 0, .int .i64 0, .int .i64 0, .int .i64 0]], []⟩).memory Tryd.f7.params.toList Rows.quotaSharesSpec.vars false (#[.agg #[.int .i64 0, .int .i64 0, .int .i64 0, .int .i64 0, .int .i64 0, .int .i64 0, .int .i64 0, .int .i64 0, .int .i64 0]] : Array Value).toList 8 = some ([.agg [(.lit (.int .i64 0)), (.lit (.int .i64 0)), (.lit (.int .i64 0)), (.lit (.int .i64 0)), (.lit (.int .i64 0)), (.lit (.int .i64 0)), (.lit (.int .i64 0)), (.lit (.int .i64 0)), (.lit (.int .i64 0))]], [], places) :=
  ⟨[], by kernel_rfl⟩
theorem readable : (Tryd.f7.params.toList.all fun t => Tryd.prog.readableRec t && Nat.blt t Tryd.prog.types.size) = true := by kernel_rfl

theorem contract (H : Type) (enc : TypeId × Value → H) (W : World) (base : Nat) (args : Array Value) (ds gs : List (DataW H)) (before : List MemPlace)
    (hval : ∀ (j : Nat) t v, Tryd.f7.params[j]? = some t → args[j]? = some v → Value.okWide Tryd.prog W .any base t v)
    (hW : DataW.Whole enc Tryd.prog Tryd.f7.params.toList Rows.quotaSharesSpec.vars false W args.toList ds gs before) (hL : laidMetH Tryd.prog Rows.quotaSharesRow.laid W) :
    Calls Tryd.prog 7 args W fun e W' => ∃ v, e = .returned v ∧ Rows.quotaSharesSpec.post enc Tryd.prog Tryd.f7 false true false false W args v W' := by
  have hW0 := hW
  obtain ⟨p, q, hA, hV, _, _, _⟩ := hW
  obtain ⟨rfl, rfl⟩ := trodVars_none hV
  have hL' : laidMet Tryd.prog Rows.quotaSharesRow.laid W := hL
  obtain ⟨ps, hl, _⟩ := hL'
  obtain ⟨vs, hlay, hsh⟩ := flat_args (T := Tb.T) (fuel := 8) Tb.tys Tryd.f7.params.toList ds args.toList shp 1 p (by kernel_rfl) (by kernel_rfl) hA
  obtain ⟨σ', hrun⟩ := law hsh
  have hn : ds.length = 1 := by
    have := hA.length_ds
    exact this.symm.trans (by kernel_rfl)
  have h := spec_true (n := 1) (gs := gs0) (bs := []) (bs' := []) (vs := vs) (σ' := σ') Tb.tys s7_sim hA (fun j t v ht hv => hval j t v (by rw [← Array.getElem?_toList]; exact ht) (by rw [← Array.getElem?_toList]; exact hv)) vars0 hl lay0 gs0_lt hlay glob_some hrun
  refine h.mono fun e W' ⟨he, hs⟩ => ⟨_, he, ?_⟩
  refine law_post tb laidOut (fun t ht => ?_) (by kernel_rfl) (by kernel_rfl) rfl ?_ hW0 hs
  · have := List.all_eq_true.1 readable t ht
    rw [Bool.and_eq_true] at this
    exact ⟨this.1, (blt_iff _ _).1 this.2⟩
  · match ds, hn with
    | [_], _ => rfl

theorem lifted (os : Os) (started : os.Started) (H : Type) (enc : TypeId × Value → H) (F : Stop.Interp) :
    ReturnsInHanded {} Tryd.checked os 7 .any ((OpenSpec.ofChange Rows.quotaSharesSpec).preRow enc Tryd.prog Tryd.f7 Rows.quotaSharesRow.domain false Rows.quotaSharesRow.laid) (((OpenSpec.ofChange Rows.quotaSharesSpec).at F).post enc Tryd.prog Tryd.f7 false true false false) := by
  obtain ⟨places, hx⟩ := reads os enc
  refine returnsInHanded_of_row (C := Tryd.checked) (s := OpenSpec.ofChange Rows.quotaSharesSpec) own started (by kernel_rfl) Tryd.func7
    (witness_row_at (enc := enc) (C := Tryd.checked) false (laidWorld os) #[.agg #[.int .i64 0, .int .i64 0, .int .i64 0, .int .i64 0, .int .i64 0, .int .i64 0, .int .i64 0, .int .i64 0, .int .i64 0]] rfl (by kernel_rfl) (by kernel_rfl) (by kernel_rfl)
      (OpenSpec.preRow_of_cond 8 hx (by kernel_rfl) (fun k hk => by cases hk) (by kernel_rfl) (laid_met os))) ?_
  intro W base args ds gs before hval hW _ _ _ hL _ _
  exact contract H enc W base args ds gs before hval hW hL

theorem said : Rows.QuotaSharesSaid :=
  OpenClaim.holds_of_cond 7 Tryd.f7 rfl rfl rfl rfl rfl rfl rfl ⟨rfl, rfl, rfl, rfl, rfl⟩ rfl rfl rfl rfl rfl (by kernel_rfl) Tryd.func7 (by kernel_rfl)
    (of_decide_eq_true (by kernel_rfl)) (by unfold Func.isWrapper; first | (rw [if_pos (by decide +kernel)]; kernel_rfl) | (rw [if_neg (by decide +kernel)]; exact ⟨rfl, rfl⟩))
    (fun os started H enc _ F => by rw [OpenClaim.pre_eq_preRow]; exact lifted os started H enc F)

theorem noStand : (Tryd.f7.params.toList.all fun t => !Tryd.pinned.checked.prog.wantsStandIn t) = true := by kernel_rfl
theorem plain (f : FuncId) (fn : Func) (hf : Tryd.pinned.checked.prog.funcNamed "braid/braidlaw26.QuotaShares" = some f) (hfn : Tryd.pinned.checked.prog.funcs[f]? = some fn) :
    false = Tryd.pinned.checked.prog.looks [] ∧ ∀ (j : Nat) t, fn.params[j]? = some t → Tryd.pinned.checked.prog.wantsStandIn t = false := by
  obtain rfl : f = 7 := Option.some.inj ((show Tryd.prog.funcNamed "braid/braidlaw26.QuotaShares" = some 7 by kernel_rfl).symm.trans hf) |>.symm
  obtain rfl : fn = Tryd.f7 := (Option.some.inj (Tryd.func7.symm.trans hfn)).symm
  refine ⟨by kernel_rfl, fun j t ht => ?_⟩
  have := List.all_eq_true.1 noStand t (by rw [← Array.getElem?_toList] at ht; exact List.mem_of_getElem? ht)
  simpa using this

theorem card : Rows.QuotaSharesCardSaid :=
  Claim7.holds_tied_plain_at .later [] _ _ _ _ said (fun _ h => by cases h) (by kernel_rfl) (fun _ h => by cases h) quotaShares_row_tie rfl ⟨rfl, rfl⟩ (by kernel_rfl) rfl plain (by kernel_rfl)
end Shares
end Go.Proofs.YtkadjjicakinbaaDoor
