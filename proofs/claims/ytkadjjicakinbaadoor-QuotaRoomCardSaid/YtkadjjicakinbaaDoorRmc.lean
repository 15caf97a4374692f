/- QuotaRoom: its card. -/
import Derived.Test.YtkadjjicakinbaaDoorRm
import Derived.Test.YtkadjjicakinbaaDoorWd
set_option maxRecDepth 100000
namespace Go.Proofs.YtkadjjicakinbaaDoor
open Go Go.Abs Go.ChangeShapes Go.WideShapes Go.ChangeAt Go.RowKit
namespace Room
noncomputable def shp : List (Bool × List Sh) := [(true, [.int .i64, .int .i64, .int .i64, .int .i64, .int .i64]), (true, [.int .i64, .int .i64, .int .i64, .int .i64, .int .i64])]
theorem law {vs : List Value} (h : AreArgs shp vs) : ∃ σ', s5 vs st0 = some (.bool true, σ') := by
  replace h : AreArgs [(true, [.int .i64, .int .i64, .int .i64, .int .i64, .int .i64]), (true, [.int .i64, .int .i64, .int .i64, .int .i64, .int .i64])] vs := h
  obtain ⟨v0, r0, rfl, h0, h⟩ := AreArgs.cons_inv h
  obtain ⟨v1, r1, rfl, h1, h⟩ := AreArgs.cons_inv h
  obtain rfl := AreArgs.nil_inv h
  obtain ⟨c0, rfl, k0_0⟩ := h0.agg
  obtain ⟨_, t0_0, rfl, ⟨a, rfl, _⟩, k0_1⟩ := Are.cons_inv k0_0
  obtain ⟨_, t0_1, rfl, ⟨b, rfl, _⟩, k0_2⟩ := Are.cons_inv k0_1
  obtain ⟨_, t0_2, rfl, ⟨c, rfl, _⟩, k0_3⟩ := Are.cons_inv k0_2
  obtain ⟨_, t0_3, rfl, ⟨d, rfl, _⟩, k0_4⟩ := Are.cons_inv k0_3
  obtain ⟨_, t0_4, rfl, ⟨f, rfl, _⟩, k0_5⟩ := Are.cons_inv k0_4
  obtain rfl := Are.nil_inv k0_5
  obtain ⟨c1, rfl, k1_0⟩ := h1.agg
  obtain ⟨_, t1_0, rfl, ⟨g, rfl, _⟩, k1_1⟩ := Are.cons_inv k1_0
  obtain ⟨_, t1_1, rfl, ⟨i, rfl, _⟩, k1_2⟩ := Are.cons_inv k1_1
  obtain ⟨_, t1_2, rfl, ⟨j, rfl, _⟩, k1_3⟩ := Are.cons_inv k1_2
  obtain ⟨_, t1_3, rfl, ⟨k, rfl, _⟩, k1_4⟩ := Are.cons_inv k1_3
  obtain ⟨_, t1_4, rfl, ⟨l, rfl, _⟩, k1_5⟩ := Are.cons_inv k1_4
  obtain rfl := Are.nil_inv k1_5
  refine ⟨st0, ?_⟩
  exact (show s5 [.agg ⟨[.int .i64 a, .int .i64 b, .int .i64 c, .int .i64 d, .int .i64 f]⟩, .agg ⟨[.int .i64 g, .int .i64 i, .int .i64 j, .int .i64 k, .int .i64 l]⟩] st0 = some (.bool true, st0) by kernel_rfl)

theorem laid_met (os : Os) : laidMet Tryd.prog Rows.quotaRoomRow.laid ((laidWorld os).forCall (fun _ _ => 0) ⟨#[], #[.agg #[.int .i64 0, .int .i64 0, .int .i64 0, .int .i64 0, .int .i64 0], .agg #[.int .i64 0, .int .i64 0, .int .i64 0, .int .i64 0, .int .i64 0]], []⟩).memory :=
  laidMet_of_run' 8 (by kernel_rfl) (by kernel_rfl)
theorem reads (os : Os) {H : Type} (enc : TypeId × Value → H) : ∃ places, DataW.whole enc Tryd.prog ((laidWorld os).forCall (fun _ _ => 0) ⟨#[], #[.agg #[.int .i64 0, .int .i64 0, .int .i64 0, .int .i64 0, .int .i64 0], .agg #[.int .i64 0, .int .i64 0, .int .i64 0, .int .i64 0, .int .i64 0]], []⟩).memory Tryd.f5.params.toList Rows.quotaRoomSpec.vars false (#[.agg #[.int .i64 0, .int .i64 0, .int .i64 0, .int .i64 0, .int .i64 0], .agg #[.int .i64 0, .int .i64 0, .int .i64 0, .int .i64 0, .int .i64 0]] : Array Value).toList 8 = some ([.agg [(.lit (.int .i64 0)), (.lit (.int .i64 0)), (.lit (.int .i64 0)), (.lit (.int .i64 0)), (.lit (.int .i64 0))], .agg [(.lit (.int .i64 0)), (.lit (.int .i64 0)), (.lit (.int .i64 0)), (.lit (.int .i64 0)), (.lit (.int .i64 0))]], [], places) :=
  ⟨[], by kernel_rfl⟩
theorem readable : (Tryd.f5.params.toList.all fun t => Tryd.prog.readableRec t && Nat.blt t Tryd.prog.types.size) = true := by kernel_rfl

theorem contract (H : Type) (enc : TypeId × Value → H) (W : World) (base : Nat) (args : Array Value) (ds gs : List (DataW H)) (before : List MemPlace)
    (hval : ∀ (j : Nat) t v, Tryd.f5.params[j]? = some t → args[j]? = some v → Value.okWide Tryd.prog W .any base t v)
    (hW : DataW.Whole enc Tryd.prog Tryd.f5.params.toList Rows.quotaRoomSpec.vars false W args.toList ds gs before) (hL : laidMetH Tryd.prog Rows.quotaRoomRow.laid W) :
    Calls Tryd.prog 5 args W fun e W' => ∃ v, e = .returned v ∧ Rows.quotaRoomSpec.post enc Tryd.prog Tryd.f5 false true false false W args v W' := by
  have hW0 := hW
  obtain ⟨p, q, hA, hV, _, _, _⟩ := hW
  obtain ⟨rfl, rfl⟩ := trodVars_none hV
  have hL' : laidMet Tryd.prog Rows.quotaRoomRow.laid W := hL
  obtain ⟨ps, hl, _⟩ := hL'
  obtain ⟨vs, hlay, hsh⟩ := flat_args (T := Tb.T) (fuel := 8) Tb.tys Tryd.f5.params.toList ds args.toList shp 1 p (by kernel_rfl) (by kernel_rfl) hA
  obtain ⟨σ', hrun⟩ := law hsh
  have hn : ds.length = 2 := by
    have := hA.length_ds
    exact this.symm.trans (by kernel_rfl)
  have h := spec_true (n := 1) (gs := gs0) (bs := []) (bs' := []) (vs := vs) (σ' := σ') Tb.tys s5_sim hA (fun j t v ht hv => hval j t v (by rw [← Array.getElem?_toList]; exact ht) (by rw [← Array.getElem?_toList]; exact hv)) vars0 hl lay0 gs0_lt hlay glob_some hrun
  refine h.mono fun e W' ⟨he, hs⟩ => ⟨_, he, ?_⟩
  refine law_post tb laidOut (fun t ht => ?_) (by kernel_rfl) (by kernel_rfl) rfl ?_ hW0 hs
  · have := List.all_eq_true.1 readable t ht
    rw [Bool.and_eq_true] at this
    exact ⟨this.1, (blt_iff _ _).1 this.2⟩
  · match ds, hn with
    | [_, _], _ => rfl

theorem lifted (os : Os) (started : os.Started) (H : Type) (enc : TypeId × Value → H) (F : Stop.Interp) :
    ReturnsInHanded {} Tryd.checked os 5 .any ((OpenSpec.ofChange Rows.quotaRoomSpec).preRow enc Tryd.prog Tryd.f5 Rows.quotaRoomRow.domain false Rows.quotaRoomRow.laid) (((OpenSpec.ofChange Rows.quotaRoomSpec).at F).post enc Tryd.prog Tryd.f5 false true false false) := by
  obtain ⟨places, hx⟩ := reads os enc
  refine returnsInHanded_of_row (C := Tryd.checked) (s := OpenSpec.ofChange Rows.quotaRoomSpec) own started (by kernel_rfl) Tryd.func5
    (witness_row_at (enc := enc) (C := Tryd.checked) false (laidWorld os) #[.agg #[.int .i64 0, .int .i64 0, .int .i64 0, .int .i64 0, .int .i64 0], .agg #[.int .i64 0, .int .i64 0, .int .i64 0, .int .i64 0, .int .i64 0]] rfl (by kernel_rfl) (by kernel_rfl) (by kernel_rfl)
      (OpenSpec.preRow_of_cond 8 hx (by kernel_rfl) (fun k hk => by cases hk) (by kernel_rfl) (laid_met os))) ?_
  intro W base args ds gs before hval hW _ _ _ hL _ _
  exact contract H enc W base args ds gs before hval hW hL

theorem said : Rows.QuotaRoomSaid :=
  OpenClaim.holds_of_cond 5 Tryd.f5 rfl rfl rfl rfl rfl rfl rfl ⟨rfl, rfl, rfl, rfl, rfl⟩ rfl rfl rfl rfl rfl (by kernel_rfl) Tryd.func5 (by kernel_rfl)
    (of_decide_eq_true (by kernel_rfl)) (by unfold Func.isWrapper; first | (rw [if_pos (by decide +kernel)]; kernel_rfl) | (rw [if_neg (by decide +kernel)]; exact ⟨rfl, rfl⟩))
    (fun os started H enc _ F => by rw [OpenClaim.pre_eq_preRow]; exact lifted os started H enc F)

theorem noStand : (Tryd.f5.params.toList.all fun t => !Tryd.pinned.checked.prog.wantsStandIn t) = true := by kernel_rfl
theorem plain (f : FuncId) (fn : Func) (hf : Tryd.pinned.checked.prog.funcNamed "braid/braidlaw26.QuotaRoom" = some f) (hfn : Tryd.pinned.checked.prog.funcs[f]? = some fn) :
    false = Tryd.pinned.checked.prog.looks [] ∧ ∀ (j : Nat) t, fn.params[j]? = some t → Tryd.pinned.checked.prog.wantsStandIn t = false := by
  obtain rfl : f = 5 := Option.some.inj ((show Tryd.prog.funcNamed "braid/braidlaw26.QuotaRoom" = some 5 by kernel_rfl).symm.trans hf) |>.symm
  obtain rfl : fn = Tryd.f5 := (Option.some.inj (Tryd.func5.symm.trans hfn)).symm
  refine ⟨by kernel_rfl, fun j t ht => ?_⟩
  have := List.all_eq_true.1 noStand t (by rw [← Array.getElem?_toList] at ht; exact List.mem_of_getElem? ht)
  simpa using this

theorem card : Rows.QuotaRoomCardSaid :=
  Claim7.holds_tied_plain_at .later [] _ _ _ _ said (fun _ h => by cases h) (by kernel_rfl) (fun _ h => by cases h) quotaRoom_row_tie rfl ⟨rfl, rfl⟩ (by kernel_rfl) rfl plain (by kernel_rfl)
end Room
end Go.Proofs.YtkadjjicakinbaaDoor
