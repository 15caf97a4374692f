/- Texts of this claim, joined: each says ahead what it shows. Conditions: those of each contract. -/
import Derived.Test.YtdmpneafeadbbaaGreatDoorHd
import Derived.Test.YtdmpneafeadbbaaGreatDoorCards
import Derived.Test.YtdmpneafeadbbaaGreatDoorTie
import Derived.Test.YtdmpneafeadbbaaGreatDoorMachF
import Derived.ProofKit
import Derived.Deep.DeepHandedRow
import Derived.SevenTiedAt
import Derived.Lib.LaidTab
import Derived.Stop.LaidErr
set_option linter.unusedSimpArgs false
set_option maxRecDepth 100000
namespace Go.Proofs.YtdmpneafeadbbaaGreatDoor
open Go Go.Abs Go.ChangeShapes Go.WideShapes Go.ChangeAt Go.RowKit
namespace Oc
theorem own : ownKnob Tryz.prog.godebug = none := by kernel_rfl
theorem laidOut : laidOutB Tryz.prog = true := by kernel_rfl
def tb : TypeId := 4
theorem star : "*" ++ "errors.errorString" = "*errors.errorString" := by decide
theorem row218 (u : TypeId) (h : Tryz.prog.typeName? 3 u = some "*errors.errorString") : u = 218 :=
  typeName_ptr_named (nm := "errors.errorString") (by rw [star]; kernel_rfl) (by kernel_rfl) (by decide) u (by rw [star]; exact h)
def list : List (String × DataW Unit) := [("math/bits.deBruijn32tab", Rows.laid_math_bits_deBruijn32tab), ("math/bits.deBruijn64tab", Rows.laid_math_bits_deBruijn64tab), ("internal/strconv.uint64pow10", Rows.laid_internal_strconv_uint64pow10), ("strconv.ErrRange", Rows.laid_strconv_ErrRange), ("strconv.ErrSyntax", Rows.laid_strconv_ErrSyntax)]
theorem cell_of_var {w : World} {n : String} {g : Nat} {v : Value} (hg : Tryz.prog.globalNamed n = some g) (h : w.var? Tryz.prog n = some #[v]) : w.cell? ⟨g, 0, none⟩ = some v := by
  have := World.var?_cell hg h 0
  simpa using this
theorem vars {W : World} (h : laidMet Tryz.prog list W) : Vl.Vars W := by
  have h2 := h.tail.tail
  have h3 := h2.tail
  have h4 := h3.tail
  have hp : laidMet Tryz.prog (("internal/strconv.uint64pow10", Lib.tabData .u64 Lib.pow10Tab) :: [("strconv.ErrRange", Rows.laid_strconv_ErrRange), ("strconv.ErrSyntax", Rows.laid_strconv_ErrSyntax)]) W := h2
  obtain ⟨a2, s2, hv2, _, _, _⟩ := laid_sentinel (g := 2) (ti := 67) (tp := 218) (te := 220) (ts := 9) h3 (by kernel_rfl) (by kernel_rfl) Tryz.underlying67 row218 Tryz.underlying218 Tryz.underlying220 rfl rfl Tryz.underlying9 (by kernel_rfl) (by kernel_rfl)
  obtain ⟨a1, s1, hv1, _, _, _⟩ := laid_sentinel (g := 1) (ti := 67) (tp := 218) (te := 220) (ts := 9) h4 (by kernel_rfl) (by kernel_rfl) Tryz.underlying67 row218 Tryz.underlying218 Tryz.underlying220 rfl rfl Tryz.underlying9 (by kernel_rfl) (by kernel_rfl)
  refine ⟨Lib.tabIs_of_head (g := 0) (t := 174) (e := 22) (n := 20) (by kernel_rfl) (by kernel_rfl) Tryz.underlying174 Tryz.underlying22 (by kernel_rfl) (by kernel_rfl) hp, ⟨_, _, cell_of_var (by kernel_rfl) hv1⟩, ⟨_, _, cell_of_var (by kernel_rfl) hv2⟩, ?_⟩
  obtain ⟨ps, ⟨g, t, cs, f, p, q, _, _, _, _, ⟨g5, t5, cs5, f5, p5, q5, hg5, _, hv5, _, _, _⟩, _⟩, _⟩ := h
  obtain rfl : g5 = 5 := Option.some.inj (hg5.symm.trans (by kernel_rfl))
  unfold World.var? at hv5
  rw [show Tryz.prog.globalNamed "math/bits.deBruijn64tab" = some 5 by kernel_rfl] at hv5
  simp only [Option.bind_some] at hv5
  rcases Nat.lt_or_ge 5 W.heap.size with hh | hh
  · exact hh
  · rw [Array.getElem?_eq_none hh] at hv5; cases hv5
noncomputable def cellsOf (d : DataW Unit) : List Value := match d with
  | .agg ds => ds.map fun d => match d with
    | .lit (.int k z) => .int k z
    | _ => undef
  | _ => []
def rangeS : ByteArray := { data := #[118, 97, 108, 117, 101, 32, 111, 117, 116, 32, 111, 102, 32, 114, 97, 110, 103, 101] }
def syntaxS : ByteArray := { data := #[105, 110, 118, 97, 108, 105, 100, 32, 115, 121, 110, 116, 97, 120] }
noncomputable def put (c : List Value) (o : Obj) : Obj := match o with
  | .cells _ t frozen => .cells ⟨c⟩ t frozen
  | o => o
noncomputable def laidWorld (os : Os) : World :=
  let w0 := World.holding Tryz.prog os ⟨#[.cells #[.string rangeS] 220, .cells #[.string syntaxS] 220], #[], []⟩
  { w0 with heap := ((((w0.heap.modify 0 (put (cellsOf Rows.laid_internal_strconv_uint64pow10))).modify 4 (put (cellsOf Rows.laid_math_bits_deBruijn32tab))).modify 5 (put (cellsOf Rows.laid_math_bits_deBruijn64tab))).modify 2 (put [.iface 218 (.pointer (some ⟨13, 0, none⟩))])).modify 1 (put [.iface 218 (.pointer (some ⟨14, 0, none⟩))]) }
noncomputable def args0 : Array Value := #[.agg #[.int .u8 0, .int .i64 0, .int .u64 0, .string ⟨#[]⟩], .agg #[.int .u8 0, .int .i64 0, .int .u64 0, .string ⟨#[]⟩], .string ⟨#[]⟩]
theorem laid_met (os : Os) : laidMet Tryz.prog Rows.reportOneRow.laid ((laidWorld os).forCall (fun _ _ => 0) ⟨#[], args0, []⟩).memory :=
  laidMet_of_run' 8 (by kernel_rfl) (by kernel_rfl)
theorem reads (os : Os) {H : Type} (enc : TypeId × Value → H) : ∃ places, DataW.whole enc Tryz.prog ((laidWorld os).forCall (fun _ _ => 0) ⟨#[], args0, []⟩).memory Tryz.f4.params.toList Rows.reportOneSpec.vars false args0.toList 8 = some ([.agg [(.lit (.int .u8 0)), (.lit (.int .i64 0)), (.lit (.int .u64 0)), (.lit (.string []))], .agg [(.lit (.int .u8 0)), (.lit (.int .i64 0)), (.lit (.int .u64 0)), (.lit (.string []))], (.lit (.string []))], [], places) :=
  ⟨[], by kernel_rfl⟩
theorem readable : (Tryz.f4.params.toList.all fun t => Tryz.prog.readableRec t && Nat.blt t Tryz.prog.types.size) = true := by kernel_rfl
theorem wf_i64 {n : Int} (h : (Lit.int .i64 n).wf = true) : -9223372036854775808 ≤ n ∧ n ≤ 9223372036854775807 := by
  unfold Lit.wf at h
  rw [Bool.and_eq_true, decide_eq_true_iff, decide_eq_true_iff] at h
  exact h
theorem wf_u64 {n : Int} (h : (Lit.int .u64 n).wf = true) : ∃ b : Nat, n = Int.ofNat b ∧ b < 18446744073709551616 := by
  unfold Lit.wf at h
  rw [Bool.and_eq_true, decide_eq_true_iff, decide_eq_true_iff] at h
  have h0 : 0 ≤ n := h.1
  have h1 : n ≤ 18446744073709551615 := h.2
  refine ⟨n.toNat, ?_, by omega⟩
  show n = ((n.toNat : Nat) : Int)
  omega
theorem contract (H : Type) (enc : TypeId × Value → H) (W : World) (base : Nat) (args : Array Value) (ds gs : List (DataW H)) (before : List MemPlace)
    (hval : ∀ (j : Nat) t v, Tryz.f4.params[j]? = some t → args[j]? = some v → Value.okWide Tryz.prog W .any base t v)
    (hW : DataW.Whole enc Tryz.prog Tryz.f4.params.toList Rows.reportOneSpec.vars false W args.toList ds gs before) (hL : laidMetH Tryz.prog Rows.reportOneRow.laid W) :
    Calls Tryz.prog 4 args W fun e W' => ∃ v, e = .returned v ∧ Rows.reportOneSpec.post enc Tryz.prog Tryz.f4 false true false false W args v W' := by
  have hW0 := hW
  obtain ⟨p, q, hA, hV, _, _, _⟩ := hW
  obtain ⟨rfl, rfl⟩ := trodVars_none hV
  have hL' : laidMet Tryz.prog list W := hL
  have hv := vars hL'
  have hn : ds.length = 3 := by
    have := hA.length_ds
    exact this.symm.trans (by kernel_rfl)
  obtain ⟨a, ha, ho, _⟩ := args_plain (T := Tb.T) (A := [L.t24, L.t24, L.t9]) (fuel := 8) Tb.tys hA (fun j t v ht hv => hval j t v (by rw [← Array.getElem?_toList]; exact ht) (by rw [← Array.getElem?_toList]; exact hv)) (by kernel_rfl) rfl
  obtain ⟨⟨k, m, b, l, _⟩, ⟨k', m', b', l', _⟩, sl, _⟩ := a
  obtain ⟨⟨_, o1, o2, _, _⟩, ⟨_, o3, o4, _, _⟩, _, _⟩ := ho
  obtain ⟨h0, h1⟩ := wf_i64 (n := m) o1
  obtain ⟨b, rfl, hb⟩ := wf_u64 (n := b) o2
  obtain ⟨h0', h1'⟩ := wf_i64 (n := m') o3
  obtain ⟨b', rfl, hb'⟩ := wf_u64 (n := b') o4
  have hargs : args = #[Vl.vV k m b ⟨⟨l⟩⟩, Vl.vV k' m' b' ⟨⟨l'⟩⟩, .string ⟨⟨sl⟩⟩] := by
    apply Array.toList_inj.1
    rw [ha]; rfl
  subst hargs
  refine (La.run4 k m b l k' m' b' l' ⟨⟨sl⟩⟩ hb hb' h0 h1 h0' h1' W hv).mono fun e W' ⟨he, hs⟩ => ⟨_, he, ?_⟩
  refine law_post tb laidOut (fun t ht => ?_) (by kernel_rfl) (by kernel_rfl) rfl ?_ hW0 hs
  · have := List.all_eq_true.1 readable t ht
    rw [Bool.and_eq_true] at this
    exact ⟨this.1, (blt_iff _ _).1 this.2⟩
  · match ds, hn with
    | [_, _, _], _ => rfl
theorem lifted (os : Os) (started : os.Started) (H : Type) (enc : TypeId × Value → H) (F : Stop.Interp) :
    ReturnsInHanded {} Tryz.checked os 4 .any ((OpenSpec.ofChange Rows.reportOneSpec).preRow enc Tryz.prog Tryz.f4 Rows.reportOneRow.domain false Rows.reportOneRow.laid) (((OpenSpec.ofChange Rows.reportOneSpec).at F).post enc Tryz.prog Tryz.f4 false true false false) := by
  obtain ⟨places, hx⟩ := reads os enc
  refine returnsInHanded_of_row (C := Tryz.checked) (s := OpenSpec.ofChange Rows.reportOneSpec) own started (by kernel_rfl) Tryz.func4
    (witness_row_at (enc := enc) (C := Tryz.checked) false (laidWorld os) args0 rfl (by kernel_rfl) (by kernel_rfl) (by kernel_rfl)
      (OpenSpec.preRow_of_cond 8 hx (by kernel_rfl) (fun k hk => by cases hk) (by kernel_rfl) (laid_met os))) ?_
  intro W base args ds gs before hval hW _ _ _ hL _ _
  exact contract H enc W base args ds gs before hval hW hL
theorem said : Rows.ReportOneSaid :=
  OpenClaim.holds_of_cond 4 Tryz.f4 rfl rfl rfl rfl rfl rfl rfl ⟨rfl, rfl, rfl, rfl, rfl⟩ rfl rfl rfl rfl rfl (by kernel_rfl) Tryz.func4 (by kernel_rfl)
    (of_decide_eq_true (by kernel_rfl)) (by unfold Func.isWrapper; first | (rw [if_pos (by decide +kernel)]; kernel_rfl) | (rw [if_neg (by decide +kernel)]; exact ⟨rfl, rfl⟩))
    (fun os started H enc _ F => by rw [OpenClaim.pre_eq_preRow]; exact lifted os started H enc F)
theorem noStand : (Tryz.f4.params.toList.all fun t => !Tryz.pinned.checked.prog.wantsStandIn t) = true := by kernel_rfl
theorem plain (f : FuncId) (fn : Func) (hf : Tryz.pinned.checked.prog.funcNamed "braid/braidlaw45.ReportOne" = some f) (hfn : Tryz.pinned.checked.prog.funcs[f]? = some fn) :
    true = Tryz.pinned.checked.prog.looks [] ∧ ∀ (j : Nat) t, fn.params[j]? = some t → Tryz.pinned.checked.prog.wantsStandIn t = false := by
  obtain rfl : f = 4 := Option.some.inj ((show Tryz.prog.funcNamed "braid/braidlaw45.ReportOne" = some 4 by kernel_rfl).symm.trans hf) |>.symm
  obtain rfl : fn = Tryz.f4 := (Option.some.inj (Tryz.func4.symm.trans hfn)).symm
  refine ⟨by kernel_rfl, fun j t ht => ?_⟩
  have := List.all_eq_true.1 noStand t (by rw [← Array.getElem?_toList] at ht; exact List.mem_of_getElem? ht)
  simpa using this
theorem card : Rows.ReportOneCardSaid :=
  Claim7.holds_tied_plain_at .later [] _ _ _ _ said (fun _ h => by cases h) (by kernel_rfl) (fun _ h => by cases h) reportOne_row_tie rfl ⟨rfl, rfl⟩ (by kernel_rfl) rfl plain (by kernel_rfl)
end Oc
end Go.Proofs.YtdmpneafeadbbaaGreatDoor
