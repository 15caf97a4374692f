/- Function 30, slices.SortFunc at points, as a function of data; its contract. Conditions: none. -/
import Derived.Test.YtlhagmgfffigfaaTy
import Derived.Test.YtlhagmgfffigfaaShp
import Derived.Test.YtlhagmgfffigfaaMachG
set_option maxRecDepth 100000
namespace Go.Proofs.Ytlhagmgfffigfaa
open Go Go.Abs
namespace L
noncomputable def r30 (xs : List (El t82)) (_ : ElL []) : Option (List (El t82)) := ordBy (fun x : El t82 => (show Int from x.1)) xs
noncomputable def r30k (_ : Nat) : Con := ⟨30, [], [], fun _ => none, false, some ⟨t82, 31, [], r30⟩⟩
set_option maxHeartbeats 1000000 in
theorem closure31 (x y : El t82) (W : World) : Calls Try.prog 31 #[.agg ⟨cellsT t82 x⟩, .agg ⟨cellsT t82 y⟩] W fun e w' => e = .returned (.int .i64 (Lib.compareInt x.1 y.1)) ∧ ∃ q os', w' = Go.Sort.grow (W.drewN q) os' := by
  have hcon := fun W' => AnyG.cmp_Compare_int Try.cmpInt x.1 y.1 W'
  change ∀ W', Calls Try.prog 32 _ _ _ at hcon
  show Calls Try.prog 31 #[.agg #[.int .i64 x.1, .int .i64 x.2.1, .int .u8 x.2.2.1], .agg #[.int .i64 y.1, .int .i64 y.2.1, .int .u8 y.2.2.1]] W _
  generalize Lib.compareInt x.1 y.1 = r at hcon ⊢
  go_enter Try.func31, Try.ntmps31
  go_wp2_with (go_at_call 32; refine (hcon _).mono ?_; rintro e w' ⟨rfl, rfl⟩)
  go_ret
  exact ⟨rfl, 0, _, by rw [Go.Sort.alloc_eq_grow, Go.Sort.alloc_eq_grow, Go.Sort.grow_grow]; rfl⟩
theorem enters30 : Go.Abs.Enters Try.prog 30 := ⟨_, Try.func30, by kernel_rfl, by kernel_rfl⟩
theorem r30_ok (n : Nat) : SpecSim Try.prog noG 30 (Con.spec (r30k n)) := by
  refine sort_sim (r := ⟨t82, 31, [], r30⟩) enters30 rfl (fun p cap fv w => AnyF.slices_SortFunc_none Try.sortP p cap fv w) fun w blk off cap cs xs zs ys hne hF hl hblk hH hcap => ?_
  obtain rfl := (show cs = [] from hcap)
  obtain ⟨h1, h2, rfl⟩ := ordBy_eq (show ordBy (fun x : El t82 => (show Int from x.1)) xs = some zs from hF)
  exact rowsK_calls Try.sortP (t := t82) (k := 3) rfl Try.isAgg82 Try.sizeOf82 rfl (fun x : El t82 => (show Int from x.1)) 31 #[] blk off cap xs w (enters_of Try.func31 (by kernel_rfl) rfl) hne h1 h2
    (fun m os l _ x _ y _ => closure31 x y _) hH hblk
end L
end Go.Proofs.Ytlhagmgfffigfaa
