/- alive answers true, wherever the table of moves is as it was laid. -/
import Derived.Test.YtkadjjicakinbaaDoorSp
set_option maxRecDepth 100000
namespace Go.Proofs.YtkadjjicakinbaaDoor
open Go Go.Abs
theorem alive_ran : (andThen2 (callN Tb.T 200 40 19 [] (tabS tabs0 1)) fun v _ => asB v) = some true := by kernel_rfl
noncomputable def s19 : SpecF := fun args σ => andThen (gNil args) fun _ => iff (hasTabs tabs0 σ) (some (.bool true, σ)) none
theorem s19_sim : SpecSim Tryd.prog Tb.glob 19 s19 :=
  spec_ran Tb.glob tabs0 1 Tb.tys Tb.fns (by kernel_rfl) (by kernel_rfl) tabs0_mem (.bare rfl) (some_of_asB alive_ran)
end Go.Proofs.YtkadjjicakinbaaDoor
