/- QuotaRoom: words for its walk. -/
import Derived.Test.YtkadjjicakinbaaDoorAl
import Derived.Test.YtkadjjicakinbaaDoorSt
set_option maxRecDepth 100000
namespace Go.Proofs.YtkadjjicakinbaaDoor
open Go Go.Abs
noncomputable def agg5 (a b c d f : Int) : Value := .agg ⟨[.int .i64 a, .int .i64 b, .int .i64 c, .int .i64 d, .int .i64 f]⟩
noncomputable def row5 (a b c d f : Int) : List Value := [.int .i64 a, .int .i64 b, .int .i64 c, .int .i64 d, .int .i64 f]
theorem mono0 {f : FuncId} {s : SpecF} (h : SpecSim Tryd.prog noG f s) : SpecSim Tryd.prog Tb.glob f s := h.mono fun g hg => by cases hg
namespace Room
noncomputable def call : CallF := callL [(19, s19), (14, s14), (17, s17), (15, s15)]
theorem call_ok : CallSim Tryd.prog Tb.glob call ∧ MonoF call := callL_ok fun p hp => by
  simp only [List.mem_cons, List.not_mem_nil, or_false] at hp
  rcases hp with rfl | rfl | rfl | rfl
  · exact s19_sim
  · exact mono0 s14_sim
  · exact mono0 s17_sim
  · exact s15_sim
noncomputable def code : Code := codeOf Tryd.f5
noncomputable def vs (nn x : Int) : List Value := [.pointer (some ⟨1, 0, none⟩), .pointer (some ⟨2, 0, none⟩), .bool true, .int .i64 nn, .int .i64 x]
noncomputable def os (a b c d f g i j k l x : Int) : List AObj := [.cells (row5 a b c d f) none 1 false false, .cells (row5 g i (j + x) k l) none 2 false false]
noncomputable def so : List AObj := [tabRo 0 rowsC]
end Room
end Go.Proofs.YtkadjjicakinbaaDoor
