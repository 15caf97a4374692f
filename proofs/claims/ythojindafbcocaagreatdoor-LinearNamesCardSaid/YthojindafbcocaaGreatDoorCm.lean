/- bytes.Compare answers the order of its arguments' bytes. Conditions: none beyond those stated. -/
import Derived.Test.YthojindafbcocaaGreatDoorGl
import Derived.Test.YthojindafbcocaaGreatDoorMachH
import Derived.ProofKit
set_option maxRecDepth 100000
namespace Go.Proofs.YthojindafbcocaaGreatDoor
open Go Go.Abs Go.RowKit
set_option maxHeartbeats 4000000 in
theorem bytes_Compare (w : World) (a' b' : Value) (la lb : List UInt8) (ha : (Extern.Bytes.bytesOf a').run Tryz.prog w = .ok ⟨⟨la⟩⟩ w) (hb : (Extern.Bytes.bytesOf b').run Tryz.prog w = .ok ⟨⟨lb⟩⟩ w) :
    Calls Tryz.prog 106 #[a', b'] w fun e w' => e = .returned (.int .i64 (Lib.compareBytes la lb)) ∧ w' = w := by
  have mixed := mix
  have hrun : (Extern.BytealgCompare.compare #[a', b']).run Tryz.prog w = .ok (.int .i64 (Lib.compareBytes la lb)) w := by
    change Sem.run Tryz.prog (do pure (goInt (Extern.BytealgCompare.cmp (← Extern.Bytes.bytesOf a') (← Extern.Bytes.bytesOf b')))) w = _
    simp only [Sem.run_bind, ha, hb, Result.andThen, Sem.run_pure]
    rw [Lib.cmp_eq]
    rfl
  go_enter Tryz.func106, Tryz.ntmps106
  go_wp2
  rw [run_callFunc_extern Tryz.func173 (by kernel_rfl) (by kernel_rfl) (by kernel_rfl) (e := Extern.BytealgCompare.compare) (by kernel_rfl), hrun]
  simp only [Result.andThen]
  rw [Oper.upon_value]
  go_wp2
  go_ret
  exact ⟨rfl, rfl⟩
theorem enters106 : Enters Tryz.prog 106 := ⟨Tryz.f106, Tryz.func106, by kernel_rfl, by kernel_rfl⟩
theorem cmp_sim : SpecSim Tryz.prog Tb.glob 106 cmpF := cmp_spec enters106 bytes_Compare
/-- what is taken by a contract -/
noncomputable def cm : CallF := callL [(106, cmpF)]
theorem cm_ok : CallSim Tryz.prog Tb.glob cm ∧ MonoF cm := callL_ok fun p hp => by
  rcases List.mem_cons.1 hp with rfl | hp
  · exact cmp_sim
  · cases hp
end Go.Proofs.YthojindafbcocaaGreatDoor
