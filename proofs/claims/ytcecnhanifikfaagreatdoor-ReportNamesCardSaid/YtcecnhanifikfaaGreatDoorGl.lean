/- What the package's variables hold, as they are laid; the state at the start. Conditions: none. -/
import Derived.Test.YtcecnhanifikfaaGreatDoorTz
import Derived.Test.YtcecnhanifikfaaGreatDoorMachE
import Derived.Stop.LaidErr
set_option maxRecDepth 100000
namespace Go.Proofs.YtcecnhanifikfaaGreatDoor
open Go Go.Abs
noncomputable def xs0 : List (Nat × TypeId × DataW Unit) := [(0, 347, Rows.laid_internal_strconv_uint64pow10), (5, 30, Rows.laid_math_bits_deBruijn32tab), (6, 564, Rows.laid_math_bits_deBruijn64tab), (7, 358, Rows.laid_unicode_utf8_first), (8, 576, Rows.laid_unicode_utf8_acceptRanges), (9, 711, Rows.laid_braid_digest_constants), (4, 549, Rows.laid_braid_quota_rows)]
noncomputable def gd0 : List (Nat × List Value) := @Option.rec _ (fun _ => List (Nat × List Value)) [] (fun p => p.1) (layVars Tb.T 8 xs0 0)
theorem lay0 : layVars Tb.T 8 xs0 0 = some (gd0, []) := by kernel_rfl
noncomputable def gs0 : List (Nat × List Value) := (1, [.iface 561 unk]) :: (2, [.iface 561 unk]) :: (3, []) :: gd0
noncomputable def st0 : ASt := Go.Abs.start gs0 10 []
end Go.Proofs.YtcecnhanifikfaaGreatDoor
