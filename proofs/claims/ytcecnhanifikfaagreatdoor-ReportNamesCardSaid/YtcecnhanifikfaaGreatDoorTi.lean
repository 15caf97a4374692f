/- The tie of what the row lists to the program's text: the list, and the words of the translation. Conditions: none. -/
import Derived.Test.YtcecnhanifikfaaGreatDoorRows
import Derived.LaidByTextLater
import Derived.SevenTiedAt
import Derived.LaidOnce
namespace Go.Proofs.YtcecnhanifikfaaGreatDoor
open Go
namespace Ti
def tl : List (String × DataW Unit) := [("internal/strconv.uint64pow10", Rows.laid_internal_strconv_uint64pow10), ("math/bits.deBruijn32tab", Rows.laid_math_bits_deBruijn32tab), ("math/bits.deBruijn64tab", Rows.laid_math_bits_deBruijn64tab), ("strconv.ErrSyntax", Rows.laid_strconv_ErrSyntax), ("strconv.ErrRange", Rows.laid_strconv_ErrRange), ("unicode/utf8.acceptRanges", Rows.laid_unicode_utf8_acceptRanges), ("braid/digest.constants", Rows.laid_braid_digest_constants), ("braid/quota.rows", Rows.laid_braid_quota_rows)]
theorem t1 : Tryz.prog.worded (varsWordLater true) = true := by kernel_rfl
theorem t2 : Tryz.prog.worded (varsWordLater !true) = false := by kernel_rfl
theorem t3 : Tryz.prog.worded rootWordLater = true := by kernel_rfl
theorem t4 : tl.map (fun x => Tryz.prog.kindOfLater x.1) = [LaidKind.data, .data, .data, .sentinel, .sentinel, .data, .data, .data].map some := by kernel_rfl
theorem t5 : (Tryz.prog.funcNamed "gosem.cut.vars").isSome = true := by kernel_rfl
end Ti
end Go.Proofs.YtcecnhanifikfaaGreatDoor
