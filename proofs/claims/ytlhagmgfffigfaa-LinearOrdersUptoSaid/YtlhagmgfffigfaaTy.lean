/- The types of data that the laws reach. Printed by a program. Conditions: none. -/
import Derived.Test.YtlhagmgfffigfaaTab
namespace Go.Proofs.Ytlhagmgfffigfaa
open Go Go.Abs
theorem mix : Try.prog.follows .mixedOrders = true := by kernel_rfl
namespace L
def t3 : Ty := .int .i64
def t4 : Ty := .bool
def t5 : Ty := .int .u8
def t58 : Ty := .arr 32 t5
def t2 : Ty := .int .i64
def t59 : Ty := .int .u64
def t9 : Ty := .str
def t61 : Ty := .pair t5 (.pair t2 (.pair t59 (.pair t9 (.unit))))
def t62 : Ty := .slice t58
def t64 : Ty := .pair t5 (.pair t58 (.pair t3 (.pair t4 (.pair t61 (.pair t62 (.pair t3 (.unit)))))))
def t66 : Ty := .pair t4 (.pair t3 (.pair t64 (.unit)))
def t74 : Ty := .slice t5
def t67 : Ty := .slice t74
def t69 : Ty := .pair t5 (.pair t59 (.pair t62 (.pair t67 (.unit))))
def t25 : Ty := .int .i64
def t71 : Ty := .pair t3 (.pair t66 (.pair t69 (.pair t5 (.pair t58 (.pair t25 (.unit))))))
def t22 : Ty := .slice t71
def t76 : Ty := .pair t5 (.pair t9 (.pair t61 (.unit)))
def t78 : Ty := .pair t5 (.pair t74 (.pair t76 (.pair t59 (.pair t9 (.unit)))))
def t80 : Ty := .pair t5 (.pair t3 (.pair t78 (.pair t74 (.pair t3 (.pair t3 (.pair t3 (.pair t3 (.pair t3 (.pair t3 (.pair t3 (.pair t64 (.unit))))))))))))
def t33 : Ty := .slice t80
def t82 : Ty := .pair t3 (.pair t3 (.pair t5 (.unit)))
def t36 : Ty := .slice t82
def t23 : Ty := .slice t3
def t24 : Ty := .slice t64
def t96 : Ty := .int .u64
def t104 : Ty := .int .i64
def t112 : Ty := .int .u32
end L
end Go.Proofs.Ytlhagmgfffigfaa
