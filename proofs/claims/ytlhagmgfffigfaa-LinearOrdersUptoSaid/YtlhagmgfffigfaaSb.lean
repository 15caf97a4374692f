/- What is the same is told so: lists of ints, answers. Conditions: no list is longer than 1048576. -/
import Derived.Test.YtlhagmgfffigfaaTy
import Derived.Test.YtlhagmgfffigfaaMachG
set_option maxRecDepth 100000
namespace Go.Proofs.Ytlhagmgfffigfaa
open Go Go.Abs
namespace L
/-- what an answer adds -/
noncomputable def up {α : Type} (o : Option (List α)) (y : α) : Option (List α) := some (rowsO o ++ [y])
end L
end Go.Proofs.Ytlhagmgfffigfaa
