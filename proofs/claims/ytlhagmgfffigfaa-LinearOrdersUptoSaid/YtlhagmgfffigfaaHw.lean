/- HistoryReads, plainly: the twin of events is the events. Conditions: the events are not great. -/
import Derived.Test.YtlhagmgfffigfaaHr
import Derived.Test.YtlhagmgfffigfaaTy
set_option maxRecDepth 100000
namespace Go.Proofs.Ytlhagmgfffigfaa
open Go Go.Abs
namespace L
theorem rows_up {α : Type} : ∀ (l : List α) (o : Option (List α)), rowsO (l.foldl (fun s a => up s a) o) = rowsO o ++ l
  | [], o => (List.append_nil _).symm
  | a :: l, o => by
    rw [List.foldl_cons, rows_up l (up o a)]
    show (rowsO o ++ [a]) ++ l = _
    rw [List.append_assoc]; rfl
end L
end Go.Proofs.Ytlhagmgfffigfaa
