/-
  No cell of these rows narrows 'for every input' (looked for: loops, veiled, ifaces, maps, wideKeys, modest, calm, conditions, laid).
  DERIVED. THE GIVEN ROWS OF THIS SEAT. 3 by the template 'for every input the law returns true; each argument reads behind the call as it read before'; 0 by the template 'total and deterministic' (their statements: YtlhagmgfffigfaaTotals.lean).
  GIVEN WITH THE SEED: the statements are not yours to turn. If you find one false, say at which input.
  Laid BY PROGRAM, IN A SANDBOX (cutbox-rows.mjs): the forced cells as the released guide's own fill.sh prints them over the translation c8b5a0a3cdc5a51a… (all of the seat's roots in one cut). By AI agents, Wed Nov 11 2026. No macro, syntax, notation, axiom, sorry.
-/
import Derived.Test.YtlhagmgfffigfaaChecked
import GoSem.Claim
import GoSem.ClaimJoined
import GoSem.ClaimMapViews
import Derived.JoinedTies
import Derived.KernelRfl
namespace Go.Proofs.Ytlhagmgfffigfaa
/- THE CELL 'sum', in the pinned program and in every row, IS THE sha256 OF THE DUMP (.gsa) THAT YtlhagmgfffigfaaProg.lean LOADS. Nothing in Lean hashes anything: it is a label: what it is worth is what the hold of that sum in a sandbox is worth. -/
noncomputable def Try.pinned : Pinned := { name := "ytlhagmgfffigfaa", sum := "c8b5a0a3cdc5a51ac079674122747446eb6747b03a3346386da5da1b05f527c8", checked := Try.checked }
namespace Rows
def none {H : Type} : Left H := { results := [], args := [] }

/-- 'braidlaw30.ScriptAnswers': WHATEVER THE INPUT: true; the input reads as it did. -/
def scriptAnswersSpec : ChangeSpec := { name := "scriptAnswers", fn := fun _ => fun
  | [d] => { results := [.lit (.bool true)], args := [d] }
  | _ => none }
def scriptAnswersRow : OpenClaim := { program := "ytlhagmgfffigfaa", sum := "c8b5a0a3cdc5a51ac079674122747446eb6747b03a3346386da5da1b05f527c8", func := "braid/braidlaw30.ScriptAnswers", spec := "scriptAnswers", plainKeys := false, apart := false }
def ScriptAnswersSaid : Prop := scriptAnswersRow.holds Try.pinned (OpenSpec.ofChange scriptAnswersSpec)

/-- ITS FALSE NEIGHBOUR: 'it returns false'. Refute it at one input. -/
def scriptAnswersWrong : ChangeSpec := { name := "scriptAnswers", fn := fun _ => fun
  | [d] => { results := [.lit (.bool false)], args := [d] }
  | _ => none }
def ScriptAnswersWrongFalsely : Prop := scriptAnswersRow.holds Try.pinned (OpenSpec.ofChange scriptAnswersWrong)

/-- 'braidlaw31.HistoryReads': WHATEVER THE INPUT: true; the input reads as it did. -/
def historyReadsSpec : ChangeSpec := { name := "historyReads", fn := fun _ => fun
  | [d1, d2, d3] => { results := [.lit (.bool true)], args := [d1, d2, d3] }
  | _ => none }
def historyReadsRow : OpenClaim := { program := "ytlhagmgfffigfaa", sum := "c8b5a0a3cdc5a51ac079674122747446eb6747b03a3346386da5da1b05f527c8", func := "braid/braidlaw31.HistoryReads", spec := "historyReads", unfollowed := true, recurses := true, plainKeys := false, apart := false }
def HistoryReadsSaid : Prop := historyReadsRow.holds Try.pinned (OpenSpec.ofChange historyReadsSpec)

/-- ITS FALSE NEIGHBOUR: 'it returns false'. Refute it at one input. -/
def historyReadsWrong : ChangeSpec := { name := "historyReads", fn := fun _ => fun
  | [d1, d2, d3] => { results := [.lit (.bool false)], args := [d1, d2, d3] }
  | _ => none }
def HistoryReadsWrongFalsely : Prop := historyReadsRow.holds Try.pinned (OpenSpec.ofChange historyReadsWrong)

/-- 'braidlaw33.LinearOrders': WHATEVER THE INPUT: true; the input reads as it did. -/
def linearOrdersSpec : ChangeSpec := { name := "linearOrders", fn := fun _ => fun
  | [d1, d2] => { results := [.lit (.bool true)], args := [d1, d2] }
  | _ => none }
def linearOrdersRow : OpenClaim := { program := "ytlhagmgfffigfaa", sum := "c8b5a0a3cdc5a51ac079674122747446eb6747b03a3346386da5da1b05f527c8", func := "braid/braidlaw33.LinearOrders", spec := "linearOrders", unfollowed := true, recurses := true, plainKeys := false, apart := false }
def LinearOrdersSaid : Prop := linearOrdersRow.holds Try.pinned (OpenSpec.ofChange linearOrdersSpec)

/-- ITS FALSE NEIGHBOUR: 'it returns false'. Refute it at one input. -/
def linearOrdersWrong : ChangeSpec := { name := "linearOrders", fn := fun _ => fun
  | [d1, d2] => { results := [.lit (.bool false)], args := [d1, d2] }
  | _ => none }
def LinearOrdersWrongFalsely : Prop := linearOrdersRow.holds Try.pinned (OpenSpec.ofChange linearOrdersWrong)

/- THE SECOND FORM. 'bulk': how many values and letters a reading holds, each counted each time it is reached (what is shared counts as often as it is met; a slice's spare places count too). A statement '..UptoSaid' is the law's where the arguments, and the package variables that the reading takes, are together of bulk at most 1048576: NARROWER than '..Said'. Prove '..Said' where nothing that the law and all that it calls make is longer than what came in: it says more and counts as full. Else prove '..UptoSaid'. A law counts once. -/
mutual
def uptoBulk {H : Type} : DataW H → Nat
  | .lit (.string bytes) => bytes.length + 1
  | .lit _ => 1
  | .nil => 1
  | .ptr d => uptoBulk d + 1
  | .slice elems spare => uptoBulkAll elems + uptoBulkAll spare + 1
  | .agg parts => uptoBulkAll parts + 1
  | .iface _ d => uptoBulk d + 1
  | .map entries => uptoBulkEntries entries + 1
  | .held _ => 1
def uptoBulkAll {H : Type} : List (DataW H) → Nat
  | [] => 0
  | d :: r => uptoBulk d + uptoBulkAll r
def uptoBulkEntries {H : Type} : List (Lit × DataW H) → Nat
  | [] => 0
  | x :: r => uptoBulkEntry x + uptoBulkEntries r
def uptoBulkEntry {H : Type} : Lit × DataW H → Nat
  | (.string bytes, d) => bytes.length + uptoBulk d + 1
  | (_, d) => uptoBulk d + 1
 end
def uptoSmall : (H : Type) → List (DataW H) → Bool := fun _ ds => decide (uptoBulkAll ds ≤ 1048576)
def OpenSpec.upto (s : _root_.Go.ChangeSpec) : _root_.Go.OpenSpec := { _root_.Go.OpenSpec.ofChange s with cond := some uptoSmall }

/-- 'braidlaw30.ScriptAnswers', WHERE WHAT IT READS IS OF BULK AT MOST 1048576: true; the input reads as it did. -/
def scriptAnswersUptoRow : OpenClaim := { program := "ytlhagmgfffigfaa", sum := "c8b5a0a3cdc5a51ac079674122747446eb6747b03a3346386da5da1b05f527c8", func := "braid/braidlaw30.ScriptAnswers", spec := "scriptAnswers", plainKeys := false, apart := false, narrowed := true }
def ScriptAnswersUptoSaid : Prop := scriptAnswersUptoRow.holds Try.pinned (OpenSpec.upto scriptAnswersSpec)

/-- 'braidlaw31.HistoryReads', WHERE WHAT IT READS IS OF BULK AT MOST 1048576: true; the input reads as it did. -/
def historyReadsUptoRow : OpenClaim := { program := "ytlhagmgfffigfaa", sum := "c8b5a0a3cdc5a51ac079674122747446eb6747b03a3346386da5da1b05f527c8", func := "braid/braidlaw31.HistoryReads", spec := "historyReads", unfollowed := true, recurses := true, plainKeys := false, apart := false, narrowed := true }
def HistoryReadsUptoSaid : Prop := historyReadsUptoRow.holds Try.pinned (OpenSpec.upto historyReadsSpec)

/-- 'braidlaw33.LinearOrders', WHERE WHAT IT READS IS OF BULK AT MOST 1048576: true; the input reads as it did. -/
def linearOrdersUptoRow : OpenClaim := { program := "ytlhagmgfffigfaa", sum := "c8b5a0a3cdc5a51ac079674122747446eb6747b03a3346386da5da1b05f527c8", func := "braid/braidlaw33.LinearOrders", spec := "linearOrders", unfollowed := true, recurses := true, plainKeys := false, apart := false, narrowed := true }
def LinearOrdersUptoSaid : Prop := linearOrdersUptoRow.holds Try.pinned (OpenSpec.upto linearOrdersSpec)

end Rows
end Go.Proofs.Ytlhagmgfffigfaa
