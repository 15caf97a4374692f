/-
  DERIVED. GIVEN WITH THE SEED: THE CARDS: each row of YtdhhhlgafdgheaaGreatDoorRows.lean that lists a variable, with what it lists TIED to the program's text (the seventh form; the later family's looks); each row that meets fmt, with fmt's text TOLD by the authors' own Lean function (tested against real Go, not proved from fmt's source: count such statements apart). THE CARD IS WHAT COUNTS. Prove the row's statement (the work); the ties are given (YtdhhhlgafdgheaaGreatDoorTie.lean); close each card by the builder's one call (the guide's Derived/Test/ToyasCard.lean, 'card_holds'). Laid BY PROGRAM, IN A SANDBOX (cutbox-door.mjs). By AI agents, Wed Nov 11 2026. No macro, syntax, notation, axiom, sorry.
-/
import Derived.Test.YtdhhhlgafdgheaaGreatDoorRows
import GoSem.ClaimSeven
namespace Go.Proofs.YtdhhhlgafdgheaaGreatDoor
namespace Rows

/-- THE TIED CARD OF 'braidlaw30.ScriptNames'. -/
def scriptNamesCard : Claim7 := { stood := { row := scriptNamesRow, standIns := [], harness := (true, "d02e3b0cb7a9ece21798eb0389827887029c9c1cf403779e0242174422fcb31d"), looks := true }, kinds := [], alts := [], laidByText := true, laidKinds := [.data, .data], laidTests := true, laidLooks := .later }
def ScriptNamesCardSaid : Prop := Claim7.holds Tryz.pinned (.plain (OpenSpec.ofChange scriptNamesSpec)) scriptNamesCard

/-- THE TIED CARD OF 'braidlaw31.HistoryNames'. -/
def historyNamesCard : Claim7 := { stood := { row := historyNamesRow, standIns := [], harness := (true, "d02e3b0cb7a9ece21798eb0389827887029c9c1cf403779e0242174422fcb31d"), looks := true }, kinds := [], alts := [], laidByText := true, laidKinds := [.data, .data], laidTests := true, laidLooks := .later }
def HistoryNamesCardSaid : Prop := Claim7.holds Tryz.pinned (.plain (OpenSpec.ofChange historyNamesSpec)) historyNamesCard

/-- THE TIED CARD OF 'braidlaw34.SafeNames'. -/
def safeNamesCard : Claim7 := { stood := { row := safeNamesRow, standIns := [], harness := (true, "d02e3b0cb7a9ece21798eb0389827887029c9c1cf403779e0242174422fcb31d"), looks := true }, kinds := [], alts := [], laidByText := true, laidKinds := [.data, .data], laidTests := true, laidLooks := .later }
def SafeNamesCardSaid : Prop := Claim7.holds Tryz.pinned (.plain (OpenSpec.ofChange safeNamesSpec)) safeNamesCard

/-- THE SECOND FORM's CARD OF 'braidlaw30.ScriptNames'. -/
def scriptNamesUptoCard : Claim7 := { stood := { row := scriptNamesUptoRow, standIns := [], harness := (true, "d02e3b0cb7a9ece21798eb0389827887029c9c1cf403779e0242174422fcb31d"), looks := true }, kinds := [], alts := [], laidByText := true, laidKinds := [.data, .data], laidTests := true, laidLooks := .later }
def ScriptNamesUptoCardSaid : Prop := Claim7.holds Tryz.pinned (.plain (OpenSpec.upto scriptNamesSpec)) scriptNamesUptoCard

/-- THE SECOND FORM's CARD OF 'braidlaw31.HistoryNames'. -/
def historyNamesUptoCard : Claim7 := { stood := { row := historyNamesUptoRow, standIns := [], harness := (true, "d02e3b0cb7a9ece21798eb0389827887029c9c1cf403779e0242174422fcb31d"), looks := true }, kinds := [], alts := [], laidByText := true, laidKinds := [.data, .data], laidTests := true, laidLooks := .later }
def HistoryNamesUptoCardSaid : Prop := Claim7.holds Tryz.pinned (.plain (OpenSpec.upto historyNamesSpec)) historyNamesUptoCard

/-- THE SECOND FORM's CARD OF 'braidlaw34.SafeNames'. -/
def safeNamesUptoCard : Claim7 := { stood := { row := safeNamesUptoRow, standIns := [], harness := (true, "d02e3b0cb7a9ece21798eb0389827887029c9c1cf403779e0242174422fcb31d"), looks := true }, kinds := [], alts := [], laidByText := true, laidKinds := [.data, .data], laidTests := true, laidLooks := .later }
def SafeNamesUptoCardSaid : Prop := Claim7.holds Tryz.pinned (.plain (OpenSpec.upto safeNamesSpec)) safeNamesUptoCard
end Rows
end Go.Proofs.YtdhhhlgafdgheaaGreatDoor
