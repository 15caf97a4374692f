/-
  DERIVED. GIVEN WITH THE SEED: THE CARDS: each row of YtdmpneafeadbbaaGreatDoorRows.lean that lists a variable, with what it lists TIED to the program's text (the seventh form; the later family's looks); each row that meets fmt, with fmt's text TOLD by the authors' own Lean function (tested against real Go, not proved from fmt's source: count such statements apart). THE CARD IS WHAT COUNTS. Prove the row's statement (the work); the ties are given (YtdmpneafeadbbaaGreatDoorTie.lean); close each card by the builder's one call (the guide's Derived/Test/ToyasCard.lean, 'card_holds'). Laid BY PROGRAM, IN A SANDBOX (cutbox-door.mjs). By AI agents, Wed Nov 11 2026. No macro, syntax, notation, axiom, sorry.
-/
import Derived.Test.YtdmpneafeadbbaaGreatDoorRows
import GoSem.ClaimSeven
namespace Go.Proofs.YtdmpneafeadbbaaGreatDoor
namespace Rows

/-- THE TIED CARD OF 'braidlaw45.ReportValues'. -/
def reportValuesCard : Claim7 := { stood := { row := reportValuesRow, standIns := [], harness := (true, "b717632a5ddba733ba5b0cfd0dc538a9e9ea8e67ee20f09c60bd8c7082bd904c"), looks := true }, kinds := [], alts := [], laidByText := true, laidKinds := [.data, .data, .data, .sentinel, .sentinel], laidTests := true, laidLooks := .later }
def ReportValuesCardSaid : Prop := Claim7.holds Tryz.pinned (.plain (OpenSpec.ofChange reportValuesSpec)) reportValuesCard

/-- THE TIED CARD OF 'braidlaw45.ReportOne'. -/
def reportOneCard : Claim7 := { stood := { row := reportOneRow, standIns := [], harness := (true, "b717632a5ddba733ba5b0cfd0dc538a9e9ea8e67ee20f09c60bd8c7082bd904c"), looks := true }, kinds := [], alts := [], laidByText := true, laidKinds := [.data, .data, .data, .sentinel, .sentinel], laidTests := true, laidLooks := .later }
def ReportOneCardSaid : Prop := Claim7.holds Tryz.pinned (.plain (OpenSpec.ofChange reportOneSpec)) reportOneCard

/-- THE TIED CARD OF 'braidlaw45.ReportBack'. -/
def reportBackCard : Claim7 := { stood := { row := reportBackRow, standIns := [], harness := (true, "b717632a5ddba733ba5b0cfd0dc538a9e9ea8e67ee20f09c60bd8c7082bd904c"), looks := true }, kinds := [], alts := [], laidByText := true, laidKinds := [.data, .data, .data, .data, .sentinel, .sentinel, .pinned], laidTests := true, laidLooks := .later }
def ReportBackCardSaid : Prop := Claim7.holds Tryz.pinned (.plain (OpenSpec.ofChange reportBackSpec)) reportBackCard

/-- THE SECOND FORM's CARD OF 'braidlaw45.ReportValues'. -/
def reportValuesUptoCard : Claim7 := { stood := { row := reportValuesUptoRow, standIns := [], harness := (true, "b717632a5ddba733ba5b0cfd0dc538a9e9ea8e67ee20f09c60bd8c7082bd904c"), looks := true }, kinds := [], alts := [], laidByText := true, laidKinds := [.data, .data, .data, .sentinel, .sentinel], laidTests := true, laidLooks := .later }
def ReportValuesUptoCardSaid : Prop := Claim7.holds Tryz.pinned (.plain (OpenSpec.upto reportValuesSpec)) reportValuesUptoCard

/-- THE SECOND FORM's CARD OF 'braidlaw45.ReportOne'. -/
def reportOneUptoCard : Claim7 := { stood := { row := reportOneUptoRow, standIns := [], harness := (true, "b717632a5ddba733ba5b0cfd0dc538a9e9ea8e67ee20f09c60bd8c7082bd904c"), looks := true }, kinds := [], alts := [], laidByText := true, laidKinds := [.data, .data, .data, .sentinel, .sentinel], laidTests := true, laidLooks := .later }
def ReportOneUptoCardSaid : Prop := Claim7.holds Tryz.pinned (.plain (OpenSpec.upto reportOneSpec)) reportOneUptoCard

/-- THE SECOND FORM's CARD OF 'braidlaw45.ReportBack'. -/
def reportBackUptoCard : Claim7 := { stood := { row := reportBackUptoRow, standIns := [], harness := (true, "b717632a5ddba733ba5b0cfd0dc538a9e9ea8e67ee20f09c60bd8c7082bd904c"), looks := true }, kinds := [], alts := [], laidByText := true, laidKinds := [.data, .data, .data, .data, .sentinel, .sentinel, .pinned], laidTests := true, laidLooks := .later }
def ReportBackUptoCardSaid : Prop := Claim7.holds Tryz.pinned (.plain (OpenSpec.upto reportBackSpec)) reportBackUptoCard
end Rows
end Go.Proofs.YtdmpneafeadbbaaGreatDoor
