/-
  DERIVED. GIVEN WITH THE SEED: THE CARDS: each row of YthojindafbcocaaGreatDoorRows.lean that lists a variable, with what it lists TIED to the program's text (the seventh form; the later family's looks); each row that meets fmt, with fmt's text TOLD by the authors' own Lean function (tested against real Go, not proved from fmt's source: count such statements apart). THE CARD IS WHAT COUNTS. Prove the row's statement (the work); the ties are given (YthojindafbcocaaGreatDoorTie.lean); close each card by the builder's one call (the guide's Derived/Test/ToyasCard.lean, 'card_holds'). Laid BY PROGRAM, IN A SANDBOX (cutbox-door.mjs). By AI agents, Wed Nov 11 2026. No macro, syntax, notation, axiom, sorry.
-/
import Derived.Test.YthojindafbcocaaGreatDoorRows
import GoSem.ClaimSeven
namespace Go.Proofs.YthojindafbcocaaGreatDoor
namespace Rows

/-- THE TIED CARD OF 'braidlaw33.LinearNames'. -/
def linearNamesCard : Claim7 := { stood := { row := linearNamesRow, standIns := [], harness := (true, "8fc05929e142f1fcdcc659007d9167a0485878de83b2a7094034a5c78429f947"), looks := true }, kinds := [], alts := [], laidByText := true, laidKinds := [.data, .data], laidTests := true, laidLooks := .later }
def LinearNamesCardSaid : Prop := Claim7.holds Tryz.pinned (.plain (OpenSpec.ofChange linearNamesSpec)) linearNamesCard

/-- THE SECOND FORM's CARD OF 'braidlaw33.LinearNames'. -/
def linearNamesUptoCard : Claim7 := { stood := { row := linearNamesUptoRow, standIns := [], harness := (true, "8fc05929e142f1fcdcc659007d9167a0485878de83b2a7094034a5c78429f947"), looks := true }, kinds := [], alts := [], laidByText := true, laidKinds := [.data, .data], laidTests := true, laidLooks := .later }
def LinearNamesUptoCardSaid : Prop := Claim7.holds Tryz.pinned (.plain (OpenSpec.upto linearNamesSpec)) linearNamesUptoCard
end Rows
end Go.Proofs.YthojindafbcocaaGreatDoor
