/-
  DERIVED. GIVEN WITH THE SEED: THE CARDS: each row of YtggkbakjmejojaaGreatDoorRows.lean that lists a variable, with what it lists TIED to the program's text (the seventh form; the later family's looks); each row that meets fmt, with fmt's text TOLD by the authors' own Lean function (tested against real Go, not proved from fmt's source: count such statements apart). THE CARD IS WHAT COUNTS. Prove the row's statement (the work); the ties are given (YtggkbakjmejojaaGreatDoorTie.lean); close each card by the builder's one call (the guide's Derived/Test/ToyasCard.lean, 'card_holds'). Laid BY PROGRAM, IN A SANDBOX (cutbox-door.mjs). By AI agents, Wed Nov 11 2026. No macro, syntax, notation, axiom, sorry.
-/
import Derived.Test.YtggkbakjmejojaaGreatDoorRows
import GoSem.ClaimSeven
namespace Go.Proofs.YtggkbakjmejojaaGreatDoor
namespace Rows

/-- THE TIED CARD OF 'braidlaw35.FairNames'. -/
def fairNamesCard : Claim7 := { stood := { row := fairNamesRow, standIns := [], harness := (true, "876fa7a017bb3117a6a52889d5d512601a2938f3243772c3fdbbf9c2723ac09c"), looks := true }, kinds := [], alts := [], laidByText := true, laidKinds := [.data, .data], laidTests := true, laidLooks := .later }
def FairNamesCardSaid : Prop := Claim7.holds Tryz.pinned (.plain (OpenSpec.ofChange fairNamesSpec)) fairNamesCard

/-- THE TIED CARD OF 'braidlaw43.ShrinkNames'. -/
def shrinkNamesCard : Claim7 := { stood := { row := shrinkNamesRow, standIns := [], harness := (true, "876fa7a017bb3117a6a52889d5d512601a2938f3243772c3fdbbf9c2723ac09c"), looks := true }, kinds := [], alts := [], laidByText := true, laidKinds := [.data, .data], laidTests := true, laidLooks := .later }
def ShrinkNamesCardSaid : Prop := Claim7.holds Tryz.pinned (.plain (OpenSpec.ofChange shrinkNamesSpec)) shrinkNamesCard

/-- THE SECOND FORM's CARD OF 'braidlaw35.FairNames'. -/
def fairNamesUptoCard : Claim7 := { stood := { row := fairNamesUptoRow, standIns := [], harness := (true, "876fa7a017bb3117a6a52889d5d512601a2938f3243772c3fdbbf9c2723ac09c"), looks := true }, kinds := [], alts := [], laidByText := true, laidKinds := [.data, .data], laidTests := true, laidLooks := .later }
def FairNamesUptoCardSaid : Prop := Claim7.holds Tryz.pinned (.plain (OpenSpec.upto fairNamesSpec)) fairNamesUptoCard

/-- THE SECOND FORM's CARD OF 'braidlaw43.ShrinkNames'. -/
def shrinkNamesUptoCard : Claim7 := { stood := { row := shrinkNamesUptoRow, standIns := [], harness := (true, "876fa7a017bb3117a6a52889d5d512601a2938f3243772c3fdbbf9c2723ac09c"), looks := true }, kinds := [], alts := [], laidByText := true, laidKinds := [.data, .data], laidTests := true, laidLooks := .later }
def ShrinkNamesUptoCardSaid : Prop := Claim7.holds Tryz.pinned (.plain (OpenSpec.upto shrinkNamesSpec)) shrinkNamesUptoCard
end Rows
end Go.Proofs.YtggkbakjmejojaaGreatDoor
