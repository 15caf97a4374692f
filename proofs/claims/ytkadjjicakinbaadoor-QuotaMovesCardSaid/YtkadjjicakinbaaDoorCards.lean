/-
  DERIVED. GIVEN WITH THE SEED: THE CARDS: each row of YtkadjjicakinbaaDoorRows.lean that lists a variable, with what it lists TIED to the program's text (the seventh form; the later family's looks); each row that meets fmt, with fmt's text TOLD by the authors' own Lean function (tested against real Go, not proved from fmt's source: count such statements apart). THE CARD IS WHAT COUNTS. Prove the row's statement (the work); the ties are given (YtkadjjicakinbaaDoorTie.lean); close each card by the builder's one call (the guide's Derived/Test/ToyasCard.lean, 'card_holds'). Laid BY PROGRAM, IN A SANDBOX (cutbox-door.mjs). By AI agents, Wed Nov 11 2026. No macro, syntax, notation, axiom, sorry.
-/
import Derived.Test.YtkadjjicakinbaaDoorRows
import GoSem.ClaimSeven
namespace Go.Proofs.YtkadjjicakinbaaDoor
namespace Rows

/-- THE TIED CARD OF 'braidlaw26.QuotaMoves'. -/
def quotaMovesCard : Claim7 := { stood := { row := quotaMovesRow, standIns := [], harness := (true, "40f5049f1ea0a7ee62dccd8dbaf80b8c2c6b605f4772fde1e2b6e032cb06f254"), looks := false }, kinds := [], alts := [], laidByText := true, laidKinds := [.data], laidTests := true, laidLooks := .later }
def QuotaMovesCardSaid : Prop := Claim7.holds Tryd.pinned (.plain (OpenSpec.ofChange quotaMovesSpec)) quotaMovesCard

/-- THE TIED CARD OF 'braidlaw26.QuotaWithin'. -/
def quotaWithinCard : Claim7 := { stood := { row := quotaWithinRow, standIns := [], harness := (true, "40f5049f1ea0a7ee62dccd8dbaf80b8c2c6b605f4772fde1e2b6e032cb06f254"), looks := false }, kinds := [], alts := [], laidByText := true, laidKinds := [.data], laidTests := true, laidLooks := .later }
def QuotaWithinCardSaid : Prop := Claim7.holds Tryd.pinned (.plain (OpenSpec.ofChange quotaWithinSpec)) quotaWithinCard

/-- THE TIED CARD OF 'braidlaw26.QuotaRoom'. -/
def quotaRoomCard : Claim7 := { stood := { row := quotaRoomRow, standIns := [], harness := (true, "40f5049f1ea0a7ee62dccd8dbaf80b8c2c6b605f4772fde1e2b6e032cb06f254"), looks := false }, kinds := [], alts := [], laidByText := true, laidKinds := [.data], laidTests := true, laidLooks := .later }
def QuotaRoomCardSaid : Prop := Claim7.holds Tryd.pinned (.plain (OpenSpec.ofChange quotaRoomSpec)) quotaRoomCard

/-- THE TIED CARD OF 'braidlaw26.QuotaBack'. -/
def quotaBackCard : Claim7 := { stood := { row := quotaBackRow, standIns := [], harness := (true, "40f5049f1ea0a7ee62dccd8dbaf80b8c2c6b605f4772fde1e2b6e032cb06f254"), looks := false }, kinds := [], alts := [], laidByText := true, laidKinds := [.data], laidTests := true, laidLooks := .later }
def QuotaBackCardSaid : Prop := Claim7.holds Tryd.pinned (.plain (OpenSpec.ofChange quotaBackSpec)) quotaBackCard

/-- THE TIED CARD OF 'braidlaw26.QuotaShares'. -/
def quotaSharesCard : Claim7 := { stood := { row := quotaSharesRow, standIns := [], harness := (true, "40f5049f1ea0a7ee62dccd8dbaf80b8c2c6b605f4772fde1e2b6e032cb06f254"), looks := false }, kinds := [], alts := [], laidByText := true, laidKinds := [.data], laidTests := true, laidLooks := .later }
def QuotaSharesCardSaid : Prop := Claim7.holds Tryd.pinned (.plain (OpenSpec.ofChange quotaSharesSpec)) quotaSharesCard

/-- THE TIED CARD OF 'braidlaw26.QuotaNames'. -/
def quotaNamesCard : Claim7 := { stood := { row := quotaNamesRow, standIns := [], harness := (true, "40f5049f1ea0a7ee62dccd8dbaf80b8c2c6b605f4772fde1e2b6e032cb06f254"), looks := false }, kinds := [], alts := [], laidByText := true, laidKinds := [.data], laidTests := true, laidLooks := .later }
def QuotaNamesCardSaid : Prop := Claim7.holds Tryd.pinned (.plain (OpenSpec.ofChange quotaNamesSpec)) quotaNamesCard

/-- THE SECOND FORM's CARD OF 'braidlaw26.QuotaMoves'. -/
def quotaMovesUptoCard : Claim7 := { stood := { row := quotaMovesUptoRow, standIns := [], harness := (true, "40f5049f1ea0a7ee62dccd8dbaf80b8c2c6b605f4772fde1e2b6e032cb06f254"), looks := false }, kinds := [], alts := [], laidByText := true, laidKinds := [.data], laidTests := true, laidLooks := .later }
def QuotaMovesUptoCardSaid : Prop := Claim7.holds Tryd.pinned (.plain (OpenSpec.upto quotaMovesSpec)) quotaMovesUptoCard

/-- THE SECOND FORM's CARD OF 'braidlaw26.QuotaWithin'. -/
def quotaWithinUptoCard : Claim7 := { stood := { row := quotaWithinUptoRow, standIns := [], harness := (true, "40f5049f1ea0a7ee62dccd8dbaf80b8c2c6b605f4772fde1e2b6e032cb06f254"), looks := false }, kinds := [], alts := [], laidByText := true, laidKinds := [.data], laidTests := true, laidLooks := .later }
def QuotaWithinUptoCardSaid : Prop := Claim7.holds Tryd.pinned (.plain (OpenSpec.upto quotaWithinSpec)) quotaWithinUptoCard

/-- THE SECOND FORM's CARD OF 'braidlaw26.QuotaRoom'. -/
def quotaRoomUptoCard : Claim7 := { stood := { row := quotaRoomUptoRow, standIns := [], harness := (true, "40f5049f1ea0a7ee62dccd8dbaf80b8c2c6b605f4772fde1e2b6e032cb06f254"), looks := false }, kinds := [], alts := [], laidByText := true, laidKinds := [.data], laidTests := true, laidLooks := .later }
def QuotaRoomUptoCardSaid : Prop := Claim7.holds Tryd.pinned (.plain (OpenSpec.upto quotaRoomSpec)) quotaRoomUptoCard

/-- THE SECOND FORM's CARD OF 'braidlaw26.QuotaBack'. -/
def quotaBackUptoCard : Claim7 := { stood := { row := quotaBackUptoRow, standIns := [], harness := (true, "40f5049f1ea0a7ee62dccd8dbaf80b8c2c6b605f4772fde1e2b6e032cb06f254"), looks := false }, kinds := [], alts := [], laidByText := true, laidKinds := [.data], laidTests := true, laidLooks := .later }
def QuotaBackUptoCardSaid : Prop := Claim7.holds Tryd.pinned (.plain (OpenSpec.upto quotaBackSpec)) quotaBackUptoCard

/-- THE SECOND FORM's CARD OF 'braidlaw26.QuotaShares'. -/
def quotaSharesUptoCard : Claim7 := { stood := { row := quotaSharesUptoRow, standIns := [], harness := (true, "40f5049f1ea0a7ee62dccd8dbaf80b8c2c6b605f4772fde1e2b6e032cb06f254"), looks := false }, kinds := [], alts := [], laidByText := true, laidKinds := [.data], laidTests := true, laidLooks := .later }
def QuotaSharesUptoCardSaid : Prop := Claim7.holds Tryd.pinned (.plain (OpenSpec.upto quotaSharesSpec)) quotaSharesUptoCard

/-- THE SECOND FORM's CARD OF 'braidlaw26.QuotaNames'. -/
def quotaNamesUptoCard : Claim7 := { stood := { row := quotaNamesUptoRow, standIns := [], harness := (true, "40f5049f1ea0a7ee62dccd8dbaf80b8c2c6b605f4772fde1e2b6e032cb06f254"), looks := false }, kinds := [], alts := [], laidByText := true, laidKinds := [.data], laidTests := true, laidLooks := .later }
def QuotaNamesUptoCardSaid : Prop := Claim7.holds Tryd.pinned (.plain (OpenSpec.upto quotaNamesSpec)) quotaNamesUptoCard
end Rows
end Go.Proofs.YtkadjjicakinbaaDoor
