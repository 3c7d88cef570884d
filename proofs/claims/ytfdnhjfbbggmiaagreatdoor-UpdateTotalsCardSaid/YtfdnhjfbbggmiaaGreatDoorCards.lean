/-
  DERIVED. GIVEN WITH THE SEED: THE CARDS: each row of YtfdnhjfbbggmiaaGreatDoorRows.lean that lists a variable, with what it lists TIED to the program's text (the seventh form; the later family's looks); each row that meets fmt, with fmt's text TOLD by the authors' own Lean function (tested against real Go, not proved from fmt's source: count such statements apart). THE CARD IS WHAT COUNTS. Prove the row's statement (the work); the ties are given (YtfdnhjfbbggmiaaGreatDoorTie.lean); close each card by the builder's one call (the guide's Derived/Test/ToyasCard.lean, 'card_holds'). Laid BY PROGRAM, IN A SANDBOX (cutbox-door.mjs). By AI agents, Wed Nov 11 2026. No macro, syntax, notation, axiom, sorry.
-/
import Derived.Test.YtfdnhjfbbggmiaaGreatDoorRows
import GoSem.ClaimSeven
namespace Go.Proofs.YtfdnhjfbbggmiaaGreatDoor
namespace Rows

/-- THE TIED CARD OF 'paymasterlaw24.UpdateBack'. -/
def updateBackCard : Claim7 := { stood := { row := updateBackRow, standIns := [], harness := (true, "03c663ea27567625c49d75b4a230a59b73f60f613a8da54bcb6c14881ca44392"), looks := false }, kinds := [], alts := [], laidByText := true, laidKinds := [.data, .data, .pinned], laidTests := true, laidLooks := .later }
def UpdateBackCardSaid : Prop := Claim7.holds Tryz.pinned (.plain (OpenSpec.ofChange updateBackSpec)) updateBackCard

/-- THE TIED CARD OF 'paymasterlaw24.UpdateTotals'. -/
def updateTotalsCard : Claim7 := { stood := { row := updateTotalsRow, standIns := [], harness := (true, "03c663ea27567625c49d75b4a230a59b73f60f613a8da54bcb6c14881ca44392"), looks := false }, kinds := [], alts := [], laidByText := true, laidKinds := [.data, .data, .pinned], laidTests := true, laidLooks := .later }
def UpdateTotalsCardSaid : Prop := Claim7.holds Tryz.pinned (.plain (OpenSpec.ofChange updateTotalsSpec)) updateTotalsCard

/-- THE TIED CARD OF 'paymasterlaw23.SnapshotLedger'. -/
def snapshotLedgerCard : Claim7 := { stood := { row := snapshotLedgerRow, standIns := [], harness := (true, "03c663ea27567625c49d75b4a230a59b73f60f613a8da54bcb6c14881ca44392"), looks := false }, kinds := [], alts := [], laidByText := true, laidKinds := [.data, .data, .pinned], laidTests := true, laidLooks := .later }
def SnapshotLedgerCardSaid : Prop := Claim7.holds Tryz.pinned (.plain (OpenSpec.ofChange snapshotLedgerSpec)) snapshotLedgerCard

/-- THE TIED CARD OF 'paymasterlaw23.SnapshotOrder'. -/
def snapshotOrderCard : Claim7 := { stood := { row := snapshotOrderRow, standIns := [], harness := (true, "03c663ea27567625c49d75b4a230a59b73f60f613a8da54bcb6c14881ca44392"), looks := false }, kinds := [], alts := [], laidByText := true, laidKinds := [.data, .data, .pinned], laidTests := true, laidLooks := .later }
def SnapshotOrderCardSaid : Prop := Claim7.holds Tryz.pinned (.plain (OpenSpec.ofChange snapshotOrderSpec)) snapshotOrderCard

/-- THE TIED CARD OF 'paymasterlaw23.SnapshotOther'. -/
def snapshotOtherCard : Claim7 := { stood := { row := snapshotOtherRow, standIns := [], harness := (true, "03c663ea27567625c49d75b4a230a59b73f60f613a8da54bcb6c14881ca44392"), looks := false }, kinds := [], alts := [], laidByText := true, laidKinds := [.data, .data, .pinned], laidTests := true, laidLooks := .later }
def SnapshotOtherCardSaid : Prop := Claim7.holds Tryz.pinned (.plain (OpenSpec.ofChange snapshotOtherSpec)) snapshotOtherCard

/-- THE TIED CARD OF 'paymasterlaw23.SnapshotTells'. -/
def snapshotTellsCard : Claim7 := { stood := { row := snapshotTellsRow, standIns := [], harness := (true, "03c663ea27567625c49d75b4a230a59b73f60f613a8da54bcb6c14881ca44392"), looks := false }, kinds := [], alts := [], laidByText := true, laidKinds := [.data, .data, .data, .pinned], laidTests := true, laidLooks := .later }
def SnapshotTellsCardSaid : Prop := Claim7.holds Tryz.pinned (.plain (OpenSpec.ofChange snapshotTellsSpec)) snapshotTellsCard

/-- THE TIED CARD OF 'paymasterlaw23.SnapshotRanges'. -/
def snapshotRangesCard : Claim7 := { stood := { row := snapshotRangesRow, standIns := [], harness := (true, "03c663ea27567625c49d75b4a230a59b73f60f613a8da54bcb6c14881ca44392"), looks := false }, kinds := [], alts := [], laidByText := true, laidKinds := [.data, .data, .data, .pinned], laidTests := true, laidLooks := .later }
def SnapshotRangesCardSaid : Prop := Claim7.holds Tryz.pinned (.plain (OpenSpec.ofChange snapshotRangesSpec)) snapshotRangesCard

/-- THE SECOND FORM's CARD OF 'paymasterlaw24.UpdateBack'. -/
def updateBackUptoCard : Claim7 := { stood := { row := updateBackUptoRow, standIns := [], harness := (true, "03c663ea27567625c49d75b4a230a59b73f60f613a8da54bcb6c14881ca44392"), looks := false }, kinds := [], alts := [], laidByText := true, laidKinds := [.data, .data, .pinned], laidTests := true, laidLooks := .later }
def UpdateBackUptoCardSaid : Prop := Claim7.holds Tryz.pinned (.plain (OpenSpec.upto updateBackSpec)) updateBackUptoCard

/-- THE SECOND FORM's CARD OF 'paymasterlaw24.UpdateTotals'. -/
def updateTotalsUptoCard : Claim7 := { stood := { row := updateTotalsUptoRow, standIns := [], harness := (true, "03c663ea27567625c49d75b4a230a59b73f60f613a8da54bcb6c14881ca44392"), looks := false }, kinds := [], alts := [], laidByText := true, laidKinds := [.data, .data, .pinned], laidTests := true, laidLooks := .later }
def UpdateTotalsUptoCardSaid : Prop := Claim7.holds Tryz.pinned (.plain (OpenSpec.upto updateTotalsSpec)) updateTotalsUptoCard

/-- THE SECOND FORM's CARD OF 'paymasterlaw23.SnapshotLedger'. -/
def snapshotLedgerUptoCard : Claim7 := { stood := { row := snapshotLedgerUptoRow, standIns := [], harness := (true, "03c663ea27567625c49d75b4a230a59b73f60f613a8da54bcb6c14881ca44392"), looks := false }, kinds := [], alts := [], laidByText := true, laidKinds := [.data, .data, .pinned], laidTests := true, laidLooks := .later }
def SnapshotLedgerUptoCardSaid : Prop := Claim7.holds Tryz.pinned (.plain (OpenSpec.upto snapshotLedgerSpec)) snapshotLedgerUptoCard

/-- THE SECOND FORM's CARD OF 'paymasterlaw23.SnapshotOrder'. -/
def snapshotOrderUptoCard : Claim7 := { stood := { row := snapshotOrderUptoRow, standIns := [], harness := (true, "03c663ea27567625c49d75b4a230a59b73f60f613a8da54bcb6c14881ca44392"), looks := false }, kinds := [], alts := [], laidByText := true, laidKinds := [.data, .data, .pinned], laidTests := true, laidLooks := .later }
def SnapshotOrderUptoCardSaid : Prop := Claim7.holds Tryz.pinned (.plain (OpenSpec.upto snapshotOrderSpec)) snapshotOrderUptoCard

/-- THE SECOND FORM's CARD OF 'paymasterlaw23.SnapshotOther'. -/
def snapshotOtherUptoCard : Claim7 := { stood := { row := snapshotOtherUptoRow, standIns := [], harness := (true, "03c663ea27567625c49d75b4a230a59b73f60f613a8da54bcb6c14881ca44392"), looks := false }, kinds := [], alts := [], laidByText := true, laidKinds := [.data, .data, .pinned], laidTests := true, laidLooks := .later }
def SnapshotOtherUptoCardSaid : Prop := Claim7.holds Tryz.pinned (.plain (OpenSpec.upto snapshotOtherSpec)) snapshotOtherUptoCard

/-- THE SECOND FORM's CARD OF 'paymasterlaw23.SnapshotTells'. -/
def snapshotTellsUptoCard : Claim7 := { stood := { row := snapshotTellsUptoRow, standIns := [], harness := (true, "03c663ea27567625c49d75b4a230a59b73f60f613a8da54bcb6c14881ca44392"), looks := false }, kinds := [], alts := [], laidByText := true, laidKinds := [.data, .data, .data, .pinned], laidTests := true, laidLooks := .later }
def SnapshotTellsUptoCardSaid : Prop := Claim7.holds Tryz.pinned (.plain (OpenSpec.upto snapshotTellsSpec)) snapshotTellsUptoCard

/-- THE SECOND FORM's CARD OF 'paymasterlaw23.SnapshotRanges'. -/
def snapshotRangesUptoCard : Claim7 := { stood := { row := snapshotRangesUptoRow, standIns := [], harness := (true, "03c663ea27567625c49d75b4a230a59b73f60f613a8da54bcb6c14881ca44392"), looks := false }, kinds := [], alts := [], laidByText := true, laidKinds := [.data, .data, .data, .pinned], laidTests := true, laidLooks := .later }
def SnapshotRangesUptoCardSaid : Prop := Claim7.holds Tryz.pinned (.plain (OpenSpec.upto snapshotRangesSpec)) snapshotRangesUptoCard
end Rows
end Go.Proofs.YtfdnhjfbbggmiaaGreatDoor
