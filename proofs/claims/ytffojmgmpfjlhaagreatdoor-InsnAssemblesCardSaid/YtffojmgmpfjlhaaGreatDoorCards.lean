/-
  DERIVED. GIVEN WITH THE SEED: THE CARDS: each row of YtffojmgmpfjlhaaGreatDoorRows.lean that lists a variable, with what it lists TIED to the program's text (the seventh form; the later family's looks); each row that meets fmt, with fmt's text TOLD by the authors' own Lean function (tested against real Go, not proved from fmt's source: count such statements apart). THE CARD IS WHAT COUNTS. Prove the row's statement (the work); the ties are given (YtffojmgmpfjlhaaGreatDoorTie.lean); close each card by the builder's one call (the guide's Derived/Test/ToyasCard.lean, 'card_holds'). Laid BY PROGRAM, IN A SANDBOX (cutbox-door.mjs). By AI agents, Wed Nov 11 2026. No macro, syntax, notation, axiom, sorry.
-/
import Derived.Test.YtffojmgmpfjlhaaGreatDoorRows
import GoSem.ClaimSeven
namespace Go.Proofs.YtffojmgmpfjlhaaGreatDoor
namespace Rows

/-- THE TIED CARD OF 'taplinelaw02.InsnEncodes'. -/
def insnEncodesCard : Claim7 := { stood := { row := insnEncodesRow, standIns := [], harness := (true, "80711ac449649a074bc558eb23188a5f300da04a61053c1048030e6933e8af92"), looks := true }, kinds := [], alts := [], laidByText := true, laidKinds := [.data, .data, .data, .data, .sentinel, .sentinel, .data, .pinned], laidTests := true, laidLooks := .later }
def InsnEncodesCardSaid : Prop := Claim7.holds Tryz.pinned (.plain (OpenSpec.ofChange insnEncodesSpec)) insnEncodesCard

/-- THE TIED CARD OF 'taplinelaw02.InsnPrints'. -/
def insnPrintsCard : Claim7 := { stood := { row := insnPrintsRow, standIns := [], harness := (true, "80711ac449649a074bc558eb23188a5f300da04a61053c1048030e6933e8af92"), looks := true }, kinds := [], alts := [], laidByText := true, laidKinds := [.data, .data, .data, .data, .sentinel, .sentinel, .data, .pinned], laidTests := true, laidLooks := .later }
def InsnPrintsCardSaid : Prop := Claim7.holds Tryz.pinned (.plain (OpenSpec.ofChange insnPrintsSpec)) insnPrintsCard

/-- THE TIED CARD OF 'taplinelaw02.InsnAssembles'. -/
def insnAssemblesCard : Claim7 := { stood := { row := insnAssemblesRow, standIns := [], harness := (true, "80711ac449649a074bc558eb23188a5f300da04a61053c1048030e6933e8af92"), looks := true }, kinds := [], alts := [], laidByText := true, laidKinds := [.data, .data, .data, .data, .sentinel, .sentinel, .data, .pinned], laidTests := true, laidLooks := .later }
def InsnAssemblesCardSaid : Prop := Claim7.holds Tryz.pinned (.plain (OpenSpec.ofChange insnAssemblesSpec)) insnAssemblesCard

/-- THE TIED CARD OF 'taplinelaw02.InsnBack'. -/
def insnBackCard : Claim7 := { stood := { row := insnBackRow, standIns := [], harness := (true, "80711ac449649a074bc558eb23188a5f300da04a61053c1048030e6933e8af92"), looks := true }, kinds := [], alts := [], laidByText := true, laidKinds := [.data, .data, .data, .data, .sentinel, .sentinel, .data, .pinned], laidTests := true, laidLooks := .later }
def InsnBackCardSaid : Prop := Claim7.holds Tryz.pinned (.plain (OpenSpec.ofChange insnBackSpec)) insnBackCard

/-- THE TIED CARD OF 'taplinelaw02.InsnApart'. -/
def insnApartCard : Claim7 := { stood := { row := insnApartRow, standIns := [], harness := (true, "80711ac449649a074bc558eb23188a5f300da04a61053c1048030e6933e8af92"), looks := true }, kinds := [], alts := [], laidByText := true, laidKinds := [.data, .data, .data, .data, .sentinel, .sentinel, .data, .pinned], laidTests := true, laidLooks := .later }
def InsnApartCardSaid : Prop := Claim7.holds Tryz.pinned (.plain (OpenSpec.ofChange insnApartSpec)) insnApartCard

/-- THE TIED CARD OF 'taplinelaw02.InsnPatched'. -/
def insnPatchedCard : Claim7 := { stood := { row := insnPatchedRow, standIns := [], harness := (true, "80711ac449649a074bc558eb23188a5f300da04a61053c1048030e6933e8af92"), looks := true }, kinds := [], alts := [], laidByText := true, laidKinds := [.data, .data, .data, .data, .sentinel, .sentinel, .data, .pinned], laidTests := true, laidLooks := .later }
def InsnPatchedCardSaid : Prop := Claim7.holds Tryz.pinned (.plain (OpenSpec.ofChange insnPatchedSpec)) insnPatchedCard

/-- THE TIED CARD OF 'taplinelaw02.InsnLines'. -/
def insnLinesCard : Claim7 := { stood := { row := insnLinesRow, standIns := [], harness := (true, "80711ac449649a074bc558eb23188a5f300da04a61053c1048030e6933e8af92"), looks := true }, kinds := [], alts := [], laidByText := true, laidKinds := [.data, .data, .data, .data, .sentinel, .sentinel, .data, .pinned], laidTests := true, laidLooks := .later }
def InsnLinesCardSaid : Prop := Claim7.holds Tryz.pinned (.plain (OpenSpec.ofChange insnLinesSpec)) insnLinesCard

/-- THE TIED CARD OF 'taplinelaw02.InsnMoved'. -/
def insnMovedCard : Claim7 := { stood := { row := insnMovedRow, standIns := [], harness := (true, "80711ac449649a074bc558eb23188a5f300da04a61053c1048030e6933e8af92"), looks := true }, kinds := [], alts := [], laidByText := true, laidKinds := [.data, .data, .data, .data, .sentinel, .sentinel, .data, .pinned], laidTests := true, laidLooks := .later }
def InsnMovedCardSaid : Prop := Claim7.holds Tryz.pinned (.plain (OpenSpec.ofChange insnMovedSpec)) insnMovedCard

/-- THE TIED CARD OF 'taplinelaw02.InsnJoined'. -/
def insnJoinedCard : Claim7 := { stood := { row := insnJoinedRow, standIns := [], harness := (true, "80711ac449649a074bc558eb23188a5f300da04a61053c1048030e6933e8af92"), looks := true }, kinds := [], alts := [], laidByText := true, laidKinds := [.data, .data, .data, .data, .sentinel, .sentinel, .data, .pinned], laidTests := true, laidLooks := .later }
def InsnJoinedCardSaid : Prop := Claim7.holds Tryz.pinned (.plain (OpenSpec.ofChange insnJoinedSpec)) insnJoinedCard

/-- THE TIED CARD OF 'taplinelaw02.InsnSweeps'. -/
def insnSweepsCard : Claim7 := { stood := { row := insnSweepsRow, standIns := [], harness := (true, "80711ac449649a074bc558eb23188a5f300da04a61053c1048030e6933e8af92"), looks := true }, kinds := [], alts := [], laidByText := true, laidKinds := [.data, .data, .data, .data, .sentinel, .sentinel, .data, .pinned], laidTests := true, laidLooks := .later }
def InsnSweepsCardSaid : Prop := Claim7.holds Tryz.pinned (.plain (OpenSpec.ofChange insnSweepsSpec)) insnSweepsCard

/-- THE TIED CARD OF 'taplinelaw02.InsnLabels'. -/
def insnLabelsCard : Claim7 := { stood := { row := insnLabelsRow, standIns := [], harness := (true, "80711ac449649a074bc558eb23188a5f300da04a61053c1048030e6933e8af92"), looks := true }, kinds := [], alts := [], laidByText := true, laidKinds := [.data, .data, .data, .data, .sentinel, .sentinel, .data, .pinned], laidTests := true, laidLooks := .later }
def InsnLabelsCardSaid : Prop := Claim7.holds Tryz.pinned (.plain (OpenSpec.ofChange insnLabelsSpec)) insnLabelsCard

/-- THE TIED CARD OF 'taplinelaw02.InsnLists'. -/
def insnListsCard : Claim7 := { stood := { row := insnListsRow, standIns := [], harness := (true, "80711ac449649a074bc558eb23188a5f300da04a61053c1048030e6933e8af92"), looks := true }, kinds := [], alts := [], laidByText := true, laidKinds := [.data, .data, .data, .data, .sentinel, .sentinel, .data, .pinned], laidTests := true, laidLooks := .later }
def InsnListsCardSaid : Prop := Claim7.holds Tryz.pinned (.plain (OpenSpec.ofChange insnListsSpec)) insnListsCard

/-- THE TIED CARD OF 'taplinelaw02.InsnListings'. -/
def insnListingsCard : Claim7 := { stood := { row := insnListingsRow, standIns := [], harness := (true, "80711ac449649a074bc558eb23188a5f300da04a61053c1048030e6933e8af92"), looks := true }, kinds := [], alts := [], laidByText := true, laidKinds := [.data, .data, .data, .data, .sentinel, .sentinel, .data, .pinned], laidTests := true, laidLooks := .later }
def InsnListingsCardSaid : Prop := Claim7.holds Tryz.pinned (.plain (OpenSpec.ofChange insnListingsSpec)) insnListingsCard

/-- THE TIED CARD OF 'taplinelaw02.InsnChecks'. -/
def insnChecksCard : Claim7 := { stood := { row := insnChecksRow, standIns := [], harness := (true, "80711ac449649a074bc558eb23188a5f300da04a61053c1048030e6933e8af92"), looks := true }, kinds := [], alts := [], laidByText := true, laidKinds := [.data, .data, .data, .data, .sentinel, .sentinel, .data, .pinned], laidTests := true, laidLooks := .later }
def InsnChecksCardSaid : Prop := Claim7.holds Tryz.pinned (.plain (OpenSpec.ofChange insnChecksSpec)) insnChecksCard

/-- THE SECOND FORM's CARD OF 'taplinelaw02.InsnEncodes'. -/
def insnEncodesUptoCard : Claim7 := { stood := { row := insnEncodesUptoRow, standIns := [], harness := (true, "80711ac449649a074bc558eb23188a5f300da04a61053c1048030e6933e8af92"), looks := true }, kinds := [], alts := [], laidByText := true, laidKinds := [.data, .data, .data, .data, .sentinel, .sentinel, .data, .pinned], laidTests := true, laidLooks := .later }
def InsnEncodesUptoCardSaid : Prop := Claim7.holds Tryz.pinned (.plain (OpenSpec.upto insnEncodesSpec)) insnEncodesUptoCard

/-- THE SECOND FORM's CARD OF 'taplinelaw02.InsnPrints'. -/
def insnPrintsUptoCard : Claim7 := { stood := { row := insnPrintsUptoRow, standIns := [], harness := (true, "80711ac449649a074bc558eb23188a5f300da04a61053c1048030e6933e8af92"), looks := true }, kinds := [], alts := [], laidByText := true, laidKinds := [.data, .data, .data, .data, .sentinel, .sentinel, .data, .pinned], laidTests := true, laidLooks := .later }
def InsnPrintsUptoCardSaid : Prop := Claim7.holds Tryz.pinned (.plain (OpenSpec.upto insnPrintsSpec)) insnPrintsUptoCard

/-- THE SECOND FORM's CARD OF 'taplinelaw02.InsnAssembles'. -/
def insnAssemblesUptoCard : Claim7 := { stood := { row := insnAssemblesUptoRow, standIns := [], harness := (true, "80711ac449649a074bc558eb23188a5f300da04a61053c1048030e6933e8af92"), looks := true }, kinds := [], alts := [], laidByText := true, laidKinds := [.data, .data, .data, .data, .sentinel, .sentinel, .data, .pinned], laidTests := true, laidLooks := .later }
def InsnAssemblesUptoCardSaid : Prop := Claim7.holds Tryz.pinned (.plain (OpenSpec.upto insnAssemblesSpec)) insnAssemblesUptoCard

/-- THE SECOND FORM's CARD OF 'taplinelaw02.InsnBack'. -/
def insnBackUptoCard : Claim7 := { stood := { row := insnBackUptoRow, standIns := [], harness := (true, "80711ac449649a074bc558eb23188a5f300da04a61053c1048030e6933e8af92"), looks := true }, kinds := [], alts := [], laidByText := true, laidKinds := [.data, .data, .data, .data, .sentinel, .sentinel, .data, .pinned], laidTests := true, laidLooks := .later }
def InsnBackUptoCardSaid : Prop := Claim7.holds Tryz.pinned (.plain (OpenSpec.upto insnBackSpec)) insnBackUptoCard

/-- THE SECOND FORM's CARD OF 'taplinelaw02.InsnApart'. -/
def insnApartUptoCard : Claim7 := { stood := { row := insnApartUptoRow, standIns := [], harness := (true, "80711ac449649a074bc558eb23188a5f300da04a61053c1048030e6933e8af92"), looks := true }, kinds := [], alts := [], laidByText := true, laidKinds := [.data, .data, .data, .data, .sentinel, .sentinel, .data, .pinned], laidTests := true, laidLooks := .later }
def InsnApartUptoCardSaid : Prop := Claim7.holds Tryz.pinned (.plain (OpenSpec.upto insnApartSpec)) insnApartUptoCard

/-- THE SECOND FORM's CARD OF 'taplinelaw02.InsnPatched'. -/
def insnPatchedUptoCard : Claim7 := { stood := { row := insnPatchedUptoRow, standIns := [], harness := (true, "80711ac449649a074bc558eb23188a5f300da04a61053c1048030e6933e8af92"), looks := true }, kinds := [], alts := [], laidByText := true, laidKinds := [.data, .data, .data, .data, .sentinel, .sentinel, .data, .pinned], laidTests := true, laidLooks := .later }
def InsnPatchedUptoCardSaid : Prop := Claim7.holds Tryz.pinned (.plain (OpenSpec.upto insnPatchedSpec)) insnPatchedUptoCard

/-- THE SECOND FORM's CARD OF 'taplinelaw02.InsnLines'. -/
def insnLinesUptoCard : Claim7 := { stood := { row := insnLinesUptoRow, standIns := [], harness := (true, "80711ac449649a074bc558eb23188a5f300da04a61053c1048030e6933e8af92"), looks := true }, kinds := [], alts := [], laidByText := true, laidKinds := [.data, .data, .data, .data, .sentinel, .sentinel, .data, .pinned], laidTests := true, laidLooks := .later }
def InsnLinesUptoCardSaid : Prop := Claim7.holds Tryz.pinned (.plain (OpenSpec.upto insnLinesSpec)) insnLinesUptoCard

/-- THE SECOND FORM's CARD OF 'taplinelaw02.InsnMoved'. -/
def insnMovedUptoCard : Claim7 := { stood := { row := insnMovedUptoRow, standIns := [], harness := (true, "80711ac449649a074bc558eb23188a5f300da04a61053c1048030e6933e8af92"), looks := true }, kinds := [], alts := [], laidByText := true, laidKinds := [.data, .data, .data, .data, .sentinel, .sentinel, .data, .pinned], laidTests := true, laidLooks := .later }
def InsnMovedUptoCardSaid : Prop := Claim7.holds Tryz.pinned (.plain (OpenSpec.upto insnMovedSpec)) insnMovedUptoCard

/-- THE SECOND FORM's CARD OF 'taplinelaw02.InsnJoined'. -/
def insnJoinedUptoCard : Claim7 := { stood := { row := insnJoinedUptoRow, standIns := [], harness := (true, "80711ac449649a074bc558eb23188a5f300da04a61053c1048030e6933e8af92"), looks := true }, kinds := [], alts := [], laidByText := true, laidKinds := [.data, .data, .data, .data, .sentinel, .sentinel, .data, .pinned], laidTests := true, laidLooks := .later }
def InsnJoinedUptoCardSaid : Prop := Claim7.holds Tryz.pinned (.plain (OpenSpec.upto insnJoinedSpec)) insnJoinedUptoCard

/-- THE SECOND FORM's CARD OF 'taplinelaw02.InsnSweeps'. -/
def insnSweepsUptoCard : Claim7 := { stood := { row := insnSweepsUptoRow, standIns := [], harness := (true, "80711ac449649a074bc558eb23188a5f300da04a61053c1048030e6933e8af92"), looks := true }, kinds := [], alts := [], laidByText := true, laidKinds := [.data, .data, .data, .data, .sentinel, .sentinel, .data, .pinned], laidTests := true, laidLooks := .later }
def InsnSweepsUptoCardSaid : Prop := Claim7.holds Tryz.pinned (.plain (OpenSpec.upto insnSweepsSpec)) insnSweepsUptoCard

/-- THE SECOND FORM's CARD OF 'taplinelaw02.InsnLabels'. -/
def insnLabelsUptoCard : Claim7 := { stood := { row := insnLabelsUptoRow, standIns := [], harness := (true, "80711ac449649a074bc558eb23188a5f300da04a61053c1048030e6933e8af92"), looks := true }, kinds := [], alts := [], laidByText := true, laidKinds := [.data, .data, .data, .data, .sentinel, .sentinel, .data, .pinned], laidTests := true, laidLooks := .later }
def InsnLabelsUptoCardSaid : Prop := Claim7.holds Tryz.pinned (.plain (OpenSpec.upto insnLabelsSpec)) insnLabelsUptoCard

/-- THE SECOND FORM's CARD OF 'taplinelaw02.InsnLists'. -/
def insnListsUptoCard : Claim7 := { stood := { row := insnListsUptoRow, standIns := [], harness := (true, "80711ac449649a074bc558eb23188a5f300da04a61053c1048030e6933e8af92"), looks := true }, kinds := [], alts := [], laidByText := true, laidKinds := [.data, .data, .data, .data, .sentinel, .sentinel, .data, .pinned], laidTests := true, laidLooks := .later }
def InsnListsUptoCardSaid : Prop := Claim7.holds Tryz.pinned (.plain (OpenSpec.upto insnListsSpec)) insnListsUptoCard

/-- THE SECOND FORM's CARD OF 'taplinelaw02.InsnListings'. -/
def insnListingsUptoCard : Claim7 := { stood := { row := insnListingsUptoRow, standIns := [], harness := (true, "80711ac449649a074bc558eb23188a5f300da04a61053c1048030e6933e8af92"), looks := true }, kinds := [], alts := [], laidByText := true, laidKinds := [.data, .data, .data, .data, .sentinel, .sentinel, .data, .pinned], laidTests := true, laidLooks := .later }
def InsnListingsUptoCardSaid : Prop := Claim7.holds Tryz.pinned (.plain (OpenSpec.upto insnListingsSpec)) insnListingsUptoCard

/-- THE SECOND FORM's CARD OF 'taplinelaw02.InsnChecks'. -/
def insnChecksUptoCard : Claim7 := { stood := { row := insnChecksUptoRow, standIns := [], harness := (true, "80711ac449649a074bc558eb23188a5f300da04a61053c1048030e6933e8af92"), looks := true }, kinds := [], alts := [], laidByText := true, laidKinds := [.data, .data, .data, .data, .sentinel, .sentinel, .data, .pinned], laidTests := true, laidLooks := .later }
def InsnChecksUptoCardSaid : Prop := Claim7.holds Tryz.pinned (.plain (OpenSpec.upto insnChecksSpec)) insnChecksUptoCard
end Rows
end Go.Proofs.YtffojmgmpfjlhaaGreatDoor
