/-
  DERIVED. GIVEN WITH THE SEED: THE CARDS: each row of YticmcblmkphiaaaGreatDoorRows.lean that lists a variable, with what it lists TIED to the program's text (the seventh form; the later family's looks); each row that meets fmt, with fmt's text TOLD by the authors' own Lean function (tested against real Go, not proved from fmt's source: count such statements apart). THE CARD IS WHAT COUNTS. Prove the row's statement (the work); the ties are given (YticmcblmkphiaaaGreatDoorTie.lean); close each card by the builder's one call (the guide's Derived/Test/ToyasCard.lean, 'card_holds'). Laid BY PROGRAM, IN A SANDBOX (cutbox-door.mjs). By AI agents, Wed Nov 11 2026. No macro, syntax, notation, axiom, sorry.
-/
import Derived.Test.YticmcblmkphiaaaGreatDoorRows
import GoSem.ClaimSeven
namespace Go.Proofs.YticmcblmkphiaaaGreatDoor
namespace Rows

/-- THE TIED CARD OF 'roundelaylaw26.TraceDiffs'. -/
def traceDiffsCard : Claim7 := { stood := { row := traceDiffsRow, standIns := [], harness := (true, "c216da9c0dd9615e7fa3951e245d5d32d699a748b67cb39c408ad3eb8f0b2067"), looks := false }, kinds := [], alts := [], laidByText := true, laidKinds := [.data, .funcs, .pinned], laidTests := true, laidLooks := .later }
def TraceDiffsCardSaid : Prop := Claim7.holds Tryz.pinned (.plain (OpenSpec.ofChange traceDiffsSpec)) traceDiffsCard

/-- THE TIED CARD OF 'roundelaylaw26.TraceTells'. -/
def traceTellsCard : Claim7 := { stood := { row := traceTellsRow, standIns := [], harness := (true, "c216da9c0dd9615e7fa3951e245d5d32d699a748b67cb39c408ad3eb8f0b2067"), looks := false }, kinds := [], alts := [], laidByText := true, laidKinds := [.data, .funcs, .pinned], laidTests := true, laidLooks := .later }
def TraceTellsCardSaid : Prop := Claim7.holds Tryz.pinned (.plain (OpenSpec.ofChange traceTellsSpec)) traceTellsCard

/-- THE TIED CARD OF 'roundelaylaw26.TraceWhys'. -/
def traceWhysCard : Claim7 := { stood := { row := traceWhysRow, standIns := [], harness := (true, "c216da9c0dd9615e7fa3951e245d5d32d699a748b67cb39c408ad3eb8f0b2067"), looks := false }, kinds := [], alts := [], laidByText := true, laidKinds := [.data, .funcs, .pinned], laidTests := true, laidLooks := .later }
def TraceWhysCardSaid : Prop := Claim7.holds Tryz.pinned (.plain (OpenSpec.ofChange traceWhysSpec)) traceWhysCard

/-- THE TIED CARD OF 'roundelaylaw26.TraceEvents'. -/
def traceEventsCard : Claim7 := { stood := { row := traceEventsRow, standIns := [], harness := (true, "c216da9c0dd9615e7fa3951e245d5d32d699a748b67cb39c408ad3eb8f0b2067"), looks := false }, kinds := [], alts := [], laidByText := true, laidKinds := [.data, .data, .funcs, .pinned], laidTests := true, laidLooks := .later }
def TraceEventsCardSaid : Prop := Claim7.holds Tryz.pinned (.plain (OpenSpec.ofChange traceEventsSpec)) traceEventsCard

/-- THE TIED CARD OF 'roundelaylaw26.TraceWaits'. -/
def traceWaitsCard : Claim7 := { stood := { row := traceWaitsRow, standIns := [], harness := (true, "c216da9c0dd9615e7fa3951e245d5d32d699a748b67cb39c408ad3eb8f0b2067"), looks := false }, kinds := [], alts := [], laidByText := true, laidKinds := [.data, .data, .funcs, .pinned], laidTests := true, laidLooks := .later }
def TraceWaitsCardSaid : Prop := Claim7.holds Tryz.pinned (.plain (OpenSpec.ofChange traceWaitsSpec)) traceWaitsCard

/-- THE TIED CARD OF 'roundelaylaw26.TraceNews'. -/
def traceNewsCard : Claim7 := { stood := { row := traceNewsRow, standIns := [], harness := (true, "c216da9c0dd9615e7fa3951e245d5d32d699a748b67cb39c408ad3eb8f0b2067"), looks := false }, kinds := [], alts := [], laidByText := true, laidKinds := [.data, .funcs, .pinned], laidTests := true, laidLooks := .later }
def TraceNewsCardSaid : Prop := Claim7.holds Tryz.pinned (.plain (OpenSpec.ofChange traceNewsSpec)) traceNewsCard

/-- THE TIED CARD OF 'roundelaylaw26.TraceSmall'. -/
def traceSmallCard : Claim7 := { stood := { row := traceSmallRow, standIns := [], harness := (true, "c216da9c0dd9615e7fa3951e245d5d32d699a748b67cb39c408ad3eb8f0b2067"), looks := false }, kinds := [], alts := [], laidByText := true, laidKinds := [.data, .funcs, .pinned], laidTests := true, laidLooks := .later }
def TraceSmallCardSaid : Prop := Claim7.holds Tryz.pinned (.plain (OpenSpec.ofChange traceSmallSpec)) traceSmallCard

/-- THE TIED CARD OF 'roundelaylaw26.TraceBack'. -/
def traceBackCard : Claim7 := { stood := { row := traceBackRow, standIns := [], harness := (true, "c216da9c0dd9615e7fa3951e245d5d32d699a748b67cb39c408ad3eb8f0b2067"), looks := false }, kinds := [], alts := [], laidByText := true, laidKinds := [.data, .data, .funcs, .pinned], laidTests := true, laidLooks := .later }
def TraceBackCardSaid : Prop := Claim7.holds Tryz.pinned (.plain (OpenSpec.ofChange traceBackSpec)) traceBackCard

/-- THE TIED CARD OF 'roundelaylaw26.TraceTo'. -/
def traceToCard : Claim7 := { stood := { row := traceToRow, standIns := [], harness := (true, "c216da9c0dd9615e7fa3951e245d5d32d699a748b67cb39c408ad3eb8f0b2067"), looks := false }, kinds := [], alts := [], laidByText := true, laidKinds := [.data, .data, .funcs, .pinned], laidTests := true, laidLooks := .later }
def TraceToCardSaid : Prop := Claim7.holds Tryz.pinned (.plain (OpenSpec.ofChange traceToSpec)) traceToCard

/-- THE TIED CARD OF 'roundelaylaw26.TraceLong'. -/
def traceLongCard : Claim7 := { stood := { row := traceLongRow, standIns := [], harness := (true, "c216da9c0dd9615e7fa3951e245d5d32d699a748b67cb39c408ad3eb8f0b2067"), looks := false }, kinds := [], alts := [], laidByText := true, laidKinds := [.data, .funcs, .pinned], laidTests := true, laidLooks := .later }
def TraceLongCardSaid : Prop := Claim7.holds Tryz.pinned (.plain (OpenSpec.ofChange traceLongSpec)) traceLongCard

/-- THE TIED CARD OF 'roundelaylaw26.TraceUntil'. -/
def traceUntilCard : Claim7 := { stood := { row := traceUntilRow, standIns := [], harness := (true, "c216da9c0dd9615e7fa3951e245d5d32d699a748b67cb39c408ad3eb8f0b2067"), looks := false }, kinds := [], alts := [], laidByText := true, laidKinds := [.data, .data, .funcs, .pinned], laidTests := true, laidLooks := .later }
def TraceUntilCardSaid : Prop := Claim7.holds Tryz.pinned (.plain (OpenSpec.ofChange traceUntilSpec)) traceUntilCard

/-- THE SECOND FORM's CARD OF 'roundelaylaw26.TraceDiffs'. -/
def traceDiffsUptoCard : Claim7 := { stood := { row := traceDiffsUptoRow, standIns := [], harness := (true, "c216da9c0dd9615e7fa3951e245d5d32d699a748b67cb39c408ad3eb8f0b2067"), looks := false }, kinds := [], alts := [], laidByText := true, laidKinds := [.data, .funcs, .pinned], laidTests := true, laidLooks := .later }
def TraceDiffsUptoCardSaid : Prop := Claim7.holds Tryz.pinned (.plain (OpenSpec.upto traceDiffsSpec)) traceDiffsUptoCard

/-- THE SECOND FORM's CARD OF 'roundelaylaw26.TraceTells'. -/
def traceTellsUptoCard : Claim7 := { stood := { row := traceTellsUptoRow, standIns := [], harness := (true, "c216da9c0dd9615e7fa3951e245d5d32d699a748b67cb39c408ad3eb8f0b2067"), looks := false }, kinds := [], alts := [], laidByText := true, laidKinds := [.data, .funcs, .pinned], laidTests := true, laidLooks := .later }
def TraceTellsUptoCardSaid : Prop := Claim7.holds Tryz.pinned (.plain (OpenSpec.upto traceTellsSpec)) traceTellsUptoCard

/-- THE SECOND FORM's CARD OF 'roundelaylaw26.TraceWhys'. -/
def traceWhysUptoCard : Claim7 := { stood := { row := traceWhysUptoRow, standIns := [], harness := (true, "c216da9c0dd9615e7fa3951e245d5d32d699a748b67cb39c408ad3eb8f0b2067"), looks := false }, kinds := [], alts := [], laidByText := true, laidKinds := [.data, .funcs, .pinned], laidTests := true, laidLooks := .later }
def TraceWhysUptoCardSaid : Prop := Claim7.holds Tryz.pinned (.plain (OpenSpec.upto traceWhysSpec)) traceWhysUptoCard

/-- THE SECOND FORM's CARD OF 'roundelaylaw26.TraceEvents'. -/
def traceEventsUptoCard : Claim7 := { stood := { row := traceEventsUptoRow, standIns := [], harness := (true, "c216da9c0dd9615e7fa3951e245d5d32d699a748b67cb39c408ad3eb8f0b2067"), looks := false }, kinds := [], alts := [], laidByText := true, laidKinds := [.data, .data, .funcs, .pinned], laidTests := true, laidLooks := .later }
def TraceEventsUptoCardSaid : Prop := Claim7.holds Tryz.pinned (.plain (OpenSpec.upto traceEventsSpec)) traceEventsUptoCard

/-- THE SECOND FORM's CARD OF 'roundelaylaw26.TraceWaits'. -/
def traceWaitsUptoCard : Claim7 := { stood := { row := traceWaitsUptoRow, standIns := [], harness := (true, "c216da9c0dd9615e7fa3951e245d5d32d699a748b67cb39c408ad3eb8f0b2067"), looks := false }, kinds := [], alts := [], laidByText := true, laidKinds := [.data, .data, .funcs, .pinned], laidTests := true, laidLooks := .later }
def TraceWaitsUptoCardSaid : Prop := Claim7.holds Tryz.pinned (.plain (OpenSpec.upto traceWaitsSpec)) traceWaitsUptoCard

/-- THE SECOND FORM's CARD OF 'roundelaylaw26.TraceNews'. -/
def traceNewsUptoCard : Claim7 := { stood := { row := traceNewsUptoRow, standIns := [], harness := (true, "c216da9c0dd9615e7fa3951e245d5d32d699a748b67cb39c408ad3eb8f0b2067"), looks := false }, kinds := [], alts := [], laidByText := true, laidKinds := [.data, .funcs, .pinned], laidTests := true, laidLooks := .later }
def TraceNewsUptoCardSaid : Prop := Claim7.holds Tryz.pinned (.plain (OpenSpec.upto traceNewsSpec)) traceNewsUptoCard

/-- THE SECOND FORM's CARD OF 'roundelaylaw26.TraceSmall'. -/
def traceSmallUptoCard : Claim7 := { stood := { row := traceSmallUptoRow, standIns := [], harness := (true, "c216da9c0dd9615e7fa3951e245d5d32d699a748b67cb39c408ad3eb8f0b2067"), looks := false }, kinds := [], alts := [], laidByText := true, laidKinds := [.data, .funcs, .pinned], laidTests := true, laidLooks := .later }
def TraceSmallUptoCardSaid : Prop := Claim7.holds Tryz.pinned (.plain (OpenSpec.upto traceSmallSpec)) traceSmallUptoCard

/-- THE SECOND FORM's CARD OF 'roundelaylaw26.TraceBack'. -/
def traceBackUptoCard : Claim7 := { stood := { row := traceBackUptoRow, standIns := [], harness := (true, "c216da9c0dd9615e7fa3951e245d5d32d699a748b67cb39c408ad3eb8f0b2067"), looks := false }, kinds := [], alts := [], laidByText := true, laidKinds := [.data, .data, .funcs, .pinned], laidTests := true, laidLooks := .later }
def TraceBackUptoCardSaid : Prop := Claim7.holds Tryz.pinned (.plain (OpenSpec.upto traceBackSpec)) traceBackUptoCard

/-- THE SECOND FORM's CARD OF 'roundelaylaw26.TraceTo'. -/
def traceToUptoCard : Claim7 := { stood := { row := traceToUptoRow, standIns := [], harness := (true, "c216da9c0dd9615e7fa3951e245d5d32d699a748b67cb39c408ad3eb8f0b2067"), looks := false }, kinds := [], alts := [], laidByText := true, laidKinds := [.data, .data, .funcs, .pinned], laidTests := true, laidLooks := .later }
def TraceToUptoCardSaid : Prop := Claim7.holds Tryz.pinned (.plain (OpenSpec.upto traceToSpec)) traceToUptoCard

/-- THE SECOND FORM's CARD OF 'roundelaylaw26.TraceLong'. -/
def traceLongUptoCard : Claim7 := { stood := { row := traceLongUptoRow, standIns := [], harness := (true, "c216da9c0dd9615e7fa3951e245d5d32d699a748b67cb39c408ad3eb8f0b2067"), looks := false }, kinds := [], alts := [], laidByText := true, laidKinds := [.data, .funcs, .pinned], laidTests := true, laidLooks := .later }
def TraceLongUptoCardSaid : Prop := Claim7.holds Tryz.pinned (.plain (OpenSpec.upto traceLongSpec)) traceLongUptoCard

/-- THE SECOND FORM's CARD OF 'roundelaylaw26.TraceUntil'. -/
def traceUntilUptoCard : Claim7 := { stood := { row := traceUntilUptoRow, standIns := [], harness := (true, "c216da9c0dd9615e7fa3951e245d5d32d699a748b67cb39c408ad3eb8f0b2067"), looks := false }, kinds := [], alts := [], laidByText := true, laidKinds := [.data, .data, .funcs, .pinned], laidTests := true, laidLooks := .later }
def TraceUntilUptoCardSaid : Prop := Claim7.holds Tryz.pinned (.plain (OpenSpec.upto traceUntilSpec)) traceUntilUptoCard
end Rows
end Go.Proofs.YticmcblmkphiaaaGreatDoor
