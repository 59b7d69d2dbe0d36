/-
  DERIVED. GIVEN WITH THE SEED: THE CARDS: each row of YtckionbibpmloaaGreatDoorRows.lean that lists a variable, with what it lists TIED to the program's text (the seventh form; the later family's looks); each row that meets fmt, with fmt's text TOLD by the authors' own Lean function (tested against real Go, not proved from fmt's source: count such statements apart). THE CARD IS WHAT COUNTS. Prove the row's statement (the work); the ties are given (YtckionbibpmloaaGreatDoorTie.lean); close each card by the builder's one call (the guide's Derived/Test/ToyasCard.lean, 'card_holds'). Laid BY PROGRAM, IN A SANDBOX (cutbox-door.mjs). By AI agents, Wed Nov 11 2026. No macro, syntax, notation, axiom, sorry.
-/
import Derived.Test.YtckionbibpmloaaGreatDoorRows
import GoSem.ClaimSeven
namespace Go.Proofs.YtckionbibpmloaaGreatDoor
namespace Rows

/-- THE TIED CARD OF 'gladstonelaw01.TicketCounts'. -/
def ticketCountsCard : Claim7 := { stood := { row := ticketCountsRow, standIns := [], harness := (true, "f9f13c190458b28e456932021614d91a116115d315506cc58218885e58e6c7ba"), looks := true }, kinds := [], alts := [], goes := true, laidByText := true, laidKinds := [.handle], laidTests := true, laidLooks := .later }
def TicketCountsCardSaid : Prop := Claim7.holds Tryz.pinned (.plain (OpenSpec.ofChange ticketCountsSpec)) ticketCountsCard

/-- THE TIED CARD OF 'gladstonelaw01.TicketPairs'. -/
def ticketPairsCard : Claim7 := { stood := { row := ticketPairsRow, standIns := [], harness := (true, "f9f13c190458b28e456932021614d91a116115d315506cc58218885e58e6c7ba"), looks := true }, kinds := [], alts := [], goes := true, laidByText := true, laidKinds := [.handle], laidTests := true, laidLooks := .later }
def TicketPairsCardSaid : Prop := Claim7.holds Tryz.pinned (.plain (OpenSpec.ofChange ticketPairsSpec)) ticketPairsCard

/-- THE TIED CARD OF 'gladstonelaw01.TicketAparts'. -/
def ticketApartsCard : Claim7 := { stood := { row := ticketApartsRow, standIns := [], harness := (true, "f9f13c190458b28e456932021614d91a116115d315506cc58218885e58e6c7ba"), looks := true }, kinds := [], alts := [], goes := true, laidByText := true, laidKinds := [.handle], laidTests := true, laidLooks := .later }
def TicketApartsCardSaid : Prop := Claim7.holds Tryz.pinned (.plain (OpenSpec.ofChange ticketApartsSpec)) ticketApartsCard

/-- THE TIED CARD OF 'gladstonelaw01.TicketHours'. -/
def ticketHoursCard : Claim7 := { stood := { row := ticketHoursRow, standIns := [], harness := (true, "f9f13c190458b28e456932021614d91a116115d315506cc58218885e58e6c7ba"), looks := true }, kinds := [], alts := [], goes := true, laidByText := true, laidKinds := [.handle], laidTests := true, laidLooks := .later }
def TicketHoursCardSaid : Prop := Claim7.holds Tryz.pinned (.plain (OpenSpec.ofChange ticketHoursSpec)) ticketHoursCard

/-- THE TIED CARD OF 'gladstonelaw01.TicketFirsts'. -/
def ticketFirstsCard : Claim7 := { stood := { row := ticketFirstsRow, standIns := [], harness := (true, "f9f13c190458b28e456932021614d91a116115d315506cc58218885e58e6c7ba"), looks := true }, kinds := [], alts := [], goes := true, laidByText := true, laidKinds := [.handle], laidTests := true, laidLooks := .later }
def TicketFirstsCardSaid : Prop := Claim7.holds Tryz.pinned (.plain (OpenSpec.ofChange ticketFirstsSpec)) ticketFirstsCard

/-- THE TIED CARD OF 'gladstonelaw01.TicketNumbers'. -/
def ticketNumbersCard : Claim7 := { stood := { row := ticketNumbersRow, standIns := [], harness := (true, "f9f13c190458b28e456932021614d91a116115d315506cc58218885e58e6c7ba"), looks := true }, kinds := [], alts := [], goes := true, laidByText := true, laidKinds := [.handle], laidTests := true, laidLooks := .later }
def TicketNumbersCardSaid : Prop := Claim7.holds Tryz.pinned (.plain (OpenSpec.ofChange ticketNumbersSpec)) ticketNumbersCard

/-- THE TIED CARD OF 'gladstonelaw01.TicketLook'. -/
def ticketLookCard : Claim7 := { stood := { row := ticketLookRow, standIns := [], harness := (true, "f9f13c190458b28e456932021614d91a116115d315506cc58218885e58e6c7ba"), looks := true }, kinds := [], alts := [], goes := true, laidByText := true, laidKinds := [.handle], laidTests := true, laidLooks := .later }
def TicketLookCardSaid : Prop := Claim7.holds Tryz.pinned (.plain (OpenSpec.ofChange ticketLookSpec)) ticketLookCard

/-- THE TIED CARD OF 'gladstonelaw01.TicketKnown'. -/
def ticketKnownCard : Claim7 := { stood := { row := ticketKnownRow, standIns := [], harness := (true, "f9f13c190458b28e456932021614d91a116115d315506cc58218885e58e6c7ba"), looks := true }, kinds := [], alts := [], goes := true, laidByText := true, laidKinds := [.handle], laidTests := true, laidLooks := .later }
def TicketKnownCardSaid : Prop := Claim7.holds Tryz.pinned (.plain (OpenSpec.ofChange ticketKnownSpec)) ticketKnownCard

/-- THE SECOND FORM's CARD OF 'gladstonelaw01.TicketCounts'. -/
def ticketCountsUptoCard : Claim7 := { stood := { row := ticketCountsUptoRow, standIns := [], harness := (true, "f9f13c190458b28e456932021614d91a116115d315506cc58218885e58e6c7ba"), looks := true }, kinds := [], alts := [], goes := true, laidByText := true, laidKinds := [.handle], laidTests := true, laidLooks := .later }
def TicketCountsUptoCardSaid : Prop := Claim7.holds Tryz.pinned (.plain (OpenSpec.upto ticketCountsSpec)) ticketCountsUptoCard

/-- THE SECOND FORM's CARD OF 'gladstonelaw01.TicketPairs'. -/
def ticketPairsUptoCard : Claim7 := { stood := { row := ticketPairsUptoRow, standIns := [], harness := (true, "f9f13c190458b28e456932021614d91a116115d315506cc58218885e58e6c7ba"), looks := true }, kinds := [], alts := [], goes := true, laidByText := true, laidKinds := [.handle], laidTests := true, laidLooks := .later }
def TicketPairsUptoCardSaid : Prop := Claim7.holds Tryz.pinned (.plain (OpenSpec.upto ticketPairsSpec)) ticketPairsUptoCard

/-- THE SECOND FORM's CARD OF 'gladstonelaw01.TicketAparts'. -/
def ticketApartsUptoCard : Claim7 := { stood := { row := ticketApartsUptoRow, standIns := [], harness := (true, "f9f13c190458b28e456932021614d91a116115d315506cc58218885e58e6c7ba"), looks := true }, kinds := [], alts := [], goes := true, laidByText := true, laidKinds := [.handle], laidTests := true, laidLooks := .later }
def TicketApartsUptoCardSaid : Prop := Claim7.holds Tryz.pinned (.plain (OpenSpec.upto ticketApartsSpec)) ticketApartsUptoCard

/-- THE SECOND FORM's CARD OF 'gladstonelaw01.TicketHours'. -/
def ticketHoursUptoCard : Claim7 := { stood := { row := ticketHoursUptoRow, standIns := [], harness := (true, "f9f13c190458b28e456932021614d91a116115d315506cc58218885e58e6c7ba"), looks := true }, kinds := [], alts := [], goes := true, laidByText := true, laidKinds := [.handle], laidTests := true, laidLooks := .later }
def TicketHoursUptoCardSaid : Prop := Claim7.holds Tryz.pinned (.plain (OpenSpec.upto ticketHoursSpec)) ticketHoursUptoCard

/-- THE SECOND FORM's CARD OF 'gladstonelaw01.TicketFirsts'. -/
def ticketFirstsUptoCard : Claim7 := { stood := { row := ticketFirstsUptoRow, standIns := [], harness := (true, "f9f13c190458b28e456932021614d91a116115d315506cc58218885e58e6c7ba"), looks := true }, kinds := [], alts := [], goes := true, laidByText := true, laidKinds := [.handle], laidTests := true, laidLooks := .later }
def TicketFirstsUptoCardSaid : Prop := Claim7.holds Tryz.pinned (.plain (OpenSpec.upto ticketFirstsSpec)) ticketFirstsUptoCard

/-- THE SECOND FORM's CARD OF 'gladstonelaw01.TicketNumbers'. -/
def ticketNumbersUptoCard : Claim7 := { stood := { row := ticketNumbersUptoRow, standIns := [], harness := (true, "f9f13c190458b28e456932021614d91a116115d315506cc58218885e58e6c7ba"), looks := true }, kinds := [], alts := [], goes := true, laidByText := true, laidKinds := [.handle], laidTests := true, laidLooks := .later }
def TicketNumbersUptoCardSaid : Prop := Claim7.holds Tryz.pinned (.plain (OpenSpec.upto ticketNumbersSpec)) ticketNumbersUptoCard

/-- THE SECOND FORM's CARD OF 'gladstonelaw01.TicketLook'. -/
def ticketLookUptoCard : Claim7 := { stood := { row := ticketLookUptoRow, standIns := [], harness := (true, "f9f13c190458b28e456932021614d91a116115d315506cc58218885e58e6c7ba"), looks := true }, kinds := [], alts := [], goes := true, laidByText := true, laidKinds := [.handle], laidTests := true, laidLooks := .later }
def TicketLookUptoCardSaid : Prop := Claim7.holds Tryz.pinned (.plain (OpenSpec.upto ticketLookSpec)) ticketLookUptoCard

/-- THE SECOND FORM's CARD OF 'gladstonelaw01.TicketKnown'. -/
def ticketKnownUptoCard : Claim7 := { stood := { row := ticketKnownUptoRow, standIns := [], harness := (true, "f9f13c190458b28e456932021614d91a116115d315506cc58218885e58e6c7ba"), looks := true }, kinds := [], alts := [], goes := true, laidByText := true, laidKinds := [.handle], laidTests := true, laidLooks := .later }
def TicketKnownUptoCardSaid : Prop := Claim7.holds Tryz.pinned (.plain (OpenSpec.upto ticketKnownSpec)) ticketKnownUptoCard
end Rows
end Go.Proofs.YtckionbibpmloaaGreatDoor
