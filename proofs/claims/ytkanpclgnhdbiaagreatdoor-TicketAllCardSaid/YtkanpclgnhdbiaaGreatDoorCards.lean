/-
  DERIVED. GIVEN WITH THE SEED: THE CARDS: each row of YtkanpclgnhdbiaaGreatDoorRows.lean that lists a variable, with what it lists TIED to the program's text (the seventh form; the later family's looks); each row that meets fmt, with fmt's text TOLD by the authors' own Lean function (tested against real Go, not proved from fmt's source: count such statements apart). THE CARD IS WHAT COUNTS. Prove the row's statement (the work); the ties are given (YtkanpclgnhdbiaaGreatDoorTie.lean); close each card by the builder's one call (the guide's Derived/Test/ToyasCard.lean, 'card_holds'). Laid BY PROGRAM, IN A SANDBOX (cutbox-door.mjs). By AI agents, Wed Nov 11 2026. No macro, syntax, notation, axiom, sorry.
-/
import Derived.Test.YtkanpclgnhdbiaaGreatDoorRows
import GoSem.ClaimSeven
namespace Go.Proofs.YtkanpclgnhdbiaaGreatDoor
namespace Rows

/-- THE TIED CARD OF 'gladstonelaw01.TicketFirst'. -/
def ticketFirstCard : Claim7 := { stood := { row := ticketFirstRow, standIns := [], harness := (true, "45fd5351f7cd9735ddf4ba6d03521756ede6e6c5cc419d257d1792c40ead1f9e"), looks := true }, kinds := [], alts := [], goes := true, laidByText := true, laidKinds := [.handle], laidTests := true, laidLooks := .later }
def TicketFirstCardSaid : Prop := Claim7.holds Tryz.pinned (.plain (OpenSpec.ofChange ticketFirstSpec)) ticketFirstCard

/-- THE TIED CARD OF 'gladstonelaw01.TicketWider'. -/
def ticketWiderCard : Claim7 := { stood := { row := ticketWiderRow, standIns := [], harness := (true, "45fd5351f7cd9735ddf4ba6d03521756ede6e6c5cc419d257d1792c40ead1f9e"), looks := true }, kinds := [], alts := [], goes := true, laidByText := true, laidKinds := [.handle], laidTests := true, laidLooks := .later }
def TicketWiderCardSaid : Prop := Claim7.holds Tryz.pinned (.plain (OpenSpec.ofChange ticketWiderSpec)) ticketWiderCard

/-- THE TIED CARD OF 'gladstonelaw01.TicketGiven'. -/
def ticketGivenCard : Claim7 := { stood := { row := ticketGivenRow, standIns := [], harness := (true, "45fd5351f7cd9735ddf4ba6d03521756ede6e6c5cc419d257d1792c40ead1f9e"), looks := true }, kinds := [], alts := [], goes := true, laidByText := true, laidKinds := [.handle], laidTests := true, laidLooks := .later }
def TicketGivenCardSaid : Prop := Claim7.holds Tryz.pinned (.plain (OpenSpec.ofChange ticketGivenSpec)) ticketGivenCard

/-- THE TIED CARD OF 'gladstonelaw01.TicketApart'. -/
def ticketApartCard : Claim7 := { stood := { row := ticketApartRow, standIns := [], harness := (true, "45fd5351f7cd9735ddf4ba6d03521756ede6e6c5cc419d257d1792c40ead1f9e"), looks := true }, kinds := [], alts := [], goes := true, laidByText := true, laidKinds := [.handle], laidTests := true, laidLooks := .later }
def TicketApartCardSaid : Prop := Claim7.holds Tryz.pinned (.plain (OpenSpec.ofChange ticketApartSpec)) ticketApartCard

/-- THE TIED CARD OF 'gladstonelaw01.TicketForged'. -/
def ticketForgedCard : Claim7 := { stood := { row := ticketForgedRow, standIns := [], harness := (true, "45fd5351f7cd9735ddf4ba6d03521756ede6e6c5cc419d257d1792c40ead1f9e"), looks := true }, kinds := [], alts := [], goes := true, laidByText := true, laidKinds := [.handle], laidTests := true, laidLooks := .later }
def TicketForgedCardSaid : Prop := Claim7.holds Tryz.pinned (.plain (OpenSpec.ofChange ticketForgedSpec)) ticketForgedCard

/-- THE TIED CARD OF 'gladstonelaw01.TicketRead'. -/
def ticketReadCard : Claim7 := { stood := { row := ticketReadRow, standIns := [], harness := (true, "45fd5351f7cd9735ddf4ba6d03521756ede6e6c5cc419d257d1792c40ead1f9e"), looks := true }, kinds := [], alts := [], goes := true, laidByText := true, laidKinds := [.handle], laidTests := true, laidLooks := .later }
def TicketReadCardSaid : Prop := Claim7.holds Tryz.pinned (.plain (OpenSpec.ofChange ticketReadSpec)) ticketReadCard

/-- THE TIED CARD OF 'gladstonelaw01.TicketGreater'. -/
def ticketGreaterCard : Claim7 := { stood := { row := ticketGreaterRow, standIns := [], harness := (true, "45fd5351f7cd9735ddf4ba6d03521756ede6e6c5cc419d257d1792c40ead1f9e"), looks := true }, kinds := [], alts := [], goes := true, laidByText := true, laidKinds := [.handle], laidTests := true, laidLooks := .later }
def TicketGreaterCardSaid : Prop := Claim7.holds Tryz.pinned (.plain (OpenSpec.ofChange ticketGreaterSpec)) ticketGreaterCard

/-- THE TIED CARD OF 'gladstonelaw01.TicketMixed'. -/
def ticketMixedCard : Claim7 := { stood := { row := ticketMixedRow, standIns := [], harness := (true, "45fd5351f7cd9735ddf4ba6d03521756ede6e6c5cc419d257d1792c40ead1f9e"), looks := true }, kinds := [], alts := [], goes := true, laidByText := true, laidKinds := [.handle], laidTests := true, laidLooks := .later }
def TicketMixedCardSaid : Prop := Claim7.holds Tryz.pinned (.plain (OpenSpec.ofChange ticketMixedSpec)) ticketMixedCard

/-- THE TIED CARD OF 'gladstonelaw01.TicketTrue'. -/
def ticketTrueCard : Claim7 := { stood := { row := ticketTrueRow, standIns := [], harness := (true, "45fd5351f7cd9735ddf4ba6d03521756ede6e6c5cc419d257d1792c40ead1f9e"), looks := true }, kinds := [], alts := [], goes := true, laidByText := true, laidKinds := [.handle], laidTests := true, laidLooks := .later }
def TicketTrueCardSaid : Prop := Claim7.holds Tryz.pinned (.plain (OpenSpec.ofChange ticketTrueSpec)) ticketTrueCard

/-- THE TIED CARD OF 'gladstonelaw01.TicketSteps'. -/
def ticketStepsCard : Claim7 := { stood := { row := ticketStepsRow, standIns := [], harness := (true, "45fd5351f7cd9735ddf4ba6d03521756ede6e6c5cc419d257d1792c40ead1f9e"), looks := true }, kinds := [], alts := [], goes := true, laidByText := true, laidKinds := [.handle], laidTests := true, laidLooks := .later }
def TicketStepsCardSaid : Prop := Claim7.holds Tryz.pinned (.plain (OpenSpec.ofChange ticketStepsSpec)) ticketStepsCard

/-- THE TIED CARD OF 'gladstonelaw01.TicketOrder'. -/
def ticketOrderCard : Claim7 := { stood := { row := ticketOrderRow, standIns := [], harness := (true, "45fd5351f7cd9735ddf4ba6d03521756ede6e6c5cc419d257d1792c40ead1f9e"), looks := true }, kinds := [], alts := [], goes := true, laidByText := true, laidKinds := [.handle], laidTests := true, laidLooks := .later }
def TicketOrderCardSaid : Prop := Claim7.holds Tryz.pinned (.plain (OpenSpec.ofChange ticketOrderSpec)) ticketOrderCard

/-- THE TIED CARD OF 'gladstonelaw01.TicketAll'. -/
def ticketAllCard : Claim7 := { stood := { row := ticketAllRow, standIns := [], harness := (true, "45fd5351f7cd9735ddf4ba6d03521756ede6e6c5cc419d257d1792c40ead1f9e"), looks := true }, kinds := [], alts := [], goes := true, laidByText := true, laidKinds := [.handle], laidTests := true, laidLooks := .later }
def TicketAllCardSaid : Prop := Claim7.holds Tryz.pinned (.plain (OpenSpec.ofChange ticketAllSpec)) ticketAllCard

/-- THE SECOND FORM's CARD OF 'gladstonelaw01.TicketFirst'. -/
def ticketFirstUptoCard : Claim7 := { stood := { row := ticketFirstUptoRow, standIns := [], harness := (true, "45fd5351f7cd9735ddf4ba6d03521756ede6e6c5cc419d257d1792c40ead1f9e"), looks := true }, kinds := [], alts := [], goes := true, laidByText := true, laidKinds := [.handle], laidTests := true, laidLooks := .later }
def TicketFirstUptoCardSaid : Prop := Claim7.holds Tryz.pinned (.plain (OpenSpec.upto ticketFirstSpec)) ticketFirstUptoCard

/-- THE SECOND FORM's CARD OF 'gladstonelaw01.TicketWider'. -/
def ticketWiderUptoCard : Claim7 := { stood := { row := ticketWiderUptoRow, standIns := [], harness := (true, "45fd5351f7cd9735ddf4ba6d03521756ede6e6c5cc419d257d1792c40ead1f9e"), looks := true }, kinds := [], alts := [], goes := true, laidByText := true, laidKinds := [.handle], laidTests := true, laidLooks := .later }
def TicketWiderUptoCardSaid : Prop := Claim7.holds Tryz.pinned (.plain (OpenSpec.upto ticketWiderSpec)) ticketWiderUptoCard

/-- THE SECOND FORM's CARD OF 'gladstonelaw01.TicketGiven'. -/
def ticketGivenUptoCard : Claim7 := { stood := { row := ticketGivenUptoRow, standIns := [], harness := (true, "45fd5351f7cd9735ddf4ba6d03521756ede6e6c5cc419d257d1792c40ead1f9e"), looks := true }, kinds := [], alts := [], goes := true, laidByText := true, laidKinds := [.handle], laidTests := true, laidLooks := .later }
def TicketGivenUptoCardSaid : Prop := Claim7.holds Tryz.pinned (.plain (OpenSpec.upto ticketGivenSpec)) ticketGivenUptoCard

/-- THE SECOND FORM's CARD OF 'gladstonelaw01.TicketApart'. -/
def ticketApartUptoCard : Claim7 := { stood := { row := ticketApartUptoRow, standIns := [], harness := (true, "45fd5351f7cd9735ddf4ba6d03521756ede6e6c5cc419d257d1792c40ead1f9e"), looks := true }, kinds := [], alts := [], goes := true, laidByText := true, laidKinds := [.handle], laidTests := true, laidLooks := .later }
def TicketApartUptoCardSaid : Prop := Claim7.holds Tryz.pinned (.plain (OpenSpec.upto ticketApartSpec)) ticketApartUptoCard

/-- THE SECOND FORM's CARD OF 'gladstonelaw01.TicketForged'. -/
def ticketForgedUptoCard : Claim7 := { stood := { row := ticketForgedUptoRow, standIns := [], harness := (true, "45fd5351f7cd9735ddf4ba6d03521756ede6e6c5cc419d257d1792c40ead1f9e"), looks := true }, kinds := [], alts := [], goes := true, laidByText := true, laidKinds := [.handle], laidTests := true, laidLooks := .later }
def TicketForgedUptoCardSaid : Prop := Claim7.holds Tryz.pinned (.plain (OpenSpec.upto ticketForgedSpec)) ticketForgedUptoCard

/-- THE SECOND FORM's CARD OF 'gladstonelaw01.TicketRead'. -/
def ticketReadUptoCard : Claim7 := { stood := { row := ticketReadUptoRow, standIns := [], harness := (true, "45fd5351f7cd9735ddf4ba6d03521756ede6e6c5cc419d257d1792c40ead1f9e"), looks := true }, kinds := [], alts := [], goes := true, laidByText := true, laidKinds := [.handle], laidTests := true, laidLooks := .later }
def TicketReadUptoCardSaid : Prop := Claim7.holds Tryz.pinned (.plain (OpenSpec.upto ticketReadSpec)) ticketReadUptoCard

/-- THE SECOND FORM's CARD OF 'gladstonelaw01.TicketGreater'. -/
def ticketGreaterUptoCard : Claim7 := { stood := { row := ticketGreaterUptoRow, standIns := [], harness := (true, "45fd5351f7cd9735ddf4ba6d03521756ede6e6c5cc419d257d1792c40ead1f9e"), looks := true }, kinds := [], alts := [], goes := true, laidByText := true, laidKinds := [.handle], laidTests := true, laidLooks := .later }
def TicketGreaterUptoCardSaid : Prop := Claim7.holds Tryz.pinned (.plain (OpenSpec.upto ticketGreaterSpec)) ticketGreaterUptoCard

/-- THE SECOND FORM's CARD OF 'gladstonelaw01.TicketMixed'. -/
def ticketMixedUptoCard : Claim7 := { stood := { row := ticketMixedUptoRow, standIns := [], harness := (true, "45fd5351f7cd9735ddf4ba6d03521756ede6e6c5cc419d257d1792c40ead1f9e"), looks := true }, kinds := [], alts := [], goes := true, laidByText := true, laidKinds := [.handle], laidTests := true, laidLooks := .later }
def TicketMixedUptoCardSaid : Prop := Claim7.holds Tryz.pinned (.plain (OpenSpec.upto ticketMixedSpec)) ticketMixedUptoCard

/-- THE SECOND FORM's CARD OF 'gladstonelaw01.TicketTrue'. -/
def ticketTrueUptoCard : Claim7 := { stood := { row := ticketTrueUptoRow, standIns := [], harness := (true, "45fd5351f7cd9735ddf4ba6d03521756ede6e6c5cc419d257d1792c40ead1f9e"), looks := true }, kinds := [], alts := [], goes := true, laidByText := true, laidKinds := [.handle], laidTests := true, laidLooks := .later }
def TicketTrueUptoCardSaid : Prop := Claim7.holds Tryz.pinned (.plain (OpenSpec.upto ticketTrueSpec)) ticketTrueUptoCard

/-- THE SECOND FORM's CARD OF 'gladstonelaw01.TicketSteps'. -/
def ticketStepsUptoCard : Claim7 := { stood := { row := ticketStepsUptoRow, standIns := [], harness := (true, "45fd5351f7cd9735ddf4ba6d03521756ede6e6c5cc419d257d1792c40ead1f9e"), looks := true }, kinds := [], alts := [], goes := true, laidByText := true, laidKinds := [.handle], laidTests := true, laidLooks := .later }
def TicketStepsUptoCardSaid : Prop := Claim7.holds Tryz.pinned (.plain (OpenSpec.upto ticketStepsSpec)) ticketStepsUptoCard

/-- THE SECOND FORM's CARD OF 'gladstonelaw01.TicketOrder'. -/
def ticketOrderUptoCard : Claim7 := { stood := { row := ticketOrderUptoRow, standIns := [], harness := (true, "45fd5351f7cd9735ddf4ba6d03521756ede6e6c5cc419d257d1792c40ead1f9e"), looks := true }, kinds := [], alts := [], goes := true, laidByText := true, laidKinds := [.handle], laidTests := true, laidLooks := .later }
def TicketOrderUptoCardSaid : Prop := Claim7.holds Tryz.pinned (.plain (OpenSpec.upto ticketOrderSpec)) ticketOrderUptoCard

/-- THE SECOND FORM's CARD OF 'gladstonelaw01.TicketAll'. -/
def ticketAllUptoCard : Claim7 := { stood := { row := ticketAllUptoRow, standIns := [], harness := (true, "45fd5351f7cd9735ddf4ba6d03521756ede6e6c5cc419d257d1792c40ead1f9e"), looks := true }, kinds := [], alts := [], goes := true, laidByText := true, laidKinds := [.handle], laidTests := true, laidLooks := .later }
def TicketAllUptoCardSaid : Prop := Claim7.holds Tryz.pinned (.plain (OpenSpec.upto ticketAllSpec)) ticketAllUptoCard
end Rows
end Go.Proofs.YtkanpclgnhdbiaaGreatDoor
