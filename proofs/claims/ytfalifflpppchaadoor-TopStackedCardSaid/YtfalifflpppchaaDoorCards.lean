/-
  DERIVED. GIVEN WITH THE SEED: THE CARDS: each row of YtfalifflpppchaaDoorRows.lean that lists a variable, with what it lists TIED to the program's text (the seventh form; the later family's looks); each row that meets fmt, with fmt's text TOLD by the authors' own Lean function (tested against real Go, not proved from fmt's source: count such statements apart). THE CARD IS WHAT COUNTS. Prove the row's statement (the work); the ties are given (YtfalifflpppchaaDoorTie.lean); close each card by the builder's one call (the guide's Derived/Test/ToyasCard.lean, 'card_holds'). Laid BY PROGRAM, IN A SANDBOX (cutbox-door.mjs). By AI agents, Wed Nov 11 2026. No macro, syntax, notation, axiom, sorry.
-/
import Derived.Test.YtfalifflpppchaaDoorRows
import GoSem.ClaimSeven
namespace Go.Proofs.YtfalifflpppchaaDoor
namespace Rows

/-- THE TIED CARD OF 'gladstonetop.TopStacked'. -/
def topStackedCard : Claim7 := { stood := { row := topStackedRow, standIns := [], harness := (true, "043d345693702ec21ec9691f691cd0c64b60d60742a99f30dfb89815045077bd"), looks := true }, kinds := [], alts := [], laidByText := true, laidKinds := [.handle], laidTests := true, laidLooks := .later }
def TopStackedCardSaid : Prop := Claim7.holds Tryd.pinned (.plain (OpenSpec.ofChange topStackedSpec)) topStackedCard

/-- THE SECOND FORM's CARD OF 'gladstonetop.TopStacked'. -/
def topStackedUptoCard : Claim7 := { stood := { row := topStackedUptoRow, standIns := [], harness := (true, "043d345693702ec21ec9691f691cd0c64b60d60742a99f30dfb89815045077bd"), looks := true }, kinds := [], alts := [], laidByText := true, laidKinds := [.handle], laidTests := true, laidLooks := .later }
def TopStackedUptoCardSaid : Prop := Claim7.holds Tryd.pinned (.plain (OpenSpec.upto topStackedSpec)) topStackedUptoCard
end Rows
end Go.Proofs.YtfalifflpppchaaDoor
