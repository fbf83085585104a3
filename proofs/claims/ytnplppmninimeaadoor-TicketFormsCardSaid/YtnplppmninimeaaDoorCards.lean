/-
  DERIVED. GIVEN WITH THE SEED: THE CARDS: each row of YtnplppmninimeaaDoorRows.lean that lists a variable, with what it lists TIED to the program's text (the seventh form; the later family's looks); each row that meets fmt, with fmt's text TOLD by the authors' own Lean function (tested against real Go, not proved from fmt's source: count such statements apart). THE CARD IS WHAT COUNTS. Prove the row's statement (the work); the ties are given (YtnplppmninimeaaDoorTie.lean); close each card by the builder's one call (the guide's Derived/Test/ToyasCard.lean, 'card_holds'). Laid BY PROGRAM, IN A SANDBOX (cutbox-door.mjs). By AI agents, Wed Nov 11 2026. No macro, syntax, notation, axiom, sorry.
-/
import Derived.Test.YtnplppmninimeaaDoorRows
import GoSem.ClaimSeven
namespace Go.Proofs.YtnplppmninimeaaDoor
namespace Rows

/-- THE TIED CARD OF 'halberdlaw20.Tickets'. -/
def ticketsCard : Claim7 := { stood := { row := ticketsRow, standIns := [], harness := (true, "7cad67e7da9b23144ad9a3ef2bb70e63b369c58090d9f8e9a378f888192f9713"), looks := true }, kinds := [], alts := [], laidByText := true, laidKinds := [.handle], laidTests := true, laidLooks := .later }
def TicketsCardSaid : Prop := Claim7.holds Tryd.pinned (.plain (OpenSpec.ofChange ticketsSpec)) ticketsCard

/-- THE TIED CARD OF 'halberdlaw20.TicketBack'. -/
def ticketBackCard : Claim7 := { stood := { row := ticketBackRow, standIns := [], harness := (true, "7cad67e7da9b23144ad9a3ef2bb70e63b369c58090d9f8e9a378f888192f9713"), looks := true }, kinds := [], alts := [], laidByText := true, laidKinds := [.handle], laidTests := true, laidLooks := .later }
def TicketBackCardSaid : Prop := Claim7.holds Tryd.pinned (.plain (OpenSpec.ofChange ticketBackSpec)) ticketBackCard

/-- THE TIED CARD OF 'halberdlaw20.TicketForms'. -/
def ticketFormsCard : Claim7 := { stood := { row := ticketFormsRow, standIns := [], harness := (true, "7cad67e7da9b23144ad9a3ef2bb70e63b369c58090d9f8e9a378f888192f9713"), looks := true }, kinds := [], alts := [], laidByText := true, laidKinds := [.handle], laidTests := true, laidLooks := .later }
def TicketFormsCardSaid : Prop := Claim7.holds Tryd.pinned (.plain (OpenSpec.ofChange ticketFormsSpec)) ticketFormsCard

/-- THE TIED CARD OF 'halberdlaw20.TicketParts'. -/
def ticketPartsCard : Claim7 := { stood := { row := ticketPartsRow, standIns := [], harness := (true, "7cad67e7da9b23144ad9a3ef2bb70e63b369c58090d9f8e9a378f888192f9713"), looks := true }, kinds := [], alts := [], laidByText := true, laidKinds := [.handle], laidTests := true, laidLooks := .later }
def TicketPartsCardSaid : Prop := Claim7.holds Tryd.pinned (.plain (OpenSpec.ofChange ticketPartsSpec)) ticketPartsCard

/-- THE SECOND FORM's CARD OF 'halberdlaw20.Tickets'. -/
def ticketsUptoCard : Claim7 := { stood := { row := ticketsUptoRow, standIns := [], harness := (true, "7cad67e7da9b23144ad9a3ef2bb70e63b369c58090d9f8e9a378f888192f9713"), looks := true }, kinds := [], alts := [], laidByText := true, laidKinds := [.handle], laidTests := true, laidLooks := .later }
def TicketsUptoCardSaid : Prop := Claim7.holds Tryd.pinned (.plain (OpenSpec.upto ticketsSpec)) ticketsUptoCard

/-- THE SECOND FORM's CARD OF 'halberdlaw20.TicketBack'. -/
def ticketBackUptoCard : Claim7 := { stood := { row := ticketBackUptoRow, standIns := [], harness := (true, "7cad67e7da9b23144ad9a3ef2bb70e63b369c58090d9f8e9a378f888192f9713"), looks := true }, kinds := [], alts := [], laidByText := true, laidKinds := [.handle], laidTests := true, laidLooks := .later }
def TicketBackUptoCardSaid : Prop := Claim7.holds Tryd.pinned (.plain (OpenSpec.upto ticketBackSpec)) ticketBackUptoCard

/-- THE SECOND FORM's CARD OF 'halberdlaw20.TicketForms'. -/
def ticketFormsUptoCard : Claim7 := { stood := { row := ticketFormsUptoRow, standIns := [], harness := (true, "7cad67e7da9b23144ad9a3ef2bb70e63b369c58090d9f8e9a378f888192f9713"), looks := true }, kinds := [], alts := [], laidByText := true, laidKinds := [.handle], laidTests := true, laidLooks := .later }
def TicketFormsUptoCardSaid : Prop := Claim7.holds Tryd.pinned (.plain (OpenSpec.upto ticketFormsSpec)) ticketFormsUptoCard

/-- THE SECOND FORM's CARD OF 'halberdlaw20.TicketParts'. -/
def ticketPartsUptoCard : Claim7 := { stood := { row := ticketPartsUptoRow, standIns := [], harness := (true, "7cad67e7da9b23144ad9a3ef2bb70e63b369c58090d9f8e9a378f888192f9713"), looks := true }, kinds := [], alts := [], laidByText := true, laidKinds := [.handle], laidTests := true, laidLooks := .later }
def TicketPartsUptoCardSaid : Prop := Claim7.holds Tryd.pinned (.plain (OpenSpec.upto ticketPartsSpec)) ticketPartsUptoCard
end Rows
end Go.Proofs.YtnplppmninimeaaDoor
