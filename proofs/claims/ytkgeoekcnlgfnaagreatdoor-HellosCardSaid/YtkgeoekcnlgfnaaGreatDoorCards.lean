/-
  DERIVED. GIVEN WITH THE SEED: THE CARDS: each row of YtkgeoekcnlgfnaaGreatDoorRows.lean that lists a variable, with what it lists TIED to the program's text (the seventh form; the later family's looks); each row that meets fmt, with fmt's text TOLD by the authors' own Lean function (tested against real Go, not proved from fmt's source: count such statements apart). THE CARD IS WHAT COUNTS. Prove the row's statement (the work); the ties are given (YtkgeoekcnlgfnaaGreatDoorTie.lean); close each card by the builder's one call (the guide's Derived/Test/ToyasCard.lean, 'card_holds'). Laid BY PROGRAM, IN A SANDBOX (cutbox-door.mjs). By AI agents, Wed Nov 11 2026. No macro, syntax, notation, axiom, sorry.
-/
import Derived.Test.YtkgeoekcnlgfnaaGreatDoorRows
import GoSem.ClaimSeven
namespace Go.Proofs.YtkgeoekcnlgfnaaGreatDoor
namespace Rows

/-- THE TIED CARD OF 'halberdlaw24.Hellos'. -/
def hellosCard : Claim7 := { stood := { row := hellosRow, standIns := [], harness := (true, "98c844c516d5046596e42d8125769fe559090e0ccbfaa4a5c9981484cd27b4df"), looks := true }, kinds := [], alts := [], laidByText := true, laidKinds := [.handle], laidTests := true, laidLooks := .later }
def HellosCardSaid : Prop := Claim7.holds Tryz.pinned (.plain (OpenSpec.ofChange hellosSpec)) hellosCard

/-- THE TIED CARD OF 'halberdlaw24.HelloChosen'. -/
def helloChosenCard : Claim7 := { stood := { row := helloChosenRow, standIns := [], harness := (true, "98c844c516d5046596e42d8125769fe559090e0ccbfaa4a5c9981484cd27b4df"), looks := true }, kinds := [], alts := [], laidByText := true, laidKinds := [.handle], laidTests := true, laidLooks := .later }
def HelloChosenCardSaid : Prop := Claim7.holds Tryz.pinned (.plain (OpenSpec.ofChange helloChosenSpec)) helloChosenCard

/-- THE TIED CARD OF 'halberdlaw24.HelloForms'. -/
def helloFormsCard : Claim7 := { stood := { row := helloFormsRow, standIns := [], harness := (true, "98c844c516d5046596e42d8125769fe559090e0ccbfaa4a5c9981484cd27b4df"), looks := true }, kinds := [], alts := [], laidByText := true, laidKinds := [.handle], laidTests := true, laidLooks := .later }
def HelloFormsCardSaid : Prop := Claim7.holds Tryz.pinned (.plain (OpenSpec.ofChange helloFormsSpec)) helloFormsCard

/-- THE TIED CARD OF 'halberdlaw24.HelloAges'. -/
def helloAgesCard : Claim7 := { stood := { row := helloAgesRow, standIns := [], harness := (true, "98c844c516d5046596e42d8125769fe559090e0ccbfaa4a5c9981484cd27b4df"), looks := true }, kinds := [], alts := [], laidByText := true, laidKinds := [.handle], laidTests := true, laidLooks := .later }
def HelloAgesCardSaid : Prop := Claim7.holds Tryz.pinned (.plain (OpenSpec.ofChange helloAgesSpec)) helloAgesCard

/-- THE TIED CARD OF 'halberdlaw24.HelloOrder'. -/
def helloOrderCard : Claim7 := { stood := { row := helloOrderRow, standIns := [], harness := (true, "98c844c516d5046596e42d8125769fe559090e0ccbfaa4a5c9981484cd27b4df"), looks := true }, kinds := [], alts := [], laidByText := true, laidKinds := [.handle], laidTests := true, laidLooks := .later }
def HelloOrderCardSaid : Prop := Claim7.holds Tryz.pinned (.plain (OpenSpec.ofChange helloOrderSpec)) helloOrderCard

/-- THE TIED CARD OF 'halberdlaw24.HelloRetries'. -/
def helloRetriesCard : Claim7 := { stood := { row := helloRetriesRow, standIns := [], harness := (true, "98c844c516d5046596e42d8125769fe559090e0ccbfaa4a5c9981484cd27b4df"), looks := true }, kinds := [], alts := [], laidByText := true, laidKinds := [.handle], laidTests := true, laidLooks := .later }
def HelloRetriesCardSaid : Prop := Claim7.holds Tryz.pinned (.plain (OpenSpec.ofChange helloRetriesSpec)) helloRetriesCard

/-- THE TIED CARD OF 'halberdlaw24.HelloPsks'. -/
def helloPsksCard : Claim7 := { stood := { row := helloPsksRow, standIns := [], harness := (true, "98c844c516d5046596e42d8125769fe559090e0ccbfaa4a5c9981484cd27b4df"), looks := true }, kinds := [], alts := [], laidByText := true, laidKinds := [.handle], laidTests := true, laidLooks := .later }
def HelloPsksCardSaid : Prop := Claim7.holds Tryz.pinned (.plain (OpenSpec.ofChange helloPsksSpec)) helloPsksCard

/-- THE SECOND FORM's CARD OF 'halberdlaw24.Hellos'. -/
def hellosUptoCard : Claim7 := { stood := { row := hellosUptoRow, standIns := [], harness := (true, "98c844c516d5046596e42d8125769fe559090e0ccbfaa4a5c9981484cd27b4df"), looks := true }, kinds := [], alts := [], laidByText := true, laidKinds := [.handle], laidTests := true, laidLooks := .later }
def HellosUptoCardSaid : Prop := Claim7.holds Tryz.pinned (.plain (OpenSpec.upto hellosSpec)) hellosUptoCard

/-- THE SECOND FORM's CARD OF 'halberdlaw24.HelloChosen'. -/
def helloChosenUptoCard : Claim7 := { stood := { row := helloChosenUptoRow, standIns := [], harness := (true, "98c844c516d5046596e42d8125769fe559090e0ccbfaa4a5c9981484cd27b4df"), looks := true }, kinds := [], alts := [], laidByText := true, laidKinds := [.handle], laidTests := true, laidLooks := .later }
def HelloChosenUptoCardSaid : Prop := Claim7.holds Tryz.pinned (.plain (OpenSpec.upto helloChosenSpec)) helloChosenUptoCard

/-- THE SECOND FORM's CARD OF 'halberdlaw24.HelloForms'. -/
def helloFormsUptoCard : Claim7 := { stood := { row := helloFormsUptoRow, standIns := [], harness := (true, "98c844c516d5046596e42d8125769fe559090e0ccbfaa4a5c9981484cd27b4df"), looks := true }, kinds := [], alts := [], laidByText := true, laidKinds := [.handle], laidTests := true, laidLooks := .later }
def HelloFormsUptoCardSaid : Prop := Claim7.holds Tryz.pinned (.plain (OpenSpec.upto helloFormsSpec)) helloFormsUptoCard

/-- THE SECOND FORM's CARD OF 'halberdlaw24.HelloAges'. -/
def helloAgesUptoCard : Claim7 := { stood := { row := helloAgesUptoRow, standIns := [], harness := (true, "98c844c516d5046596e42d8125769fe559090e0ccbfaa4a5c9981484cd27b4df"), looks := true }, kinds := [], alts := [], laidByText := true, laidKinds := [.handle], laidTests := true, laidLooks := .later }
def HelloAgesUptoCardSaid : Prop := Claim7.holds Tryz.pinned (.plain (OpenSpec.upto helloAgesSpec)) helloAgesUptoCard

/-- THE SECOND FORM's CARD OF 'halberdlaw24.HelloOrder'. -/
def helloOrderUptoCard : Claim7 := { stood := { row := helloOrderUptoRow, standIns := [], harness := (true, "98c844c516d5046596e42d8125769fe559090e0ccbfaa4a5c9981484cd27b4df"), looks := true }, kinds := [], alts := [], laidByText := true, laidKinds := [.handle], laidTests := true, laidLooks := .later }
def HelloOrderUptoCardSaid : Prop := Claim7.holds Tryz.pinned (.plain (OpenSpec.upto helloOrderSpec)) helloOrderUptoCard

/-- THE SECOND FORM's CARD OF 'halberdlaw24.HelloRetries'. -/
def helloRetriesUptoCard : Claim7 := { stood := { row := helloRetriesUptoRow, standIns := [], harness := (true, "98c844c516d5046596e42d8125769fe559090e0ccbfaa4a5c9981484cd27b4df"), looks := true }, kinds := [], alts := [], laidByText := true, laidKinds := [.handle], laidTests := true, laidLooks := .later }
def HelloRetriesUptoCardSaid : Prop := Claim7.holds Tryz.pinned (.plain (OpenSpec.upto helloRetriesSpec)) helloRetriesUptoCard

/-- THE SECOND FORM's CARD OF 'halberdlaw24.HelloPsks'. -/
def helloPsksUptoCard : Claim7 := { stood := { row := helloPsksUptoRow, standIns := [], harness := (true, "98c844c516d5046596e42d8125769fe559090e0ccbfaa4a5c9981484cd27b4df"), looks := true }, kinds := [], alts := [], laidByText := true, laidKinds := [.handle], laidTests := true, laidLooks := .later }
def HelloPsksUptoCardSaid : Prop := Claim7.holds Tryz.pinned (.plain (OpenSpec.upto helloPsksSpec)) helloPsksUptoCard
end Rows
end Go.Proofs.YtkgeoekcnlgfnaaGreatDoor
