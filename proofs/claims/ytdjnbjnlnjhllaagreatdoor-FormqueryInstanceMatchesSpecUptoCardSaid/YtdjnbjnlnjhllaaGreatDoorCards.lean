/-
  DERIVED. GIVEN WITH THE SEED: THE CARDS: each row of YtdjnbjnlnjhllaaGreatDoorRows.lean that lists a variable, with what it lists TIED to the program's text (the seventh form; the later family's looks); each row that meets fmt, with fmt's text TOLD by the authors' own Lean function (tested against real Go, not proved from fmt's source: count such statements apart). THE CARD IS WHAT COUNTS. Prove the row's statement (the work); the ties are given (YtdjnbjnlnjhllaaGreatDoorTie.lean); close each card by the builder's one call (the guide's Derived/Test/ToyasCard.lean, 'card_holds'). Laid BY PROGRAM, IN A SANDBOX (cutbox-door.mjs). By AI agents, Wed Nov 11 2026. No macro, syntax, notation, axiom, sorry.
-/
import Derived.Test.YtdjnbjnlnjhllaaGreatDoorRows
import GoSem.ClaimSeven
namespace Go.Proofs.YtdjnbjnlnjhllaaGreatDoor
namespace Rows

/-- THE TIED CARD OF 'glosswrightlaw8.FormqueryMatchesSpec'. -/
def formqueryMatchesSpecCard : Claim7 := { stood := { row := formqueryMatchesSpecRow, standIns := [], harness := (true, "8f0fe2ba0abc33779df687e6151f0b0cac26620ea366b76130cb54de539a7646"), looks := false }, kinds := [], alts := [], laidByText := true, laidKinds := [.data, .data, .data], laidTests := true, laidLooks := .later }
def FormqueryMatchesSpecCardSaid : Prop := Claim7.holds Tryz.pinned (.plain (OpenSpec.ofChange formqueryMatchesSpecSpec)) formqueryMatchesSpecCard

/-- THE TIED CARD OF 'glosswrightlaw8.FormqueryInstanceMatchesSpec'. -/
def formqueryInstanceMatchesSpecCard : Claim7 := { stood := { row := formqueryInstanceMatchesSpecRow, standIns := [], harness := (true, "8f0fe2ba0abc33779df687e6151f0b0cac26620ea366b76130cb54de539a7646"), looks := false }, kinds := [], alts := [], laidByText := true, laidKinds := [.data, .data, .data], laidTests := true, laidLooks := .later }
def FormqueryInstanceMatchesSpecCardSaid : Prop := Claim7.holds Tryz.pinned (.plain (OpenSpec.ofChange formqueryInstanceMatchesSpecSpec)) formqueryInstanceMatchesSpecCard

/-- THE SECOND FORM's CARD OF 'glosswrightlaw8.FormqueryMatchesSpec'. -/
def formqueryMatchesSpecUptoCard : Claim7 := { stood := { row := formqueryMatchesSpecUptoRow, standIns := [], harness := (true, "8f0fe2ba0abc33779df687e6151f0b0cac26620ea366b76130cb54de539a7646"), looks := false }, kinds := [], alts := [], laidByText := true, laidKinds := [.data, .data, .data], laidTests := true, laidLooks := .later }
def FormqueryMatchesSpecUptoCardSaid : Prop := Claim7.holds Tryz.pinned (.plain (OpenSpec.upto formqueryMatchesSpecSpec)) formqueryMatchesSpecUptoCard

/-- THE SECOND FORM's CARD OF 'glosswrightlaw8.FormqueryInstanceMatchesSpec'. -/
def formqueryInstanceMatchesSpecUptoCard : Claim7 := { stood := { row := formqueryInstanceMatchesSpecUptoRow, standIns := [], harness := (true, "8f0fe2ba0abc33779df687e6151f0b0cac26620ea366b76130cb54de539a7646"), looks := false }, kinds := [], alts := [], laidByText := true, laidKinds := [.data, .data, .data], laidTests := true, laidLooks := .later }
def FormqueryInstanceMatchesSpecUptoCardSaid : Prop := Claim7.holds Tryz.pinned (.plain (OpenSpec.upto formqueryInstanceMatchesSpecSpec)) formqueryInstanceMatchesSpecUptoCard
end Rows
end Go.Proofs.YtdjnbjnlnjhllaaGreatDoor
