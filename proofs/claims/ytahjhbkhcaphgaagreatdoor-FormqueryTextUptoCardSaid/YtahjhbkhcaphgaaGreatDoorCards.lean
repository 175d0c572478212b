/-
  DERIVED. GIVEN WITH THE SEED: THE CARDS: each row of YtahjhbkhcaphgaaGreatDoorRows.lean that lists a variable, with what it lists TIED to the program's text (the seventh form; the later family's looks); each row that meets fmt, with fmt's text TOLD by the authors' own Lean function (tested against real Go, not proved from fmt's source: count such statements apart). THE CARD IS WHAT COUNTS. Prove the row's statement (the work); the ties are given (YtahjhbkhcaphgaaGreatDoorTie.lean); close each card by the builder's one call (the guide's Derived/Test/ToyasCard.lean, 'card_holds'). Laid BY PROGRAM, IN A SANDBOX (cutbox-door.mjs). By AI agents, Wed Nov 11 2026. No macro, syntax, notation, axiom, sorry.
-/
import Derived.Test.YtahjhbkhcaphgaaGreatDoorRows
import GoSem.ClaimSeven
namespace Go.Proofs.YtahjhbkhcaphgaaGreatDoor
namespace Rows

/-- THE TIED CARD OF 'glosswrightlaw8.FormqueryText'. -/
def formqueryTextCard : Claim7 := { stood := { row := formqueryTextRow, standIns := [], harness := (true, "cb4e5c8f140c7ea3531cff279aa9e9d1f72d928f60e88f230f9a51dab4cbf793"), looks := false }, kinds := [], alts := [], laidByText := true, laidKinds := [.data, .data, .data, .data, .pinned], laidTests := true, laidLooks := .later }
def FormqueryTextCardSaid : Prop := Claim7.holds Tryz.pinned (.plain (OpenSpec.ofChange formqueryTextSpec)) formqueryTextCard

/-- THE SECOND FORM's CARD OF 'glosswrightlaw8.FormqueryText'. -/
def formqueryTextUptoCard : Claim7 := { stood := { row := formqueryTextUptoRow, standIns := [], harness := (true, "cb4e5c8f140c7ea3531cff279aa9e9d1f72d928f60e88f230f9a51dab4cbf793"), looks := false }, kinds := [], alts := [], laidByText := true, laidKinds := [.data, .data, .data, .data, .pinned], laidTests := true, laidLooks := .later }
def FormqueryTextUptoCardSaid : Prop := Claim7.holds Tryz.pinned (.plain (OpenSpec.upto formqueryTextSpec)) formqueryTextUptoCard
end Rows
end Go.Proofs.YtahjhbkhcaphgaaGreatDoor
