/-
  DERIVED. GIVEN WITH THE SEED: THE CARDS: each row of YtanlbioodbnakaaGreatDoorRows.lean that lists a variable, with what it lists TIED to the program's text (the seventh form; the later family's looks); each row that meets fmt, with fmt's text TOLD by the authors' own Lean function (tested against real Go, not proved from fmt's source: count such statements apart). THE CARD IS WHAT COUNTS. Prove the row's statement (the work); the ties are given (YtanlbioodbnakaaGreatDoorTie.lean); close each card by the builder's one call (the guide's Derived/Test/ToyasCard.lean, 'card_holds'). Laid BY PROGRAM, IN A SANDBOX (cutbox-door.mjs). By AI agents, Wed Nov 11 2026. No macro, syntax, notation, axiom, sorry.
-/
import Derived.Test.YtanlbioodbnakaaGreatDoorRows
import GoSem.ClaimSeven
namespace Go.Proofs.YtanlbioodbnakaaGreatDoor
namespace Rows

/-- THE TIED CARD OF 'glosswrightlaw8.TransferTruth'. -/
def transferTruthCard : Claim7 := { stood := { row := transferTruthRow, standIns := [], harness := (true, "2367e742d01f498238ca53c0d3c4b02d5d8b744e8b6540d287a8b06680590ad9"), looks := false }, kinds := [], alts := [], laidByText := true, laidKinds := [.data, .data, .data], laidTests := true, laidLooks := .later }
def TransferTruthCardSaid : Prop := Claim7.holds Tryz.pinned (.plain (OpenSpec.ofChange transferTruthSpec)) transferTruthCard

/-- THE SECOND FORM's CARD OF 'glosswrightlaw8.TransferTruth'. -/
def transferTruthUptoCard : Claim7 := { stood := { row := transferTruthUptoRow, standIns := [], harness := (true, "2367e742d01f498238ca53c0d3c4b02d5d8b744e8b6540d287a8b06680590ad9"), looks := false }, kinds := [], alts := [], laidByText := true, laidKinds := [.data, .data, .data], laidTests := true, laidLooks := .later }
def TransferTruthUptoCardSaid : Prop := Claim7.holds Tryz.pinned (.plain (OpenSpec.upto transferTruthSpec)) transferTruthUptoCard
end Rows
end Go.Proofs.YtanlbioodbnakaaGreatDoor
