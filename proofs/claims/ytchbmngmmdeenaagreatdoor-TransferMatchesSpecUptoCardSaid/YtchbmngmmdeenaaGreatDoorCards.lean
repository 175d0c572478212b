/-
  DERIVED. GIVEN WITH THE SEED: THE CARDS: each row of YtchbmngmmdeenaaGreatDoorRows.lean that lists a variable, with what it lists TIED to the program's text (the seventh form; the later family's looks); each row that meets fmt, with fmt's text TOLD by the authors' own Lean function (tested against real Go, not proved from fmt's source: count such statements apart). THE CARD IS WHAT COUNTS. Prove the row's statement (the work); the ties are given (YtchbmngmmdeenaaGreatDoorTie.lean); close each card by the builder's one call (the guide's Derived/Test/ToyasCard.lean, 'card_holds'). Laid BY PROGRAM, IN A SANDBOX (cutbox-door.mjs). By AI agents, Wed Nov 11 2026. No macro, syntax, notation, axiom, sorry.
-/
import Derived.Test.YtchbmngmmdeenaaGreatDoorRows
import GoSem.ClaimSeven
namespace Go.Proofs.YtchbmngmmdeenaaGreatDoor
namespace Rows

/-- THE TIED CARD OF 'glosswrightlaw8.TransferMatchesSpec'. -/
def transferMatchesSpecCard : Claim7 := { stood := { row := transferMatchesSpecRow, standIns := [], harness := (true, "89375fef791406a2b65cd2f0c4522983edccf12f60c1e1ff28987b4e2474a58d"), looks := false }, kinds := [], alts := [], laidByText := true, laidKinds := [.data, .data, .data], laidTests := true, laidLooks := .later }
def TransferMatchesSpecCardSaid : Prop := Claim7.holds Tryz.pinned (.plain (OpenSpec.ofChange transferMatchesSpecSpec)) transferMatchesSpecCard

/-- THE SECOND FORM's CARD OF 'glosswrightlaw8.TransferMatchesSpec'. -/
def transferMatchesSpecUptoCard : Claim7 := { stood := { row := transferMatchesSpecUptoRow, standIns := [], harness := (true, "89375fef791406a2b65cd2f0c4522983edccf12f60c1e1ff28987b4e2474a58d"), looks := false }, kinds := [], alts := [], laidByText := true, laidKinds := [.data, .data, .data], laidTests := true, laidLooks := .later }
def TransferMatchesSpecUptoCardSaid : Prop := Claim7.holds Tryz.pinned (.plain (OpenSpec.upto transferMatchesSpecSpec)) transferMatchesSpecUptoCard
end Rows
end Go.Proofs.YtchbmngmmdeenaaGreatDoor
