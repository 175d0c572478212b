/-
  DERIVED. GIVEN WITH THE SEED: THE CARDS: each row of YtonfgoanbllceaaGreatDoorRows.lean that lists a variable, with what it lists TIED to the program's text (the seventh form; the later family's looks); each row that meets fmt, with fmt's text TOLD by the authors' own Lean function (tested against real Go, not proved from fmt's source: count such statements apart). THE CARD IS WHAT COUNTS. Prove the row's statement (the work); the ties are given (YtonfgoanbllceaaGreatDoorTie.lean); close each card by the builder's one call (the guide's Derived/Test/ToyasCard.lean, 'card_holds'). Laid BY PROGRAM, IN A SANDBOX (cutbox-door.mjs). By AI agents, Wed Nov 11 2026. No macro, syntax, notation, axiom, sorry.
-/
import Derived.Test.YtonfgoanbllceaaGreatDoorRows
import GoSem.ClaimSeven
namespace Go.Proofs.YtonfgoanbllceaaGreatDoor
namespace Rows

/-- THE TIED CARD OF 'glosswrightlaw8.DiffApplied'. -/
def diffAppliedCard : Claim7 := { stood := { row := diffAppliedRow, standIns := [], harness := (true, "41e1448b6e7961227404b3f0a01942b89b45d9a57cf6821691c04ea98cd22558"), looks := false }, kinds := [], alts := [], laidByText := true, laidKinds := [.data, .data, .pinned], laidTests := true, laidLooks := .later }
def DiffAppliedCardSaid : Prop := Claim7.holds Tryz.pinned (.plain (OpenSpec.ofChange diffAppliedSpec)) diffAppliedCard

/-- THE SECOND FORM's CARD OF 'glosswrightlaw8.DiffApplied'. -/
def diffAppliedUptoCard : Claim7 := { stood := { row := diffAppliedUptoRow, standIns := [], harness := (true, "41e1448b6e7961227404b3f0a01942b89b45d9a57cf6821691c04ea98cd22558"), looks := false }, kinds := [], alts := [], laidByText := true, laidKinds := [.data, .data, .pinned], laidTests := true, laidLooks := .later }
def DiffAppliedUptoCardSaid : Prop := Claim7.holds Tryz.pinned (.plain (OpenSpec.upto diffAppliedSpec)) diffAppliedUptoCard
end Rows
end Go.Proofs.YtonfgoanbllceaaGreatDoor
