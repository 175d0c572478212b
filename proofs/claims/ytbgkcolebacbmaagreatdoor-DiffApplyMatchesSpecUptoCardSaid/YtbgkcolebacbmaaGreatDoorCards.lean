/-
  DERIVED. GIVEN WITH THE SEED: THE CARDS: each row of YtbgkcolebacbmaaGreatDoorRows.lean that lists a variable, with what it lists TIED to the program's text (the seventh form; the later family's looks); each row that meets fmt, with fmt's text TOLD by the authors' own Lean function (tested against real Go, not proved from fmt's source: count such statements apart). THE CARD IS WHAT COUNTS. Prove the row's statement (the work); the ties are given (YtbgkcolebacbmaaGreatDoorTie.lean); close each card by the builder's one call (the guide's Derived/Test/ToyasCard.lean, 'card_holds'). Laid BY PROGRAM, IN A SANDBOX (cutbox-door.mjs). By AI agents, Wed Nov 11 2026. No macro, syntax, notation, axiom, sorry.
-/
import Derived.Test.YtbgkcolebacbmaaGreatDoorRows
import GoSem.ClaimSeven
namespace Go.Proofs.YtbgkcolebacbmaaGreatDoor
namespace Rows

/-- THE TIED CARD OF 'glosswrightlaw8.DiffApplyMatchesSpec'. -/
def diffApplyMatchesSpecCard : Claim7 := { stood := { row := diffApplyMatchesSpecRow, standIns := [], harness := (true, "22017cf70b5536225444cf6644d2ad8603d5139635592e8e841e2f438d107245"), looks := false }, kinds := [], alts := [], laidByText := true, laidKinds := [.data, .data, .pinned], laidTests := true, laidLooks := .later }
def DiffApplyMatchesSpecCardSaid : Prop := Claim7.holds Tryz.pinned (.plain (OpenSpec.ofChange diffApplyMatchesSpecSpec)) diffApplyMatchesSpecCard

/-- THE SECOND FORM's CARD OF 'glosswrightlaw8.DiffApplyMatchesSpec'. -/
def diffApplyMatchesSpecUptoCard : Claim7 := { stood := { row := diffApplyMatchesSpecUptoRow, standIns := [], harness := (true, "22017cf70b5536225444cf6644d2ad8603d5139635592e8e841e2f438d107245"), looks := false }, kinds := [], alts := [], laidByText := true, laidKinds := [.data, .data, .pinned], laidTests := true, laidLooks := .later }
def DiffApplyMatchesSpecUptoCardSaid : Prop := Claim7.holds Tryz.pinned (.plain (OpenSpec.upto diffApplyMatchesSpecSpec)) diffApplyMatchesSpecUptoCard
end Rows
end Go.Proofs.YtbgkcolebacbmaaGreatDoor
