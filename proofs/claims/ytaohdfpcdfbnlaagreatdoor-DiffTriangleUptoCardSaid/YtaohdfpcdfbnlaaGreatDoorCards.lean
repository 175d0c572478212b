/-
  DERIVED. GIVEN WITH THE SEED: THE CARDS: each row of YtaohdfpcdfbnlaaGreatDoorRows.lean that lists a variable, with what it lists TIED to the program's text (the seventh form; the later family's looks); each row that meets fmt, with fmt's text TOLD by the authors' own Lean function (tested against real Go, not proved from fmt's source: count such statements apart). THE CARD IS WHAT COUNTS. Prove the row's statement (the work); the ties are given (YtaohdfpcdfbnlaaGreatDoorTie.lean); close each card by the builder's one call (the guide's Derived/Test/ToyasCard.lean, 'card_holds'). Laid BY PROGRAM, IN A SANDBOX (cutbox-door.mjs). By AI agents, Wed Nov 11 2026. No macro, syntax, notation, axiom, sorry.
-/
import Derived.Test.YtaohdfpcdfbnlaaGreatDoorRows
import GoSem.ClaimSeven
namespace Go.Proofs.YtaohdfpcdfbnlaaGreatDoor
namespace Rows

/-- THE TIED CARD OF 'glosswrightlaw8.DiffBackwards'. -/
def diffBackwardsCard : Claim7 := { stood := { row := diffBackwardsRow, standIns := [], harness := (true, "f6e157862f39ef88fcaff1f39ad463439c2141e36547d38cf3759125695b9b10"), looks := false }, kinds := [], alts := [], laidByText := true, laidKinds := [.data, .data, .pinned], laidTests := true, laidLooks := .later }
def DiffBackwardsCardSaid : Prop := Claim7.holds Tryz.pinned (.plain (OpenSpec.ofChange diffBackwardsSpec)) diffBackwardsCard

/-- THE TIED CARD OF 'glosswrightlaw8.DiffTriangle'. -/
def diffTriangleCard : Claim7 := { stood := { row := diffTriangleRow, standIns := [], harness := (true, "f6e157862f39ef88fcaff1f39ad463439c2141e36547d38cf3759125695b9b10"), looks := false }, kinds := [], alts := [], laidByText := true, laidKinds := [.data, .data, .pinned], laidTests := true, laidLooks := .later }
def DiffTriangleCardSaid : Prop := Claim7.holds Tryz.pinned (.plain (OpenSpec.ofChange diffTriangleSpec)) diffTriangleCard

/-- THE SECOND FORM's CARD OF 'glosswrightlaw8.DiffBackwards'. -/
def diffBackwardsUptoCard : Claim7 := { stood := { row := diffBackwardsUptoRow, standIns := [], harness := (true, "f6e157862f39ef88fcaff1f39ad463439c2141e36547d38cf3759125695b9b10"), looks := false }, kinds := [], alts := [], laidByText := true, laidKinds := [.data, .data, .pinned], laidTests := true, laidLooks := .later }
def DiffBackwardsUptoCardSaid : Prop := Claim7.holds Tryz.pinned (.plain (OpenSpec.upto diffBackwardsSpec)) diffBackwardsUptoCard

/-- THE SECOND FORM's CARD OF 'glosswrightlaw8.DiffTriangle'. -/
def diffTriangleUptoCard : Claim7 := { stood := { row := diffTriangleUptoRow, standIns := [], harness := (true, "f6e157862f39ef88fcaff1f39ad463439c2141e36547d38cf3759125695b9b10"), looks := false }, kinds := [], alts := [], laidByText := true, laidKinds := [.data, .data, .pinned], laidTests := true, laidLooks := .later }
def DiffTriangleUptoCardSaid : Prop := Claim7.holds Tryz.pinned (.plain (OpenSpec.upto diffTriangleSpec)) diffTriangleUptoCard
end Rows
end Go.Proofs.YtaohdfpcdfbnlaaGreatDoor
