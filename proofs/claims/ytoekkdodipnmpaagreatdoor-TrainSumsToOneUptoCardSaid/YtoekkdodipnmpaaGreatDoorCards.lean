/-
  DERIVED. GIVEN WITH THE SEED: THE CARDS: each row of YtoekkdodipnmpaaGreatDoorRows.lean that lists a variable, with what it lists TIED to the program's text (the seventh form; the later family's looks); each row that meets fmt, with fmt's text TOLD by the authors' own Lean function (tested against real Go, not proved from fmt's source: count such statements apart). THE CARD IS WHAT COUNTS. Prove the row's statement (the work); the ties are given (YtoekkdodipnmpaaGreatDoorTie.lean); close each card by the builder's one call (the guide's Derived/Test/ToyasCard.lean, 'card_holds'). Laid BY PROGRAM, IN A SANDBOX (cutbox-door.mjs). By AI agents, Wed Nov 11 2026. No macro, syntax, notation, axiom, sorry.
-/
import Derived.Test.YtoekkdodipnmpaaGreatDoorRows
import GoSem.ClaimSeven
namespace Go.Proofs.YtoekkdodipnmpaaGreatDoor
namespace Rows

/-- THE TIED CARD OF 'glosswrightlaw8.TrainSumsToOne'. -/
def trainSumsToOneCard : Claim7 := { stood := { row := trainSumsToOneRow, standIns := [], harness := (true, "18a1c8c2a67f04ae685209aae3aa7f3bf1e50dbb0a45451920694af5a1912645"), looks := false }, kinds := [], alts := [], laidByText := true, laidKinds := [.data, .data, .pinned], laidTests := true, laidLooks := .later }
def TrainSumsToOneCardSaid : Prop := Claim7.holds Tryz.pinned (.plain (OpenSpec.ofChange trainSumsToOneSpec)) trainSumsToOneCard

/-- THE SECOND FORM's CARD OF 'glosswrightlaw8.TrainSumsToOne'. -/
def trainSumsToOneUptoCard : Claim7 := { stood := { row := trainSumsToOneUptoRow, standIns := [], harness := (true, "18a1c8c2a67f04ae685209aae3aa7f3bf1e50dbb0a45451920694af5a1912645"), looks := false }, kinds := [], alts := [], laidByText := true, laidKinds := [.data, .data, .pinned], laidTests := true, laidLooks := .later }
def TrainSumsToOneUptoCardSaid : Prop := Claim7.holds Tryz.pinned (.plain (OpenSpec.upto trainSumsToOneSpec)) trainSumsToOneUptoCard
end Rows
end Go.Proofs.YtoekkdodipnmpaaGreatDoor
