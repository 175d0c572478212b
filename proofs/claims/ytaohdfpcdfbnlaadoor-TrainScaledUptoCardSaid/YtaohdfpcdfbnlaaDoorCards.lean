/-
  DERIVED. GIVEN WITH THE SEED: THE CARDS: each row of YtaohdfpcdfbnlaaDoorRows.lean that lists a variable, with what it lists TIED to the program's text (the seventh form; the later family's looks); each row that meets fmt, with fmt's text TOLD by the authors' own Lean function (tested against real Go, not proved from fmt's source: count such statements apart). THE CARD IS WHAT COUNTS. Prove the row's statement (the work); the ties are given (YtaohdfpcdfbnlaaDoorTie.lean); close each card by the builder's one call (the guide's Derived/Test/ToyasCard.lean, 'card_holds'). Laid BY PROGRAM, IN A SANDBOX (cutbox-door.mjs). By AI agents, Wed Nov 11 2026. No macro, syntax, notation, axiom, sorry.
-/
import Derived.Test.YtaohdfpcdfbnlaaDoorRows
import GoSem.ClaimSeven
namespace Go.Proofs.YtaohdfpcdfbnlaaDoor
namespace Rows

/-- THE TIED CARD OF 'glosswrightlaw8.TrainCountsAddUp'. -/
def trainCountsAddUpCard : Claim7 := { stood := { row := trainCountsAddUpRow, standIns := [], harness := (true, "43dc04707c293d063725038a3db7c13acf655e7fe722baf9cc04457cdad6c340"), looks := false }, kinds := [], alts := [], laidByText := true, laidKinds := [.data, .data, .pinned], laidTests := true, laidLooks := .later }
def TrainCountsAddUpCardSaid : Prop := Claim7.holds Tryd.pinned (.plain (OpenSpec.ofChange trainCountsAddUpSpec)) trainCountsAddUpCard

/-- THE TIED CARD OF 'glosswrightlaw8.TrainScaled'. -/
def trainScaledCard : Claim7 := { stood := { row := trainScaledRow, standIns := [], harness := (true, "43dc04707c293d063725038a3db7c13acf655e7fe722baf9cc04457cdad6c340"), looks := false }, kinds := [], alts := [], laidByText := true, laidKinds := [.data, .data, .pinned], laidTests := true, laidLooks := .later }
def TrainScaledCardSaid : Prop := Claim7.holds Tryd.pinned (.plain (OpenSpec.ofChange trainScaledSpec)) trainScaledCard

/-- THE SECOND FORM's CARD OF 'glosswrightlaw8.TrainCountsAddUp'. -/
def trainCountsAddUpUptoCard : Claim7 := { stood := { row := trainCountsAddUpUptoRow, standIns := [], harness := (true, "43dc04707c293d063725038a3db7c13acf655e7fe722baf9cc04457cdad6c340"), looks := false }, kinds := [], alts := [], laidByText := true, laidKinds := [.data, .data, .pinned], laidTests := true, laidLooks := .later }
def TrainCountsAddUpUptoCardSaid : Prop := Claim7.holds Tryd.pinned (.plain (OpenSpec.upto trainCountsAddUpSpec)) trainCountsAddUpUptoCard

/-- THE SECOND FORM's CARD OF 'glosswrightlaw8.TrainScaled'. -/
def trainScaledUptoCard : Claim7 := { stood := { row := trainScaledUptoRow, standIns := [], harness := (true, "43dc04707c293d063725038a3db7c13acf655e7fe722baf9cc04457cdad6c340"), looks := false }, kinds := [], alts := [], laidByText := true, laidKinds := [.data, .data, .pinned], laidTests := true, laidLooks := .later }
def TrainScaledUptoCardSaid : Prop := Claim7.holds Tryd.pinned (.plain (OpenSpec.upto trainScaledSpec)) trainScaledUptoCard
end Rows
end Go.Proofs.YtaohdfpcdfbnlaaDoor
