/-
  DERIVED. GIVEN WITH THE SEED: THE CARDS: each row of YtgaeiccgdpnkkaaGreatDoorRows.lean that lists a variable, with what it lists TIED to the program's text (the seventh form; the later family's looks); each row that meets fmt, with fmt's text TOLD by the authors' own Lean function (tested against real Go, not proved from fmt's source: count such statements apart). THE CARD IS WHAT COUNTS. Prove the row's statement (the work); the ties are given (YtgaeiccgdpnkkaaGreatDoorTie.lean); close each card by the builder's one call (the guide's Derived/Test/ToyasCard.lean, 'card_holds'). Laid BY PROGRAM, IN A SANDBOX (cutbox-door.mjs). By AI agents, Wed Nov 11 2026. No macro, syntax, notation, axiom, sorry.
-/
import Derived.Test.YtgaeiccgdpnkkaaGreatDoorRows
import GoSem.ClaimSeven
namespace Go.Proofs.YtgaeiccgdpnkkaaGreatDoor
namespace Rows

/-- THE TIED CARD OF 'glosswrightlaw8.DiffApplied'. -/
def diffAppliedCard : Claim7 := { stood := { row := diffAppliedRow, standIns := [], harness := (true, "35d23c8546c9fdeaf91f9f2dd0ae6424415ddc2998040adea671c6a661c8d26e"), looks := false }, kinds := [], alts := [], laidByText := true, laidKinds := [.data, .data, .pinned], laidTests := true, laidLooks := .later }
def DiffAppliedCardSaid : Prop := Claim7.holds Tryz.pinned (.plain (OpenSpec.ofChange diffAppliedSpec)) diffAppliedCard

/-- THE TIED CARD OF 'glosswrightlaw8.DiffApplyMatchesSpec'. -/
def diffApplyMatchesSpecCard : Claim7 := { stood := { row := diffApplyMatchesSpecRow, standIns := [], harness := (true, "35d23c8546c9fdeaf91f9f2dd0ae6424415ddc2998040adea671c6a661c8d26e"), looks := false }, kinds := [], alts := [], laidByText := true, laidKinds := [.data, .data, .pinned], laidTests := true, laidLooks := .later }
def DiffApplyMatchesSpecCardSaid : Prop := Claim7.holds Tryz.pinned (.plain (OpenSpec.ofChange diffApplyMatchesSpecSpec)) diffApplyMatchesSpecCard

/-- THE TIED CARD OF 'glosswrightlaw8.TrainCountMatchesSpec'. -/
def trainCountMatchesSpecCard : Claim7 := { stood := { row := trainCountMatchesSpecRow, standIns := [], harness := (true, "35d23c8546c9fdeaf91f9f2dd0ae6424415ddc2998040adea671c6a661c8d26e"), looks := false }, kinds := [], alts := [], laidByText := true, laidKinds := [.data, .data, .pinned], laidTests := true, laidLooks := .later }
def TrainCountMatchesSpecCardSaid : Prop := Claim7.holds Tryz.pinned (.plain (OpenSpec.ofChange trainCountMatchesSpecSpec)) trainCountMatchesSpecCard

/-- THE TIED CARD OF 'glosswrightlaw8.TrainProbabilityMatchesSpec'. -/
def trainProbabilityMatchesSpecCard : Claim7 := { stood := { row := trainProbabilityMatchesSpecRow, standIns := [], harness := (true, "35d23c8546c9fdeaf91f9f2dd0ae6424415ddc2998040adea671c6a661c8d26e"), looks := false }, kinds := [], alts := [], laidByText := true, laidKinds := [.data, .data, .pinned], laidTests := true, laidLooks := .later }
def TrainProbabilityMatchesSpecCardSaid : Prop := Claim7.holds Tryz.pinned (.plain (OpenSpec.ofChange trainProbabilityMatchesSpecSpec)) trainProbabilityMatchesSpecCard

/-- THE TIED CARD OF 'glosswrightlaw8.TrainWeightsMatchesSpec'. -/
def trainWeightsMatchesSpecCard : Claim7 := { stood := { row := trainWeightsMatchesSpecRow, standIns := [], harness := (true, "35d23c8546c9fdeaf91f9f2dd0ae6424415ddc2998040adea671c6a661c8d26e"), looks := false }, kinds := [], alts := [], laidByText := true, laidKinds := [.data, .data, .pinned], laidTests := true, laidLooks := .later }
def TrainWeightsMatchesSpecCardSaid : Prop := Claim7.holds Tryz.pinned (.plain (OpenSpec.ofChange trainWeightsMatchesSpecSpec)) trainWeightsMatchesSpecCard

/-- THE TIED CARD OF 'glosswrightlaw8.TrainSumsToOne'. -/
def trainSumsToOneCard : Claim7 := { stood := { row := trainSumsToOneRow, standIns := [], harness := (true, "35d23c8546c9fdeaf91f9f2dd0ae6424415ddc2998040adea671c6a661c8d26e"), looks := false }, kinds := [], alts := [], laidByText := true, laidKinds := [.data, .data, .pinned], laidTests := true, laidLooks := .later }
def TrainSumsToOneCardSaid : Prop := Claim7.holds Tryz.pinned (.plain (OpenSpec.ofChange trainSumsToOneSpec)) trainSumsToOneCard

/-- THE TIED CARD OF 'glosswrightlaw8.DiscriminantAllMatchesSpec'. -/
def discriminantAllMatchesSpecCard : Claim7 := { stood := { row := discriminantAllMatchesSpecRow, standIns := [], harness := (true, "35d23c8546c9fdeaf91f9f2dd0ae6424415ddc2998040adea671c6a661c8d26e"), looks := false }, kinds := [], alts := [], laidByText := true, laidKinds := [.data, .data, .pinned], laidTests := true, laidLooks := .later }
def DiscriminantAllMatchesSpecCardSaid : Prop := Claim7.holds Tryz.pinned (.plain (OpenSpec.ofChange discriminantAllMatchesSpecSpec)) discriminantAllMatchesSpecCard

/-- THE TIED CARD OF 'glosswrightlaw8.DiscriminantRemainingMatchesSpec'. -/
def discriminantRemainingMatchesSpecCard : Claim7 := { stood := { row := discriminantRemainingMatchesSpecRow, standIns := [], harness := (true, "35d23c8546c9fdeaf91f9f2dd0ae6424415ddc2998040adea671c6a661c8d26e"), looks := false }, kinds := [], alts := [], laidByText := true, laidKinds := [.data, .data, .pinned], laidTests := true, laidLooks := .later }
def DiscriminantRemainingMatchesSpecCardSaid : Prop := Claim7.holds Tryz.pinned (.plain (OpenSpec.ofChange discriminantRemainingMatchesSpecSpec)) discriminantRemainingMatchesSpecCard

/-- THE TIED CARD OF 'glosswrightlaw8.DiscriminantDecides'. -/
def discriminantDecidesCard : Claim7 := { stood := { row := discriminantDecidesRow, standIns := [], harness := (true, "35d23c8546c9fdeaf91f9f2dd0ae6424415ddc2998040adea671c6a661c8d26e"), looks := false }, kinds := [], alts := [], laidByText := true, laidKinds := [.data, .data, .pinned], laidTests := true, laidLooks := .later }
def DiscriminantDecidesCardSaid : Prop := Claim7.holds Tryz.pinned (.plain (OpenSpec.ofChange discriminantDecidesSpec)) discriminantDecidesCard

/-- THE TIED CARD OF 'glosswrightlaw8.DiscriminantQuestions'. -/
def discriminantQuestionsCard : Claim7 := { stood := { row := discriminantQuestionsRow, standIns := [], harness := (true, "35d23c8546c9fdeaf91f9f2dd0ae6424415ddc2998040adea671c6a661c8d26e"), looks := false }, kinds := [], alts := [], laidByText := true, laidKinds := [.data, .data, .pinned], laidTests := true, laidLooks := .later }
def DiscriminantQuestionsCardSaid : Prop := Claim7.holds Tryz.pinned (.plain (OpenSpec.ofChange discriminantQuestionsSpec)) discriminantQuestionsCard

/-- THE TIED CARD OF 'glosswrightlaw8.DiscriminantImpliedKeeps'. -/
def discriminantImpliedKeepsCard : Claim7 := { stood := { row := discriminantImpliedKeepsRow, standIns := [], harness := (true, "35d23c8546c9fdeaf91f9f2dd0ae6424415ddc2998040adea671c6a661c8d26e"), looks := false }, kinds := [], alts := [], laidByText := true, laidKinds := [.data, .data, .pinned], laidTests := true, laidLooks := .later }
def DiscriminantImpliedKeepsCardSaid : Prop := Claim7.holds Tryz.pinned (.plain (OpenSpec.ofChange discriminantImpliedKeepsSpec)) discriminantImpliedKeepsCard

/-- THE TIED CARD OF 'glosswrightlaw8.DiscriminantImpliedMatchesSpec'. -/
def discriminantImpliedMatchesSpecCard : Claim7 := { stood := { row := discriminantImpliedMatchesSpecRow, standIns := [], harness := (true, "35d23c8546c9fdeaf91f9f2dd0ae6424415ddc2998040adea671c6a661c8d26e"), looks := false }, kinds := [], alts := [], laidByText := true, laidKinds := [.data, .data, .pinned], laidTests := true, laidLooks := .later }
def DiscriminantImpliedMatchesSpecCardSaid : Prop := Claim7.holds Tryz.pinned (.plain (OpenSpec.ofChange discriminantImpliedMatchesSpecSpec)) discriminantImpliedMatchesSpecCard

/-- THE SECOND FORM's CARD OF 'glosswrightlaw8.DiffApplied'. -/
def diffAppliedUptoCard : Claim7 := { stood := { row := diffAppliedUptoRow, standIns := [], harness := (true, "35d23c8546c9fdeaf91f9f2dd0ae6424415ddc2998040adea671c6a661c8d26e"), looks := false }, kinds := [], alts := [], laidByText := true, laidKinds := [.data, .data, .pinned], laidTests := true, laidLooks := .later }
def DiffAppliedUptoCardSaid : Prop := Claim7.holds Tryz.pinned (.plain (OpenSpec.upto diffAppliedSpec)) diffAppliedUptoCard

/-- THE SECOND FORM's CARD OF 'glosswrightlaw8.DiffApplyMatchesSpec'. -/
def diffApplyMatchesSpecUptoCard : Claim7 := { stood := { row := diffApplyMatchesSpecUptoRow, standIns := [], harness := (true, "35d23c8546c9fdeaf91f9f2dd0ae6424415ddc2998040adea671c6a661c8d26e"), looks := false }, kinds := [], alts := [], laidByText := true, laidKinds := [.data, .data, .pinned], laidTests := true, laidLooks := .later }
def DiffApplyMatchesSpecUptoCardSaid : Prop := Claim7.holds Tryz.pinned (.plain (OpenSpec.upto diffApplyMatchesSpecSpec)) diffApplyMatchesSpecUptoCard

/-- THE SECOND FORM's CARD OF 'glosswrightlaw8.TrainCountMatchesSpec'. -/
def trainCountMatchesSpecUptoCard : Claim7 := { stood := { row := trainCountMatchesSpecUptoRow, standIns := [], harness := (true, "35d23c8546c9fdeaf91f9f2dd0ae6424415ddc2998040adea671c6a661c8d26e"), looks := false }, kinds := [], alts := [], laidByText := true, laidKinds := [.data, .data, .pinned], laidTests := true, laidLooks := .later }
def TrainCountMatchesSpecUptoCardSaid : Prop := Claim7.holds Tryz.pinned (.plain (OpenSpec.upto trainCountMatchesSpecSpec)) trainCountMatchesSpecUptoCard

/-- THE SECOND FORM's CARD OF 'glosswrightlaw8.TrainProbabilityMatchesSpec'. -/
def trainProbabilityMatchesSpecUptoCard : Claim7 := { stood := { row := trainProbabilityMatchesSpecUptoRow, standIns := [], harness := (true, "35d23c8546c9fdeaf91f9f2dd0ae6424415ddc2998040adea671c6a661c8d26e"), looks := false }, kinds := [], alts := [], laidByText := true, laidKinds := [.data, .data, .pinned], laidTests := true, laidLooks := .later }
def TrainProbabilityMatchesSpecUptoCardSaid : Prop := Claim7.holds Tryz.pinned (.plain (OpenSpec.upto trainProbabilityMatchesSpecSpec)) trainProbabilityMatchesSpecUptoCard

/-- THE SECOND FORM's CARD OF 'glosswrightlaw8.TrainWeightsMatchesSpec'. -/
def trainWeightsMatchesSpecUptoCard : Claim7 := { stood := { row := trainWeightsMatchesSpecUptoRow, standIns := [], harness := (true, "35d23c8546c9fdeaf91f9f2dd0ae6424415ddc2998040adea671c6a661c8d26e"), looks := false }, kinds := [], alts := [], laidByText := true, laidKinds := [.data, .data, .pinned], laidTests := true, laidLooks := .later }
def TrainWeightsMatchesSpecUptoCardSaid : Prop := Claim7.holds Tryz.pinned (.plain (OpenSpec.upto trainWeightsMatchesSpecSpec)) trainWeightsMatchesSpecUptoCard

/-- THE SECOND FORM's CARD OF 'glosswrightlaw8.TrainSumsToOne'. -/
def trainSumsToOneUptoCard : Claim7 := { stood := { row := trainSumsToOneUptoRow, standIns := [], harness := (true, "35d23c8546c9fdeaf91f9f2dd0ae6424415ddc2998040adea671c6a661c8d26e"), looks := false }, kinds := [], alts := [], laidByText := true, laidKinds := [.data, .data, .pinned], laidTests := true, laidLooks := .later }
def TrainSumsToOneUptoCardSaid : Prop := Claim7.holds Tryz.pinned (.plain (OpenSpec.upto trainSumsToOneSpec)) trainSumsToOneUptoCard

/-- THE SECOND FORM's CARD OF 'glosswrightlaw8.DiscriminantAllMatchesSpec'. -/
def discriminantAllMatchesSpecUptoCard : Claim7 := { stood := { row := discriminantAllMatchesSpecUptoRow, standIns := [], harness := (true, "35d23c8546c9fdeaf91f9f2dd0ae6424415ddc2998040adea671c6a661c8d26e"), looks := false }, kinds := [], alts := [], laidByText := true, laidKinds := [.data, .data, .pinned], laidTests := true, laidLooks := .later }
def DiscriminantAllMatchesSpecUptoCardSaid : Prop := Claim7.holds Tryz.pinned (.plain (OpenSpec.upto discriminantAllMatchesSpecSpec)) discriminantAllMatchesSpecUptoCard

/-- THE SECOND FORM's CARD OF 'glosswrightlaw8.DiscriminantRemainingMatchesSpec'. -/
def discriminantRemainingMatchesSpecUptoCard : Claim7 := { stood := { row := discriminantRemainingMatchesSpecUptoRow, standIns := [], harness := (true, "35d23c8546c9fdeaf91f9f2dd0ae6424415ddc2998040adea671c6a661c8d26e"), looks := false }, kinds := [], alts := [], laidByText := true, laidKinds := [.data, .data, .pinned], laidTests := true, laidLooks := .later }
def DiscriminantRemainingMatchesSpecUptoCardSaid : Prop := Claim7.holds Tryz.pinned (.plain (OpenSpec.upto discriminantRemainingMatchesSpecSpec)) discriminantRemainingMatchesSpecUptoCard

/-- THE SECOND FORM's CARD OF 'glosswrightlaw8.DiscriminantDecides'. -/
def discriminantDecidesUptoCard : Claim7 := { stood := { row := discriminantDecidesUptoRow, standIns := [], harness := (true, "35d23c8546c9fdeaf91f9f2dd0ae6424415ddc2998040adea671c6a661c8d26e"), looks := false }, kinds := [], alts := [], laidByText := true, laidKinds := [.data, .data, .pinned], laidTests := true, laidLooks := .later }
def DiscriminantDecidesUptoCardSaid : Prop := Claim7.holds Tryz.pinned (.plain (OpenSpec.upto discriminantDecidesSpec)) discriminantDecidesUptoCard

/-- THE SECOND FORM's CARD OF 'glosswrightlaw8.DiscriminantQuestions'. -/
def discriminantQuestionsUptoCard : Claim7 := { stood := { row := discriminantQuestionsUptoRow, standIns := [], harness := (true, "35d23c8546c9fdeaf91f9f2dd0ae6424415ddc2998040adea671c6a661c8d26e"), looks := false }, kinds := [], alts := [], laidByText := true, laidKinds := [.data, .data, .pinned], laidTests := true, laidLooks := .later }
def DiscriminantQuestionsUptoCardSaid : Prop := Claim7.holds Tryz.pinned (.plain (OpenSpec.upto discriminantQuestionsSpec)) discriminantQuestionsUptoCard

/-- THE SECOND FORM's CARD OF 'glosswrightlaw8.DiscriminantImpliedKeeps'. -/
def discriminantImpliedKeepsUptoCard : Claim7 := { stood := { row := discriminantImpliedKeepsUptoRow, standIns := [], harness := (true, "35d23c8546c9fdeaf91f9f2dd0ae6424415ddc2998040adea671c6a661c8d26e"), looks := false }, kinds := [], alts := [], laidByText := true, laidKinds := [.data, .data, .pinned], laidTests := true, laidLooks := .later }
def DiscriminantImpliedKeepsUptoCardSaid : Prop := Claim7.holds Tryz.pinned (.plain (OpenSpec.upto discriminantImpliedKeepsSpec)) discriminantImpliedKeepsUptoCard

/-- THE SECOND FORM's CARD OF 'glosswrightlaw8.DiscriminantImpliedMatchesSpec'. -/
def discriminantImpliedMatchesSpecUptoCard : Claim7 := { stood := { row := discriminantImpliedMatchesSpecUptoRow, standIns := [], harness := (true, "35d23c8546c9fdeaf91f9f2dd0ae6424415ddc2998040adea671c6a661c8d26e"), looks := false }, kinds := [], alts := [], laidByText := true, laidKinds := [.data, .data, .pinned], laidTests := true, laidLooks := .later }
def DiscriminantImpliedMatchesSpecUptoCardSaid : Prop := Claim7.holds Tryz.pinned (.plain (OpenSpec.upto discriminantImpliedMatchesSpecSpec)) discriminantImpliedMatchesSpecUptoCard
end Rows
end Go.Proofs.YtgaeiccgdpnkkaaGreatDoor
