/-
  DERIVED. GIVEN WITH THE SEED: THE CARDS: each row of YtfogbhjeihkliaaGreatDoorRows.lean that lists a variable, with what it lists TIED to the program's text (the seventh form; the later family's looks); each row that meets fmt, with fmt's text TOLD by the authors' own Lean function (tested against real Go, not proved from fmt's source: count such statements apart). THE CARD IS WHAT COUNTS. Prove the row's statement (the work); the ties are given (YtfogbhjeihkliaaGreatDoorTie.lean); close each card by the builder's one call (the guide's Derived/Test/ToyasCard.lean, 'card_holds'). Laid BY PROGRAM, IN A SANDBOX (cutbox-door.mjs). By AI agents, Wed Nov 11 2026. No macro, syntax, notation, axiom, sorry.
-/
import Derived.Test.YtfogbhjeihkliaaGreatDoorRows
import GoSem.ClaimSeven
namespace Go.Proofs.YtfogbhjeihkliaaGreatDoor
namespace Rows

/-- THE TIED CARD OF 'glosswrightlaw8.DiscriminantAllMatchesSpec'. -/
def discriminantAllMatchesSpecCard : Claim7 := { stood := { row := discriminantAllMatchesSpecRow, standIns := [], harness := (true, "7f303f330c8d2a1daf39ee7f218520bb70cae7c871475d578d0be9a112fe9d09"), looks := false }, kinds := [], alts := [], laidByText := true, laidKinds := [.data, .data, .pinned], laidTests := true, laidLooks := .later }
def DiscriminantAllMatchesSpecCardSaid : Prop := Claim7.holds Tryz.pinned (.plain (OpenSpec.ofChange discriminantAllMatchesSpecSpec)) discriminantAllMatchesSpecCard

/-- THE TIED CARD OF 'glosswrightlaw8.DiscriminantRemainingMatchesSpec'. -/
def discriminantRemainingMatchesSpecCard : Claim7 := { stood := { row := discriminantRemainingMatchesSpecRow, standIns := [], harness := (true, "7f303f330c8d2a1daf39ee7f218520bb70cae7c871475d578d0be9a112fe9d09"), looks := false }, kinds := [], alts := [], laidByText := true, laidKinds := [.data, .data, .pinned], laidTests := true, laidLooks := .later }
def DiscriminantRemainingMatchesSpecCardSaid : Prop := Claim7.holds Tryz.pinned (.plain (OpenSpec.ofChange discriminantRemainingMatchesSpecSpec)) discriminantRemainingMatchesSpecCard

/-- THE TIED CARD OF 'glosswrightlaw8.DiscriminantDecides'. -/
def discriminantDecidesCard : Claim7 := { stood := { row := discriminantDecidesRow, standIns := [], harness := (true, "7f303f330c8d2a1daf39ee7f218520bb70cae7c871475d578d0be9a112fe9d09"), looks := false }, kinds := [], alts := [], laidByText := true, laidKinds := [.data, .data, .pinned], laidTests := true, laidLooks := .later }
def DiscriminantDecidesCardSaid : Prop := Claim7.holds Tryz.pinned (.plain (OpenSpec.ofChange discriminantDecidesSpec)) discriminantDecidesCard

/-- THE TIED CARD OF 'glosswrightlaw8.DiscriminantQuestions'. -/
def discriminantQuestionsCard : Claim7 := { stood := { row := discriminantQuestionsRow, standIns := [], harness := (true, "7f303f330c8d2a1daf39ee7f218520bb70cae7c871475d578d0be9a112fe9d09"), looks := false }, kinds := [], alts := [], laidByText := true, laidKinds := [.data, .data, .pinned], laidTests := true, laidLooks := .later }
def DiscriminantQuestionsCardSaid : Prop := Claim7.holds Tryz.pinned (.plain (OpenSpec.ofChange discriminantQuestionsSpec)) discriminantQuestionsCard

/-- THE TIED CARD OF 'glosswrightlaw8.DiscriminantImpliedKeeps'. -/
def discriminantImpliedKeepsCard : Claim7 := { stood := { row := discriminantImpliedKeepsRow, standIns := [], harness := (true, "7f303f330c8d2a1daf39ee7f218520bb70cae7c871475d578d0be9a112fe9d09"), looks := false }, kinds := [], alts := [], laidByText := true, laidKinds := [.data, .data, .pinned], laidTests := true, laidLooks := .later }
def DiscriminantImpliedKeepsCardSaid : Prop := Claim7.holds Tryz.pinned (.plain (OpenSpec.ofChange discriminantImpliedKeepsSpec)) discriminantImpliedKeepsCard

/-- THE TIED CARD OF 'glosswrightlaw8.DiscriminantImpliedMatchesSpec'. -/
def discriminantImpliedMatchesSpecCard : Claim7 := { stood := { row := discriminantImpliedMatchesSpecRow, standIns := [], harness := (true, "7f303f330c8d2a1daf39ee7f218520bb70cae7c871475d578d0be9a112fe9d09"), looks := false }, kinds := [], alts := [], laidByText := true, laidKinds := [.data, .data, .pinned], laidTests := true, laidLooks := .later }
def DiscriminantImpliedMatchesSpecCardSaid : Prop := Claim7.holds Tryz.pinned (.plain (OpenSpec.ofChange discriminantImpliedMatchesSpecSpec)) discriminantImpliedMatchesSpecCard

/-- THE SECOND FORM's CARD OF 'glosswrightlaw8.DiscriminantAllMatchesSpec'. -/
def discriminantAllMatchesSpecUptoCard : Claim7 := { stood := { row := discriminantAllMatchesSpecUptoRow, standIns := [], harness := (true, "7f303f330c8d2a1daf39ee7f218520bb70cae7c871475d578d0be9a112fe9d09"), looks := false }, kinds := [], alts := [], laidByText := true, laidKinds := [.data, .data, .pinned], laidTests := true, laidLooks := .later }
def DiscriminantAllMatchesSpecUptoCardSaid : Prop := Claim7.holds Tryz.pinned (.plain (OpenSpec.upto discriminantAllMatchesSpecSpec)) discriminantAllMatchesSpecUptoCard

/-- THE SECOND FORM's CARD OF 'glosswrightlaw8.DiscriminantRemainingMatchesSpec'. -/
def discriminantRemainingMatchesSpecUptoCard : Claim7 := { stood := { row := discriminantRemainingMatchesSpecUptoRow, standIns := [], harness := (true, "7f303f330c8d2a1daf39ee7f218520bb70cae7c871475d578d0be9a112fe9d09"), looks := false }, kinds := [], alts := [], laidByText := true, laidKinds := [.data, .data, .pinned], laidTests := true, laidLooks := .later }
def DiscriminantRemainingMatchesSpecUptoCardSaid : Prop := Claim7.holds Tryz.pinned (.plain (OpenSpec.upto discriminantRemainingMatchesSpecSpec)) discriminantRemainingMatchesSpecUptoCard

/-- THE SECOND FORM's CARD OF 'glosswrightlaw8.DiscriminantDecides'. -/
def discriminantDecidesUptoCard : Claim7 := { stood := { row := discriminantDecidesUptoRow, standIns := [], harness := (true, "7f303f330c8d2a1daf39ee7f218520bb70cae7c871475d578d0be9a112fe9d09"), looks := false }, kinds := [], alts := [], laidByText := true, laidKinds := [.data, .data, .pinned], laidTests := true, laidLooks := .later }
def DiscriminantDecidesUptoCardSaid : Prop := Claim7.holds Tryz.pinned (.plain (OpenSpec.upto discriminantDecidesSpec)) discriminantDecidesUptoCard

/-- THE SECOND FORM's CARD OF 'glosswrightlaw8.DiscriminantQuestions'. -/
def discriminantQuestionsUptoCard : Claim7 := { stood := { row := discriminantQuestionsUptoRow, standIns := [], harness := (true, "7f303f330c8d2a1daf39ee7f218520bb70cae7c871475d578d0be9a112fe9d09"), looks := false }, kinds := [], alts := [], laidByText := true, laidKinds := [.data, .data, .pinned], laidTests := true, laidLooks := .later }
def DiscriminantQuestionsUptoCardSaid : Prop := Claim7.holds Tryz.pinned (.plain (OpenSpec.upto discriminantQuestionsSpec)) discriminantQuestionsUptoCard

/-- THE SECOND FORM's CARD OF 'glosswrightlaw8.DiscriminantImpliedKeeps'. -/
def discriminantImpliedKeepsUptoCard : Claim7 := { stood := { row := discriminantImpliedKeepsUptoRow, standIns := [], harness := (true, "7f303f330c8d2a1daf39ee7f218520bb70cae7c871475d578d0be9a112fe9d09"), looks := false }, kinds := [], alts := [], laidByText := true, laidKinds := [.data, .data, .pinned], laidTests := true, laidLooks := .later }
def DiscriminantImpliedKeepsUptoCardSaid : Prop := Claim7.holds Tryz.pinned (.plain (OpenSpec.upto discriminantImpliedKeepsSpec)) discriminantImpliedKeepsUptoCard

/-- THE SECOND FORM's CARD OF 'glosswrightlaw8.DiscriminantImpliedMatchesSpec'. -/
def discriminantImpliedMatchesSpecUptoCard : Claim7 := { stood := { row := discriminantImpliedMatchesSpecUptoRow, standIns := [], harness := (true, "7f303f330c8d2a1daf39ee7f218520bb70cae7c871475d578d0be9a112fe9d09"), looks := false }, kinds := [], alts := [], laidByText := true, laidKinds := [.data, .data, .pinned], laidTests := true, laidLooks := .later }
def DiscriminantImpliedMatchesSpecUptoCardSaid : Prop := Claim7.holds Tryz.pinned (.plain (OpenSpec.upto discriminantImpliedMatchesSpecSpec)) discriminantImpliedMatchesSpecUptoCard
end Rows
end Go.Proofs.YtfogbhjeihkliaaGreatDoor
