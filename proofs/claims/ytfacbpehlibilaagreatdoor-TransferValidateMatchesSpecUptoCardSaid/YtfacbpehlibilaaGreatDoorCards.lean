/-
  DERIVED. GIVEN WITH THE SEED: THE CARDS: each row of YtfacbpehlibilaaGreatDoorRows.lean that lists a variable, with what it lists TIED to the program's text (the seventh form; the later family's looks); each row that meets fmt, with fmt's text TOLD by the authors' own Lean function (tested against real Go, not proved from fmt's source: count such statements apart). THE CARD IS WHAT COUNTS. Prove the row's statement (the work); the ties are given (YtfacbpehlibilaaGreatDoorTie.lean); close each card by the builder's one call (the guide's Derived/Test/ToyasCard.lean, 'card_holds'). Laid BY PROGRAM, IN A SANDBOX (cutbox-door.mjs). By AI agents, Wed Nov 11 2026. No macro, syntax, notation, axiom, sorry.
-/
import Derived.Test.YtfacbpehlibilaaGreatDoorRows
import GoSem.ClaimSeven
namespace Go.Proofs.YtfacbpehlibilaaGreatDoor
namespace Rows

/-- THE TIED CARD OF 'glosswrightlaw8.TransferValidateMatchesSpec'. -/
def transferValidateMatchesSpecCard : Claim7 := { stood := { row := transferValidateMatchesSpecRow, standIns := [], harness := (true, "3c54371b7cd0564b3f94e2e98d20993a4365e569798eb610168f0f7ca66e7115"), looks := false }, kinds := [], alts := [], laidByText := true, laidKinds := [.data, .data, .data], laidTests := true, laidLooks := .later }
def TransferValidateMatchesSpecCardSaid : Prop := Claim7.holds Tryz.pinned (.plain (OpenSpec.ofChange transferValidateMatchesSpecSpec)) transferValidateMatchesSpecCard

/-- THE TIED CARD OF 'glosswrightlaw8.TransferMatchesSpec'. -/
def transferMatchesSpecCard : Claim7 := { stood := { row := transferMatchesSpecRow, standIns := [], harness := (true, "3c54371b7cd0564b3f94e2e98d20993a4365e569798eb610168f0f7ca66e7115"), looks := false }, kinds := [], alts := [], laidByText := true, laidKinds := [.data, .data, .data], laidTests := true, laidLooks := .later }
def TransferMatchesSpecCardSaid : Prop := Claim7.holds Tryz.pinned (.plain (OpenSpec.ofChange transferMatchesSpecSpec)) transferMatchesSpecCard

/-- THE TIED CARD OF 'glosswrightlaw8.TransferNothing'. -/
def transferNothingCard : Claim7 := { stood := { row := transferNothingRow, standIns := [], harness := (true, "3c54371b7cd0564b3f94e2e98d20993a4365e569798eb610168f0f7ca66e7115"), looks := false }, kinds := [], alts := [], laidByText := true, laidKinds := [.data, .data, .data], laidTests := true, laidLooks := .later }
def TransferNothingCardSaid : Prop := Claim7.holds Tryz.pinned (.plain (OpenSpec.ofChange transferNothingSpec)) transferNothingCard

/-- THE TIED CARD OF 'glosswrightlaw8.TransferAlike'. -/
def transferAlikeCard : Claim7 := { stood := { row := transferAlikeRow, standIns := [], harness := (true, "3c54371b7cd0564b3f94e2e98d20993a4365e569798eb610168f0f7ca66e7115"), looks := false }, kinds := [], alts := [], laidByText := true, laidKinds := [.data, .data, .data], laidTests := true, laidLooks := .later }
def TransferAlikeCardSaid : Prop := Claim7.holds Tryz.pinned (.plain (OpenSpec.ofChange transferAlikeSpec)) transferAlikeCard

/-- THE TIED CARD OF 'glosswrightlaw8.TransferPartByPart'. -/
def transferPartByPartCard : Claim7 := { stood := { row := transferPartByPartRow, standIns := [], harness := (true, "3c54371b7cd0564b3f94e2e98d20993a4365e569798eb610168f0f7ca66e7115"), looks := false }, kinds := [], alts := [], laidByText := true, laidKinds := [.data, .data, .data], laidTests := true, laidLooks := .later }
def TransferPartByPartCardSaid : Prop := Claim7.holds Tryz.pinned (.plain (OpenSpec.ofChange transferPartByPartSpec)) transferPartByPartCard

/-- THE TIED CARD OF 'glosswrightlaw8.TransferLexicalMatchesSpec'. -/
def transferLexicalMatchesSpecCard : Claim7 := { stood := { row := transferLexicalMatchesSpecRow, standIns := [], harness := (true, "3c54371b7cd0564b3f94e2e98d20993a4365e569798eb610168f0f7ca66e7115"), looks := false }, kinds := [], alts := [], laidByText := true, laidKinds := [.data, .data, .data], laidTests := true, laidLooks := .later }
def TransferLexicalMatchesSpecCardSaid : Prop := Claim7.holds Tryz.pinned (.plain (OpenSpec.ofChange transferLexicalMatchesSpecSpec)) transferLexicalMatchesSpecCard

/-- THE TIED CARD OF 'glosswrightlaw8.TransferThereAndBack'. -/
def transferThereAndBackCard : Claim7 := { stood := { row := transferThereAndBackRow, standIns := [], harness := (true, "3c54371b7cd0564b3f94e2e98d20993a4365e569798eb610168f0f7ca66e7115"), looks := false }, kinds := [], alts := [], laidByText := true, laidKinds := [.data, .data, .data], laidTests := true, laidLooks := .later }
def TransferThereAndBackCardSaid : Prop := Claim7.holds Tryz.pinned (.plain (OpenSpec.ofChange transferThereAndBackSpec)) transferThereAndBackCard

/-- THE SECOND FORM's CARD OF 'glosswrightlaw8.TransferValidateMatchesSpec'. -/
def transferValidateMatchesSpecUptoCard : Claim7 := { stood := { row := transferValidateMatchesSpecUptoRow, standIns := [], harness := (true, "3c54371b7cd0564b3f94e2e98d20993a4365e569798eb610168f0f7ca66e7115"), looks := false }, kinds := [], alts := [], laidByText := true, laidKinds := [.data, .data, .data], laidTests := true, laidLooks := .later }
def TransferValidateMatchesSpecUptoCardSaid : Prop := Claim7.holds Tryz.pinned (.plain (OpenSpec.upto transferValidateMatchesSpecSpec)) transferValidateMatchesSpecUptoCard

/-- THE SECOND FORM's CARD OF 'glosswrightlaw8.TransferMatchesSpec'. -/
def transferMatchesSpecUptoCard : Claim7 := { stood := { row := transferMatchesSpecUptoRow, standIns := [], harness := (true, "3c54371b7cd0564b3f94e2e98d20993a4365e569798eb610168f0f7ca66e7115"), looks := false }, kinds := [], alts := [], laidByText := true, laidKinds := [.data, .data, .data], laidTests := true, laidLooks := .later }
def TransferMatchesSpecUptoCardSaid : Prop := Claim7.holds Tryz.pinned (.plain (OpenSpec.upto transferMatchesSpecSpec)) transferMatchesSpecUptoCard

/-- THE SECOND FORM's CARD OF 'glosswrightlaw8.TransferNothing'. -/
def transferNothingUptoCard : Claim7 := { stood := { row := transferNothingUptoRow, standIns := [], harness := (true, "3c54371b7cd0564b3f94e2e98d20993a4365e569798eb610168f0f7ca66e7115"), looks := false }, kinds := [], alts := [], laidByText := true, laidKinds := [.data, .data, .data], laidTests := true, laidLooks := .later }
def TransferNothingUptoCardSaid : Prop := Claim7.holds Tryz.pinned (.plain (OpenSpec.upto transferNothingSpec)) transferNothingUptoCard

/-- THE SECOND FORM's CARD OF 'glosswrightlaw8.TransferAlike'. -/
def transferAlikeUptoCard : Claim7 := { stood := { row := transferAlikeUptoRow, standIns := [], harness := (true, "3c54371b7cd0564b3f94e2e98d20993a4365e569798eb610168f0f7ca66e7115"), looks := false }, kinds := [], alts := [], laidByText := true, laidKinds := [.data, .data, .data], laidTests := true, laidLooks := .later }
def TransferAlikeUptoCardSaid : Prop := Claim7.holds Tryz.pinned (.plain (OpenSpec.upto transferAlikeSpec)) transferAlikeUptoCard

/-- THE SECOND FORM's CARD OF 'glosswrightlaw8.TransferPartByPart'. -/
def transferPartByPartUptoCard : Claim7 := { stood := { row := transferPartByPartUptoRow, standIns := [], harness := (true, "3c54371b7cd0564b3f94e2e98d20993a4365e569798eb610168f0f7ca66e7115"), looks := false }, kinds := [], alts := [], laidByText := true, laidKinds := [.data, .data, .data], laidTests := true, laidLooks := .later }
def TransferPartByPartUptoCardSaid : Prop := Claim7.holds Tryz.pinned (.plain (OpenSpec.upto transferPartByPartSpec)) transferPartByPartUptoCard

/-- THE SECOND FORM's CARD OF 'glosswrightlaw8.TransferLexicalMatchesSpec'. -/
def transferLexicalMatchesSpecUptoCard : Claim7 := { stood := { row := transferLexicalMatchesSpecUptoRow, standIns := [], harness := (true, "3c54371b7cd0564b3f94e2e98d20993a4365e569798eb610168f0f7ca66e7115"), looks := false }, kinds := [], alts := [], laidByText := true, laidKinds := [.data, .data, .data], laidTests := true, laidLooks := .later }
def TransferLexicalMatchesSpecUptoCardSaid : Prop := Claim7.holds Tryz.pinned (.plain (OpenSpec.upto transferLexicalMatchesSpecSpec)) transferLexicalMatchesSpecUptoCard

/-- THE SECOND FORM's CARD OF 'glosswrightlaw8.TransferThereAndBack'. -/
def transferThereAndBackUptoCard : Claim7 := { stood := { row := transferThereAndBackUptoRow, standIns := [], harness := (true, "3c54371b7cd0564b3f94e2e98d20993a4365e569798eb610168f0f7ca66e7115"), looks := false }, kinds := [], alts := [], laidByText := true, laidKinds := [.data, .data, .data], laidTests := true, laidLooks := .later }
def TransferThereAndBackUptoCardSaid : Prop := Claim7.holds Tryz.pinned (.plain (OpenSpec.upto transferThereAndBackSpec)) transferThereAndBackUptoCard
end Rows
end Go.Proofs.YtfacbpehlibilaaGreatDoor
