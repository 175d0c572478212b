/-
  DERIVED. GIVEN WITH THE SEED: THE CARDS: each row of YtdjnbjnlnjhllaaDoorRows.lean that lists a variable, with what it lists TIED to the program's text (the seventh form; the later family's looks); each row that meets fmt, with fmt's text TOLD by the authors' own Lean function (tested against real Go, not proved from fmt's source: count such statements apart). THE CARD IS WHAT COUNTS. Prove the row's statement (the work); the ties are given (YtdjnbjnlnjhllaaDoorTie.lean); close each card by the builder's one call (the guide's Derived/Test/ToyasCard.lean, 'card_holds'). Laid BY PROGRAM, IN A SANDBOX (cutbox-door.mjs). By AI agents, Wed Nov 11 2026. No macro, syntax, notation, axiom, sorry.
-/
import Derived.Test.YtdjnbjnlnjhllaaDoorRows
import GoSem.ClaimSeven
namespace Go.Proofs.YtdjnbjnlnjhllaaDoor
namespace Rows

/-- THE TIED CARD OF 'glosswrightlaw8.FormqueryValidateMatchesSpec'. -/
def formqueryValidateMatchesSpecCard : Claim7 := { stood := { row := formqueryValidateMatchesSpecRow, standIns := [], harness := (true, "1c77e2953e01e94779586067c6150576d9eedf3821b002315ae6c0d0ec16aba6"), looks := false }, kinds := [], alts := [], laidByText := true, laidKinds := [.data, .data, .data], laidTests := true, laidLooks := .later }
def FormqueryValidateMatchesSpecCardSaid : Prop := Claim7.holds Tryd.pinned (.plain (OpenSpec.ofChange formqueryValidateMatchesSpecSpec)) formqueryValidateMatchesSpecCard

/-- THE TIED CARD OF 'glosswrightlaw8.FormqueryInner'. -/
def formqueryInnerCard : Claim7 := { stood := { row := formqueryInnerRow, standIns := [], harness := (true, "1c77e2953e01e94779586067c6150576d9eedf3821b002315ae6c0d0ec16aba6"), looks := false }, kinds := [], alts := [], laidByText := true, laidKinds := [.data, .data, .data], laidTests := true, laidLooks := .later }
def FormqueryInnerCardSaid : Prop := Claim7.holds Tryd.pinned (.plain (OpenSpec.ofChange formqueryInnerSpec)) formqueryInnerCard

/-- THE TIED CARD OF 'glosswrightlaw8.FormqueryAlike'. -/
def formqueryAlikeCard : Claim7 := { stood := { row := formqueryAlikeRow, standIns := [], harness := (true, "1c77e2953e01e94779586067c6150576d9eedf3821b002315ae6c0d0ec16aba6"), looks := false }, kinds := [], alts := [], laidByText := true, laidKinds := [.data, .data, .data], laidTests := true, laidLooks := .later }
def FormqueryAlikeCardSaid : Prop := Claim7.holds Tryd.pinned (.plain (OpenSpec.ofChange formqueryAlikeSpec)) formqueryAlikeCard

/-- THE TIED CARD OF 'glosswrightlaw8.FormqueryInstanceBack'. -/
def formqueryInstanceBackCard : Claim7 := { stood := { row := formqueryInstanceBackRow, standIns := [], harness := (true, "1c77e2953e01e94779586067c6150576d9eedf3821b002315ae6c0d0ec16aba6"), looks := false }, kinds := [], alts := [], laidByText := true, laidKinds := [.data, .data, .data], laidTests := true, laidLooks := .later }
def FormqueryInstanceBackCardSaid : Prop := Claim7.holds Tryd.pinned (.plain (OpenSpec.ofChange formqueryInstanceBackSpec)) formqueryInstanceBackCard

/-- THE SECOND FORM's CARD OF 'glosswrightlaw8.FormqueryValidateMatchesSpec'. -/
def formqueryValidateMatchesSpecUptoCard : Claim7 := { stood := { row := formqueryValidateMatchesSpecUptoRow, standIns := [], harness := (true, "1c77e2953e01e94779586067c6150576d9eedf3821b002315ae6c0d0ec16aba6"), looks := false }, kinds := [], alts := [], laidByText := true, laidKinds := [.data, .data, .data], laidTests := true, laidLooks := .later }
def FormqueryValidateMatchesSpecUptoCardSaid : Prop := Claim7.holds Tryd.pinned (.plain (OpenSpec.upto formqueryValidateMatchesSpecSpec)) formqueryValidateMatchesSpecUptoCard

/-- THE SECOND FORM's CARD OF 'glosswrightlaw8.FormqueryInner'. -/
def formqueryInnerUptoCard : Claim7 := { stood := { row := formqueryInnerUptoRow, standIns := [], harness := (true, "1c77e2953e01e94779586067c6150576d9eedf3821b002315ae6c0d0ec16aba6"), looks := false }, kinds := [], alts := [], laidByText := true, laidKinds := [.data, .data, .data], laidTests := true, laidLooks := .later }
def FormqueryInnerUptoCardSaid : Prop := Claim7.holds Tryd.pinned (.plain (OpenSpec.upto formqueryInnerSpec)) formqueryInnerUptoCard

/-- THE SECOND FORM's CARD OF 'glosswrightlaw8.FormqueryAlike'. -/
def formqueryAlikeUptoCard : Claim7 := { stood := { row := formqueryAlikeUptoRow, standIns := [], harness := (true, "1c77e2953e01e94779586067c6150576d9eedf3821b002315ae6c0d0ec16aba6"), looks := false }, kinds := [], alts := [], laidByText := true, laidKinds := [.data, .data, .data], laidTests := true, laidLooks := .later }
def FormqueryAlikeUptoCardSaid : Prop := Claim7.holds Tryd.pinned (.plain (OpenSpec.upto formqueryAlikeSpec)) formqueryAlikeUptoCard

/-- THE SECOND FORM's CARD OF 'glosswrightlaw8.FormqueryInstanceBack'. -/
def formqueryInstanceBackUptoCard : Claim7 := { stood := { row := formqueryInstanceBackUptoRow, standIns := [], harness := (true, "1c77e2953e01e94779586067c6150576d9eedf3821b002315ae6c0d0ec16aba6"), looks := false }, kinds := [], alts := [], laidByText := true, laidKinds := [.data, .data, .data], laidTests := true, laidLooks := .later }
def FormqueryInstanceBackUptoCardSaid : Prop := Claim7.holds Tryd.pinned (.plain (OpenSpec.upto formqueryInstanceBackSpec)) formqueryInstanceBackUptoCard
end Rows
end Go.Proofs.YtdjnbjnlnjhllaaDoor
