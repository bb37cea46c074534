/-
  DERIVED. GIVEN WITH THE SEED: THE CARDS: each row of YtnafcjaddnkioaaGreatDoorRows.lean that lists a variable, with what it lists TIED to the program's text (the seventh form; the later family's looks); each row that meets fmt, with fmt's text TOLD by the authors' own Lean function (tested against real Go, not proved from fmt's source: count such statements apart). THE CARD IS WHAT COUNTS. Prove the row's statement (the work); the ties are given (YtnafcjaddnkioaaGreatDoorTie.lean); close each card by the builder's one call (the guide's Derived/Test/ToyasCard.lean, 'card_holds'). Laid BY PROGRAM, IN A SANDBOX (cutbox-door.mjs). By AI agents, Wed Nov 11 2026. No macro, syntax, notation, axiom, sorry.
-/
import Derived.Test.YtnafcjaddnkioaaGreatDoorRows
import GoSem.ClaimSeven
namespace Go.Proofs.YtnafcjaddnkioaaGreatDoor
namespace Rows

/-- THE TIED CARD OF 'quirelaw15.BookPuts'. -/
def bookPutsCard : Claim7 := { stood := { row := bookPutsRow, standIns := [], harness := (true, "9df5dbcf18dc33515e1b81a528856bbf9637424261dabfc8b1c77488deb713ed"), looks := true }, kinds := [], alts := [], laidByText := true, laidKinds := [.data, .data, .data, .data, .sentinel, .sentinel, .pinned], laidTests := true, laidLooks := .later }
def BookPutsCardSaid : Prop := Claim7.holds Tryz.pinned (.plain (OpenSpec.ofChange bookPutsSpec)) bookPutsCard

/-- THE TIED CARD OF 'quirelaw15.BookTyped'. -/
def bookTypedCard : Claim7 := { stood := { row := bookTypedRow, standIns := [], harness := (true, "9df5dbcf18dc33515e1b81a528856bbf9637424261dabfc8b1c77488deb713ed"), looks := true }, kinds := [], alts := [], laidByText := true, laidKinds := [.data, .data, .data, .data, .sentinel, .sentinel, .pinned], laidTests := true, laidLooks := .later }
def BookTypedCardSaid : Prop := Claim7.holds Tryz.pinned (.plain (OpenSpec.ofChange bookTypedSpec)) bookTypedCard

/-- THE TIED CARD OF 'quirelaw15.BookKeeps'. -/
def bookKeepsCard : Claim7 := { stood := { row := bookKeepsRow, standIns := [], harness := (true, "9df5dbcf18dc33515e1b81a528856bbf9637424261dabfc8b1c77488deb713ed"), looks := true }, kinds := [], alts := [], laidByText := true, laidKinds := [.data, .data, .data, .data, .sentinel, .sentinel, .pinned], laidTests := true, laidLooks := .later }
def BookKeepsCardSaid : Prop := Claim7.holds Tryz.pinned (.plain (OpenSpec.ofChange bookKeepsSpec)) bookKeepsCard

/-- THE TIED CARD OF 'quirelaw15.BookBack'. -/
def bookBackCard : Claim7 := { stood := { row := bookBackRow, standIns := [], harness := (true, "9df5dbcf18dc33515e1b81a528856bbf9637424261dabfc8b1c77488deb713ed"), looks := true }, kinds := [], alts := [], laidByText := true, laidKinds := [.data, .data, .data, .data, .sentinel, .sentinel, .pinned], laidTests := true, laidLooks := .later }
def BookBackCardSaid : Prop := Claim7.holds Tryz.pinned (.plain (OpenSpec.ofChange bookBackSpec)) bookBackCard

/-- THE TIED CARD OF 'quirelaw15.BookLooks'. -/
def bookLooksCard : Claim7 := { stood := { row := bookLooksRow, standIns := [], harness := (true, "9df5dbcf18dc33515e1b81a528856bbf9637424261dabfc8b1c77488deb713ed"), looks := true }, kinds := [], alts := [], laidByText := true, laidKinds := [.data, .data, .data, .data, .sentinel, .sentinel, .pinned], laidTests := true, laidLooks := .later }
def BookLooksCardSaid : Prop := Claim7.holds Tryz.pinned (.plain (OpenSpec.ofChange bookLooksSpec)) bookLooksCard

/-- THE TIED CARD OF 'quirelaw15.BookRight'. -/
def bookRightCard : Claim7 := { stood := { row := bookRightRow, standIns := [], harness := (true, "9df5dbcf18dc33515e1b81a528856bbf9637424261dabfc8b1c77488deb713ed"), looks := true }, kinds := [], alts := [], laidByText := true, laidKinds := [.data, .data, .data, .data, .sentinel, .sentinel, .pinned], laidTests := true, laidLooks := .later }
def BookRightCardSaid : Prop := Claim7.holds Tryz.pinned (.plain (OpenSpec.ofChange bookRightSpec)) bookRightCard

/-- THE SECOND FORM's CARD OF 'quirelaw15.BookPuts'. -/
def bookPutsUptoCard : Claim7 := { stood := { row := bookPutsUptoRow, standIns := [], harness := (true, "9df5dbcf18dc33515e1b81a528856bbf9637424261dabfc8b1c77488deb713ed"), looks := true }, kinds := [], alts := [], laidByText := true, laidKinds := [.data, .data, .data, .data, .sentinel, .sentinel, .pinned], laidTests := true, laidLooks := .later }
def BookPutsUptoCardSaid : Prop := Claim7.holds Tryz.pinned (.plain (OpenSpec.upto bookPutsSpec)) bookPutsUptoCard

/-- THE SECOND FORM's CARD OF 'quirelaw15.BookTyped'. -/
def bookTypedUptoCard : Claim7 := { stood := { row := bookTypedUptoRow, standIns := [], harness := (true, "9df5dbcf18dc33515e1b81a528856bbf9637424261dabfc8b1c77488deb713ed"), looks := true }, kinds := [], alts := [], laidByText := true, laidKinds := [.data, .data, .data, .data, .sentinel, .sentinel, .pinned], laidTests := true, laidLooks := .later }
def BookTypedUptoCardSaid : Prop := Claim7.holds Tryz.pinned (.plain (OpenSpec.upto bookTypedSpec)) bookTypedUptoCard

/-- THE SECOND FORM's CARD OF 'quirelaw15.BookKeeps'. -/
def bookKeepsUptoCard : Claim7 := { stood := { row := bookKeepsUptoRow, standIns := [], harness := (true, "9df5dbcf18dc33515e1b81a528856bbf9637424261dabfc8b1c77488deb713ed"), looks := true }, kinds := [], alts := [], laidByText := true, laidKinds := [.data, .data, .data, .data, .sentinel, .sentinel, .pinned], laidTests := true, laidLooks := .later }
def BookKeepsUptoCardSaid : Prop := Claim7.holds Tryz.pinned (.plain (OpenSpec.upto bookKeepsSpec)) bookKeepsUptoCard

/-- THE SECOND FORM's CARD OF 'quirelaw15.BookBack'. -/
def bookBackUptoCard : Claim7 := { stood := { row := bookBackUptoRow, standIns := [], harness := (true, "9df5dbcf18dc33515e1b81a528856bbf9637424261dabfc8b1c77488deb713ed"), looks := true }, kinds := [], alts := [], laidByText := true, laidKinds := [.data, .data, .data, .data, .sentinel, .sentinel, .pinned], laidTests := true, laidLooks := .later }
def BookBackUptoCardSaid : Prop := Claim7.holds Tryz.pinned (.plain (OpenSpec.upto bookBackSpec)) bookBackUptoCard

/-- THE SECOND FORM's CARD OF 'quirelaw15.BookLooks'. -/
def bookLooksUptoCard : Claim7 := { stood := { row := bookLooksUptoRow, standIns := [], harness := (true, "9df5dbcf18dc33515e1b81a528856bbf9637424261dabfc8b1c77488deb713ed"), looks := true }, kinds := [], alts := [], laidByText := true, laidKinds := [.data, .data, .data, .data, .sentinel, .sentinel, .pinned], laidTests := true, laidLooks := .later }
def BookLooksUptoCardSaid : Prop := Claim7.holds Tryz.pinned (.plain (OpenSpec.upto bookLooksSpec)) bookLooksUptoCard

/-- THE SECOND FORM's CARD OF 'quirelaw15.BookRight'. -/
def bookRightUptoCard : Claim7 := { stood := { row := bookRightUptoRow, standIns := [], harness := (true, "9df5dbcf18dc33515e1b81a528856bbf9637424261dabfc8b1c77488deb713ed"), looks := true }, kinds := [], alts := [], laidByText := true, laidKinds := [.data, .data, .data, .data, .sentinel, .sentinel, .pinned], laidTests := true, laidLooks := .later }
def BookRightUptoCardSaid : Prop := Claim7.holds Tryz.pinned (.plain (OpenSpec.upto bookRightSpec)) bookRightUptoCard
end Rows
end Go.Proofs.YtnafcjaddnkioaaGreatDoor
