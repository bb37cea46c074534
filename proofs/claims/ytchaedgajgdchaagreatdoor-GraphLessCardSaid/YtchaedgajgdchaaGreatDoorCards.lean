/-
  DERIVED. GIVEN WITH THE SEED: THE CARDS: each row of YtchaedgajgdchaaGreatDoorRows.lean that lists a variable, with what it lists TIED to the program's text (the seventh form; the later family's looks); each row that meets fmt, with fmt's text TOLD by the authors' own Lean function (tested against real Go, not proved from fmt's source: count such statements apart). THE CARD IS WHAT COUNTS. Prove the row's statement (the work); the ties are given (YtchaedgajgdchaaGreatDoorTie.lean); close each card by the builder's one call (the guide's Derived/Test/ToyasCard.lean, 'card_holds'). Laid BY PROGRAM, IN A SANDBOX (cutbox-door.mjs). By AI agents, Wed Nov 11 2026. No macro, syntax, notation, axiom, sorry.
-/
import Derived.Test.YtchaedgajgdchaaGreatDoorRows
import GoSem.ClaimSeven
namespace Go.Proofs.YtchaedgajgdchaaGreatDoor
namespace Rows

/-- THE TIED CARD OF 'quirelaw18.GraphLess'. -/
def graphLessCard : Claim7 := { stood := { row := graphLessRow, standIns := [], harness := (true, "1d583516b47a07a215880845210a7b5b8fd27034d5dad5d9f9ab7a6018dfbb80"), looks := true }, kinds := [], alts := [], laidByText := true, laidKinds := [.data, .data, .data, .data, .sentinel, .sentinel, .pinned], laidTests := true, laidLooks := .later }
def GraphLessCardSaid : Prop := Claim7.holds Tryz.pinned (.plain (OpenSpec.ofChange graphLessSpec)) graphLessCard

/-- THE SECOND FORM's CARD OF 'quirelaw18.GraphLess'. -/
def graphLessUptoCard : Claim7 := { stood := { row := graphLessUptoRow, standIns := [], harness := (true, "1d583516b47a07a215880845210a7b5b8fd27034d5dad5d9f9ab7a6018dfbb80"), looks := true }, kinds := [], alts := [], laidByText := true, laidKinds := [.data, .data, .data, .data, .sentinel, .sentinel, .pinned], laidTests := true, laidLooks := .later }
def GraphLessUptoCardSaid : Prop := Claim7.holds Tryz.pinned (.plain (OpenSpec.upto graphLessSpec)) graphLessUptoCard
end Rows
end Go.Proofs.YtchaedgajgdchaaGreatDoor
