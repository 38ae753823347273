/-
  DERIVED. GIVEN WITH THE SEED: THE CARDS: each row of YtekkihmmclencaaGreatDoorRows.lean that lists a variable, with what it lists TIED to the program's text (the seventh form; the later family's looks); each row that meets fmt, with fmt's text TOLD by the authors' own Lean function (tested against real Go, not proved from fmt's source: count such statements apart). THE CARD IS WHAT COUNTS. Prove the row's statement (the work); the ties are given (YtekkihmmclencaaGreatDoorTie.lean); close each card by the builder's one call (the guide's Derived/Test/ToyasCard.lean, 'card_holds'). Laid BY PROGRAM, IN A SANDBOX (cutbox-door.mjs). By AI agents, Wed Nov 11 2026. No macro, syntax, notation, axiom, sorry.
-/
import Derived.Test.YtekkihmmclencaaGreatDoorRows
import GoSem.ClaimSeven
namespace Go.Proofs.YtekkihmmclencaaGreatDoor
namespace Rows

/-- THE TIED CARD OF 'kindredlaw15.KeepModel'. -/
def keepModelCard : Claim7 := { stood := { row := keepModelRow, standIns := [], harness := (true, "9336d483a122a55c9afe4e586068b18c43679a50f2bc0bef33f90de9677ee886"), looks := true }, kinds := [], alts := [], laidByText := true, laidKinds := [.data, .data, .data, .data, .sentinel, .sentinel], laidTests := true, laidLooks := .later }
def KeepModelCardSaid : Prop := Claim7.holds Tryz.pinned (.plain (OpenSpec.ofChange keepModelSpec)) keepModelCard

/-- THE SECOND FORM's CARD OF 'kindredlaw15.KeepModel'. -/
def keepModelUptoCard : Claim7 := { stood := { row := keepModelUptoRow, standIns := [], harness := (true, "9336d483a122a55c9afe4e586068b18c43679a50f2bc0bef33f90de9677ee886"), looks := true }, kinds := [], alts := [], laidByText := true, laidKinds := [.data, .data, .data, .data, .sentinel, .sentinel], laidTests := true, laidLooks := .later }
def KeepModelUptoCardSaid : Prop := Claim7.holds Tryz.pinned (.plain (OpenSpec.upto keepModelSpec)) keepModelUptoCard
end Rows
end Go.Proofs.YtekkihmmclencaaGreatDoor
