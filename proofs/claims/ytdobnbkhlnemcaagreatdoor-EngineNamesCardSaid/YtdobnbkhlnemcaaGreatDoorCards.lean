/-
  DERIVED. GIVEN WITH THE SEED: THE CARDS: each row of YtdobnbkhlnemcaaGreatDoorRows.lean that lists a variable, with what it lists TIED to the program's text (the seventh form; the later family's looks); each row that meets fmt, with fmt's text TOLD by the authors' own Lean function (tested against real Go, not proved from fmt's source: count such statements apart). THE CARD IS WHAT COUNTS. Prove the row's statement (the work); the ties are given (YtdobnbkhlnemcaaGreatDoorTie.lean); close each card by the builder's one call (the guide's Derived/Test/ToyasCard.lean, 'card_holds'). Laid BY PROGRAM, IN A SANDBOX (cutbox-door.mjs). By AI agents, Wed Nov 11 2026. No macro, syntax, notation, axiom, sorry.
-/
import Derived.Test.YtdobnbkhlnemcaaGreatDoorRows
import GoSem.ClaimSeven
namespace Go.Proofs.YtdobnbkhlnemcaaGreatDoor
namespace Rows

/-- THE TIED CARD OF 'kindredlaw17.EngineNames'. -/
def engineNamesCard : Claim7 := { stood := { row := engineNamesRow, standIns := [], harness := (true, "ba7ece9c041bc985b4036868185e25d269e97da57ac0e88cea362e0594cf3a48"), looks := true }, kinds := [], alts := [], laidByText := true, laidKinds := [.data, .data, .data, .data, .data, .sentinel, .sentinel], laidTests := true, laidLooks := .later }
def EngineNamesCardSaid : Prop := Claim7.holds Tryz.pinned (.plain (OpenSpec.ofChange engineNamesSpec)) engineNamesCard

/-- THE TIED CARD OF 'kindredlaw23.InspectNames'. -/
def inspectNamesCard : Claim7 := { stood := { row := inspectNamesRow, standIns := [], harness := (true, "ba7ece9c041bc985b4036868185e25d269e97da57ac0e88cea362e0594cf3a48"), looks := true }, kinds := [], alts := [], laidByText := true, laidKinds := [.data, .data, .data, .data, .sentinel, .sentinel], laidTests := true, laidLooks := .later }
def InspectNamesCardSaid : Prop := Claim7.holds Tryz.pinned (.plain (OpenSpec.ofChange inspectNamesSpec)) inspectNamesCard

/-- THE SECOND FORM's CARD OF 'kindredlaw17.EngineNames'. -/
def engineNamesUptoCard : Claim7 := { stood := { row := engineNamesUptoRow, standIns := [], harness := (true, "ba7ece9c041bc985b4036868185e25d269e97da57ac0e88cea362e0594cf3a48"), looks := true }, kinds := [], alts := [], laidByText := true, laidKinds := [.data, .data, .data, .data, .data, .sentinel, .sentinel], laidTests := true, laidLooks := .later }
def EngineNamesUptoCardSaid : Prop := Claim7.holds Tryz.pinned (.plain (OpenSpec.upto engineNamesSpec)) engineNamesUptoCard

/-- THE SECOND FORM's CARD OF 'kindredlaw23.InspectNames'. -/
def inspectNamesUptoCard : Claim7 := { stood := { row := inspectNamesUptoRow, standIns := [], harness := (true, "ba7ece9c041bc985b4036868185e25d269e97da57ac0e88cea362e0594cf3a48"), looks := true }, kinds := [], alts := [], laidByText := true, laidKinds := [.data, .data, .data, .data, .sentinel, .sentinel], laidTests := true, laidLooks := .later }
def InspectNamesUptoCardSaid : Prop := Claim7.holds Tryz.pinned (.plain (OpenSpec.upto inspectNamesSpec)) inspectNamesUptoCard
end Rows
end Go.Proofs.YtdobnbkhlnemcaaGreatDoor
