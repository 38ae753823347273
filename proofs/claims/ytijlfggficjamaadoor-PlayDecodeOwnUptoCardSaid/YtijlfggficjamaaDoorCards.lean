/-
  DERIVED. GIVEN WITH THE SEED: THE CARDS: each row of YtijlfggficjamaaDoorRows.lean that lists a variable, with what it lists TIED to the program's text (the seventh form; the later family's looks); each row that meets fmt, with fmt's text TOLD by the authors' own Lean function (tested against real Go, not proved from fmt's source: count such statements apart). THE CARD IS WHAT COUNTS. Prove the row's statement (the work); the ties are given (YtijlfggficjamaaDoorTie.lean); close each card by the builder's one call (the guide's Derived/Test/ToyasCard.lean, 'card_holds'). Laid BY PROGRAM, IN A SANDBOX (cutbox-door.mjs). By AI agents, Wed Nov 11 2026. No macro, syntax, notation, axiom, sorry.
-/
import Derived.Test.YtijlfggficjamaaDoorRows
import GoSem.ClaimSeven
namespace Go.Proofs.YtijlfggficjamaaDoor
namespace Rows

/-- THE TIED CARD OF 'kindredlaw26.PlayTextExact'. -/
def playTextExactCard : Claim7 := { stood := { row := playTextExactRow, standIns := [], harness := (true, "f92c0213e9fdb8da79c05049270e700daf2e32104739d22fa9a73134462d4ea9"), looks := true }, kinds := [], alts := [], laidByText := true, laidKinds := [.data, .data, .data, .data], laidTests := true, laidLooks := .later }
def PlayTextExactCardSaid : Prop := Claim7.holds Tryd.pinned (.plain (OpenSpec.ofChange playTextExactSpec)) playTextExactCard

/-- THE TIED CARD OF 'kindredlaw26.PlayDecodeExact'. -/
def playDecodeExactCard : Claim7 := { stood := { row := playDecodeExactRow, standIns := [], harness := (true, "f92c0213e9fdb8da79c05049270e700daf2e32104739d22fa9a73134462d4ea9"), looks := true }, kinds := [], alts := [], laidByText := true, laidKinds := [.data, .data, .data, .data, .sentinel, .sentinel, .data, .pinned], laidTests := true, laidLooks := .later }
def PlayDecodeExactCardSaid : Prop := Claim7.holds Tryd.pinned (.plain (OpenSpec.ofChange playDecodeExactSpec)) playDecodeExactCard

/-- THE TIED CARD OF 'kindredlaw26.PlayByLines'. -/
def playByLinesCard : Claim7 := { stood := { row := playByLinesRow, standIns := [], harness := (true, "f92c0213e9fdb8da79c05049270e700daf2e32104739d22fa9a73134462d4ea9"), looks := true }, kinds := [], alts := [], laidByText := true, laidKinds := [.data, .data, .data, .data, .sentinel, .sentinel, .data, .pinned], laidTests := true, laidLooks := .later }
def PlayByLinesCardSaid : Prop := Claim7.holds Tryd.pinned (.plain (OpenSpec.ofChange playByLinesSpec)) playByLinesCard

/-- THE TIED CARD OF 'kindredlaw26.PlayComesBack'. -/
def playComesBackCard : Claim7 := { stood := { row := playComesBackRow, standIns := [], harness := (true, "f92c0213e9fdb8da79c05049270e700daf2e32104739d22fa9a73134462d4ea9"), looks := true }, kinds := [], alts := [], laidByText := true, laidKinds := [.data, .data, .data, .data, .sentinel, .sentinel, .data, .pinned], laidTests := true, laidLooks := .later }
def PlayComesBackCardSaid : Prop := Claim7.holds Tryd.pinned (.plain (OpenSpec.ofChange playComesBackSpec)) playComesBackCard

/-- THE TIED CARD OF 'kindredlaw26.PlayDecodeOwn'. -/
def playDecodeOwnCard : Claim7 := { stood := { row := playDecodeOwnRow, standIns := [], harness := (true, "f92c0213e9fdb8da79c05049270e700daf2e32104739d22fa9a73134462d4ea9"), looks := true }, kinds := [], alts := [], laidByText := true, laidKinds := [.data, .data, .data, .data, .sentinel, .sentinel, .data, .pinned], laidTests := true, laidLooks := .later }
def PlayDecodeOwnCardSaid : Prop := Claim7.holds Tryd.pinned (.plain (OpenSpec.ofChange playDecodeOwnSpec)) playDecodeOwnCard

/-- THE SECOND FORM's CARD OF 'kindredlaw26.PlayTextExact'. -/
def playTextExactUptoCard : Claim7 := { stood := { row := playTextExactUptoRow, standIns := [], harness := (true, "f92c0213e9fdb8da79c05049270e700daf2e32104739d22fa9a73134462d4ea9"), looks := true }, kinds := [], alts := [], laidByText := true, laidKinds := [.data, .data, .data, .data], laidTests := true, laidLooks := .later }
def PlayTextExactUptoCardSaid : Prop := Claim7.holds Tryd.pinned (.plain (OpenSpec.upto playTextExactSpec)) playTextExactUptoCard

/-- THE SECOND FORM's CARD OF 'kindredlaw26.PlayDecodeExact'. -/
def playDecodeExactUptoCard : Claim7 := { stood := { row := playDecodeExactUptoRow, standIns := [], harness := (true, "f92c0213e9fdb8da79c05049270e700daf2e32104739d22fa9a73134462d4ea9"), looks := true }, kinds := [], alts := [], laidByText := true, laidKinds := [.data, .data, .data, .data, .sentinel, .sentinel, .data, .pinned], laidTests := true, laidLooks := .later }
def PlayDecodeExactUptoCardSaid : Prop := Claim7.holds Tryd.pinned (.plain (OpenSpec.upto playDecodeExactSpec)) playDecodeExactUptoCard

/-- THE SECOND FORM's CARD OF 'kindredlaw26.PlayByLines'. -/
def playByLinesUptoCard : Claim7 := { stood := { row := playByLinesUptoRow, standIns := [], harness := (true, "f92c0213e9fdb8da79c05049270e700daf2e32104739d22fa9a73134462d4ea9"), looks := true }, kinds := [], alts := [], laidByText := true, laidKinds := [.data, .data, .data, .data, .sentinel, .sentinel, .data, .pinned], laidTests := true, laidLooks := .later }
def PlayByLinesUptoCardSaid : Prop := Claim7.holds Tryd.pinned (.plain (OpenSpec.upto playByLinesSpec)) playByLinesUptoCard

/-- THE SECOND FORM's CARD OF 'kindredlaw26.PlayComesBack'. -/
def playComesBackUptoCard : Claim7 := { stood := { row := playComesBackUptoRow, standIns := [], harness := (true, "f92c0213e9fdb8da79c05049270e700daf2e32104739d22fa9a73134462d4ea9"), looks := true }, kinds := [], alts := [], laidByText := true, laidKinds := [.data, .data, .data, .data, .sentinel, .sentinel, .data, .pinned], laidTests := true, laidLooks := .later }
def PlayComesBackUptoCardSaid : Prop := Claim7.holds Tryd.pinned (.plain (OpenSpec.upto playComesBackSpec)) playComesBackUptoCard

/-- THE SECOND FORM's CARD OF 'kindredlaw26.PlayDecodeOwn'. -/
def playDecodeOwnUptoCard : Claim7 := { stood := { row := playDecodeOwnUptoRow, standIns := [], harness := (true, "f92c0213e9fdb8da79c05049270e700daf2e32104739d22fa9a73134462d4ea9"), looks := true }, kinds := [], alts := [], laidByText := true, laidKinds := [.data, .data, .data, .data, .sentinel, .sentinel, .data, .pinned], laidTests := true, laidLooks := .later }
def PlayDecodeOwnUptoCardSaid : Prop := Claim7.holds Tryd.pinned (.plain (OpenSpec.upto playDecodeOwnSpec)) playDecodeOwnUptoCard
end Rows
end Go.Proofs.YtijlfggficjamaaDoor
