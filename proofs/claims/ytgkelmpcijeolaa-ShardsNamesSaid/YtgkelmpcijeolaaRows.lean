/-
  No cell of these rows narrows 'for every input' (looked for: loops, veiled, ifaces, maps, wideKeys, modest, calm, conditions, laid).
  DERIVED. THE GIVEN ROWS OF THIS SEAT. 5 by the template 'for every input the law returns true; each argument reads behind the call as it read before'; 0 by the template 'total and deterministic' (their statements: YtgkelmpcijeolaaTotals.lean).
  GIVEN WITH THE SEED: the statements are not yours to turn. If you find one false, say at which input.
  Laid BY PROGRAM, IN A SANDBOX (cutbox-rows.mjs): the forced cells as the released guide's own fill.sh prints them over the translation 24b0687bdc9ab480… (all of the seat's roots in one cut). By AI agents, Wed Nov 11 2026. No macro, syntax, notation, axiom, sorry.
-/
import Derived.Test.YtgkelmpcijeolaaChecked
import GoSem.Claim
import GoSem.ClaimJoined
import GoSem.ClaimMapViews
import Derived.JoinedTies
import Derived.KernelRfl
namespace Go.Proofs.Ytgkelmpcijeolaa
/- THE CELL 'sum', in the pinned program and in every row, IS THE sha256 OF THE DUMP (.gsa) THAT YtgkelmpcijeolaaProg.lean LOADS. Nothing in Lean hashes anything: it is a label: what it is worth is what the hold of that sum in a sandbox is worth. -/
noncomputable def Try.pinned : Pinned := { name := "ytgkelmpcijeolaa", sum := "24b0687bdc9ab480039ccdc4a644c2861ee74cb6182965cf1773163fb81ebb3a", checked := Try.checked }
namespace Rows
def none {H : Type} : Left H := { results := [], args := [] }

/-- 'kindredlaw15.KeepNames': WHATEVER THE INPUT: true; the input reads as it did. -/
def keepNamesSpec : ChangeSpec := { name := "keepNames", fn := fun _ => fun
  | [] => { results := [.lit (.bool true)], args := [] }
  | _ => none }
def keepNamesRow : OpenClaim := { program := "ytgkelmpcijeolaa", sum := "24b0687bdc9ab480039ccdc4a644c2861ee74cb6182965cf1773163fb81ebb3a", func := "kindred/kindredlaw15.KeepNames", spec := "keepNames", apart := false }
def KeepNamesSaid : Prop := keepNamesRow.holds Try.pinned (OpenSpec.ofChange keepNamesSpec)

/-- ITS FALSE NEIGHBOUR: 'it returns false'. Refute it at one input. -/
def keepNamesWrong : ChangeSpec := { name := "keepNames", fn := fun _ => fun
  | [] => { results := [.lit (.bool false)], args := [] }
  | _ => none }
def KeepNamesWrongFalsely : Prop := keepNamesRow.holds Try.pinned (OpenSpec.ofChange keepNamesWrong)

/-- 'kindredlaw16.CompactNames': WHATEVER THE INPUT: true; the input reads as it did. -/
def compactNamesSpec : ChangeSpec := { name := "compactNames", fn := fun _ => fun
  | [] => { results := [.lit (.bool true)], args := [] }
  | _ => none }
def compactNamesRow : OpenClaim := { program := "ytgkelmpcijeolaa", sum := "24b0687bdc9ab480039ccdc4a644c2861ee74cb6182965cf1773163fb81ebb3a", func := "kindred/kindredlaw16.CompactNames", spec := "compactNames", apart := false }
def CompactNamesSaid : Prop := compactNamesRow.holds Try.pinned (OpenSpec.ofChange compactNamesSpec)

/-- ITS FALSE NEIGHBOUR: 'it returns false'. Refute it at one input. -/
def compactNamesWrong : ChangeSpec := { name := "compactNames", fn := fun _ => fun
  | [] => { results := [.lit (.bool false)], args := [] }
  | _ => none }
def CompactNamesWrongFalsely : Prop := compactNamesRow.holds Try.pinned (OpenSpec.ofChange compactNamesWrong)

/-- 'kindredlaw22.FollowNames': WHATEVER THE INPUT: true; the input reads as it did. -/
def followNamesSpec : ChangeSpec := { name := "followNames", fn := fun _ => fun
  | [] => { results := [.lit (.bool true)], args := [] }
  | _ => none }
def followNamesRow : OpenClaim := { program := "ytgkelmpcijeolaa", sum := "24b0687bdc9ab480039ccdc4a644c2861ee74cb6182965cf1773163fb81ebb3a", func := "kindred/kindredlaw22.FollowNames", spec := "followNames", apart := false }
def FollowNamesSaid : Prop := followNamesRow.holds Try.pinned (OpenSpec.ofChange followNamesSpec)

/-- ITS FALSE NEIGHBOUR: 'it returns false'. Refute it at one input. -/
def followNamesWrong : ChangeSpec := { name := "followNames", fn := fun _ => fun
  | [] => { results := [.lit (.bool false)], args := [] }
  | _ => none }
def FollowNamesWrongFalsely : Prop := followNamesRow.holds Try.pinned (OpenSpec.ofChange followNamesWrong)

/-- 'kindredlaw21.ShardsNames': WHATEVER THE INPUT: true; the input reads as it did. -/
def shardsNamesSpec : ChangeSpec := { name := "shardsNames", fn := fun _ => fun
  | [] => { results := [.lit (.bool true)], args := [] }
  | _ => none }
def shardsNamesRow : OpenClaim := { program := "ytgkelmpcijeolaa", sum := "24b0687bdc9ab480039ccdc4a644c2861ee74cb6182965cf1773163fb81ebb3a", func := "kindred/kindredlaw21.ShardsNames", spec := "shardsNames", apart := false }
def ShardsNamesSaid : Prop := shardsNamesRow.holds Try.pinned (OpenSpec.ofChange shardsNamesSpec)

/-- ITS FALSE NEIGHBOUR: 'it returns false'. Refute it at one input. -/
def shardsNamesWrong : ChangeSpec := { name := "shardsNames", fn := fun _ => fun
  | [] => { results := [.lit (.bool false)], args := [] }
  | _ => none }
def ShardsNamesWrongFalsely : Prop := shardsNamesRow.holds Try.pinned (OpenSpec.ofChange shardsNamesWrong)

/-- 'kindredlaw25.FrontNames': WHATEVER THE INPUT: true; the input reads as it did. -/
def frontNamesSpec : ChangeSpec := { name := "frontNames", fn := fun _ => fun
  | [] => { results := [.lit (.bool true)], args := [] }
  | _ => none }
def frontNamesRow : OpenClaim := { program := "ytgkelmpcijeolaa", sum := "24b0687bdc9ab480039ccdc4a644c2861ee74cb6182965cf1773163fb81ebb3a", func := "kindred/kindredlaw25.FrontNames", spec := "frontNames", apart := false }
def FrontNamesSaid : Prop := frontNamesRow.holds Try.pinned (OpenSpec.ofChange frontNamesSpec)

/-- ITS FALSE NEIGHBOUR: 'it returns false'. Refute it at one input. -/
def frontNamesWrong : ChangeSpec := { name := "frontNames", fn := fun _ => fun
  | [] => { results := [.lit (.bool false)], args := [] }
  | _ => none }
def FrontNamesWrongFalsely : Prop := frontNamesRow.holds Try.pinned (OpenSpec.ofChange frontNamesWrong)

/- THE SECOND FORM. 'bulk': how many values and letters a reading holds, each counted each time it is reached (what is shared counts as often as it is met; a slice's spare places count too). A statement '..UptoSaid' is the law's where the arguments, and the package variables that the reading takes, are together of bulk at most 1048576: NARROWER than '..Said'. Prove '..Said' where nothing that the law and all that it calls make is longer than what came in: it says more and counts as full. Else prove '..UptoSaid'. A law counts once. -/
mutual
def uptoBulk {H : Type} : DataW H → Nat
  | .lit (.string bytes) => bytes.length + 1
  | .lit _ => 1
  | .nil => 1
  | .ptr d => uptoBulk d + 1
  | .slice elems spare => uptoBulkAll elems + uptoBulkAll spare + 1
  | .agg parts => uptoBulkAll parts + 1
  | .iface _ d => uptoBulk d + 1
  | .map entries => uptoBulkEntries entries + 1
  | .held _ => 1
def uptoBulkAll {H : Type} : List (DataW H) → Nat
  | [] => 0
  | d :: r => uptoBulk d + uptoBulkAll r
def uptoBulkEntries {H : Type} : List (Lit × DataW H) → Nat
  | [] => 0
  | x :: r => uptoBulkEntry x + uptoBulkEntries r
def uptoBulkEntry {H : Type} : Lit × DataW H → Nat
  | (.string bytes, d) => bytes.length + uptoBulk d + 1
  | (_, d) => uptoBulk d + 1
 end
def uptoSmall : (H : Type) → List (DataW H) → Bool := fun _ ds => decide (uptoBulkAll ds ≤ 1048576)
def OpenSpec.upto (s : _root_.Go.ChangeSpec) : _root_.Go.OpenSpec := { _root_.Go.OpenSpec.ofChange s with cond := some uptoSmall }

/-- 'kindredlaw15.KeepNames', WHERE WHAT IT READS IS OF BULK AT MOST 1048576: true; the input reads as it did. -/
def keepNamesUptoRow : OpenClaim := { program := "ytgkelmpcijeolaa", sum := "24b0687bdc9ab480039ccdc4a644c2861ee74cb6182965cf1773163fb81ebb3a", func := "kindred/kindredlaw15.KeepNames", spec := "keepNames", apart := false, narrowed := true }
def KeepNamesUptoSaid : Prop := keepNamesUptoRow.holds Try.pinned (OpenSpec.upto keepNamesSpec)

/-- 'kindredlaw16.CompactNames', WHERE WHAT IT READS IS OF BULK AT MOST 1048576: true; the input reads as it did. -/
def compactNamesUptoRow : OpenClaim := { program := "ytgkelmpcijeolaa", sum := "24b0687bdc9ab480039ccdc4a644c2861ee74cb6182965cf1773163fb81ebb3a", func := "kindred/kindredlaw16.CompactNames", spec := "compactNames", apart := false, narrowed := true }
def CompactNamesUptoSaid : Prop := compactNamesUptoRow.holds Try.pinned (OpenSpec.upto compactNamesSpec)

/-- 'kindredlaw22.FollowNames', WHERE WHAT IT READS IS OF BULK AT MOST 1048576: true; the input reads as it did. -/
def followNamesUptoRow : OpenClaim := { program := "ytgkelmpcijeolaa", sum := "24b0687bdc9ab480039ccdc4a644c2861ee74cb6182965cf1773163fb81ebb3a", func := "kindred/kindredlaw22.FollowNames", spec := "followNames", apart := false, narrowed := true }
def FollowNamesUptoSaid : Prop := followNamesUptoRow.holds Try.pinned (OpenSpec.upto followNamesSpec)

/-- 'kindredlaw21.ShardsNames', WHERE WHAT IT READS IS OF BULK AT MOST 1048576: true; the input reads as it did. -/
def shardsNamesUptoRow : OpenClaim := { program := "ytgkelmpcijeolaa", sum := "24b0687bdc9ab480039ccdc4a644c2861ee74cb6182965cf1773163fb81ebb3a", func := "kindred/kindredlaw21.ShardsNames", spec := "shardsNames", apart := false, narrowed := true }
def ShardsNamesUptoSaid : Prop := shardsNamesUptoRow.holds Try.pinned (OpenSpec.upto shardsNamesSpec)

/-- 'kindredlaw25.FrontNames', WHERE WHAT IT READS IS OF BULK AT MOST 1048576: true; the input reads as it did. -/
def frontNamesUptoRow : OpenClaim := { program := "ytgkelmpcijeolaa", sum := "24b0687bdc9ab480039ccdc4a644c2861ee74cb6182965cf1773163fb81ebb3a", func := "kindred/kindredlaw25.FrontNames", spec := "frontNames", apart := false, narrowed := true }
def FrontNamesUptoSaid : Prop := frontNamesUptoRow.holds Try.pinned (OpenSpec.upto frontNamesSpec)

end Rows
end Go.Proofs.Ytgkelmpcijeolaa
