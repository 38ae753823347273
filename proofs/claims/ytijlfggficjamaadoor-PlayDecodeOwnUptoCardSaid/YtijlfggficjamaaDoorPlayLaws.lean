/- Laws on single operations that the walks of package play want: over any program. -/
import Derived.Test.YtijlfggficjamaaDoorPlayPlain
import Derived.WalkSpells
import Derived.WalkLawsBesides
namespace Go.Proofs.YtijlfggficjamaaDoor
set_option linter.unusedVariables false
set_option linter.unusedSimpArgs false
open Go Go.RowKit
open Go.Lib (hid)

/-- string([]byte{c}) of a new block of one byte -/
theorem conv_one {P : Program} (w : World) (src dst e : TypeId) (n : Int)
    (hs : P.underlying src = some (.slice e)) (he : P.underlying e = some (.int .u8)) (hd : P.underlying dst = some .string) (b : Nat)
    (hc : w.cell? ⟨b, 0, none⟩ = some (.int .u8 n)) :
    (convert src dst (.slice (some ⟨b, 0, none⟩) 1 1)).run P w = .ok (.string (S [UInt8.ofNat n.toNat])) w := by
  rw [run_convert_bytes_string w src dst e _ _ _ hs he hd]
  refine run_bytesToString w ⟨b, 0, none⟩ 1 1 [n] ?_
  simp [loadCells, hc, go_sem]
end Go.Proofs.YtijlfggficjamaaDoor
