/- Plain lemmas on bytes and lists for the texts of package play: no program in sight. -/
import Derived.WalkKit
import Derived.Lib.Hide
import Derived.Lib.Join
namespace Go.Proofs.YtijlfggficjamaaDoor
set_option linter.unusedVariables false
set_option linter.unusedSimpArgs false
open Go Go.RowKit
open Go.Lib (hid)

/-- a list of bytes as a string -/
abbrev S (l : List UInt8) : ByteArray := ⟨l.toArray⟩
theorem S_app (a b : List UInt8) : S a ++ S b = S (a ++ b) := by
  apply ByteArray.ext
  simp [S, ByteArray.data_append]
theorem S_data (s : ByteArray) : S s.data.toList = s := by simp [S]
theorem S_size (l : List UInt8) : (S l).size = l.length := by simp [S, ByteArray.size]
theorem S_list (l : List UInt8) : (S l).data.toList = l := by simp [S]

def hexdig : List UInt8 := [48,49,50,51,52,53,54,55,56,57,65,66,67,68,69,70]
def hexd (n : Nat) : UInt8 := hexdig.getD n 0
def plainB (c : UInt8) : Bool := 32 < c.toNat && c.toNat < 127 && c.toNat != 37
def escB (c : UInt8) : List UInt8 := if plainB c then [c] else [37, hexd (c.toNat / 16), hexd (c.toNat % 16)]
def escL (l : List UInt8) : List UInt8 := l.flatMap escB
def esc (l : List UInt8) : List UInt8 := if l = [] then [37] else escL l

theorem escB_len (c : UInt8) : (escB c).length ≤ 3 := by unfold escB; split <;> simp
theorem escL_len (l : List UInt8) : (escL l).length ≤ 3 * l.length := by
  induction l with
  | nil => simp [escL]
  | cons c l ih => have := escB_len c; simp only [escL, List.flatMap_cons, List.length_append, List.length_cons] at *; omega
theorem esc_len (l : List UInt8) : (esc l).length ≤ 3 * l.length + 1 := by
  unfold esc; have := escL_len l; split <;> simp; omega
theorem take_snoc (s : ByteArray) (k : Nat) (h : k < s.size) : s.data.toList.take (k + 1) = s.data.toList.take k ++ [s[k]] := by
  rw [List.take_succ_eq_append_getElem (by simpa using h)]; rfl
theorem escL_snoc (s : ByteArray) (k : Nat) (h : k < s.size) : escL (s.data.toList.take (k + 1)) = escL (s.data.toList.take k) ++ escB s[k] := by
  rw [take_snoc s k h]; simp [escL]
theorem escL_take_len (s : ByteArray) (k : Nat) (h : k ≤ s.size) : (escL (s.data.toList.take k)).length ≤ 3 * k := by
  have := escL_len (s.data.toList.take k)
  have h2 : (s.data.toList.take k).length ≤ k := List.length_take_le _ _
  omega
theorem digits_cut : ∀ i : Fin 16, (⟨#[48, 49, 50, 51, 52, 53, 54, 55, 56, 57, 65, 66, 67, 68, 69, 70]⟩ : ByteArray).extract i.val (i.val + 1) = S [hexd i.val] := by
  decide +kernel
theorem digits_cut' (i : Nat) (h : i < 16) : (⟨#[48, 49, 50, 51, 52, 53, 54, 55, 56, 57, 65, 66, 67, 68, 69, 70]⟩ : ByteArray).extract i (i + 1) = S [hexd i] := digits_cut ⟨i, h⟩
theorem size_list (s : ByteArray) : s.data.toList.length = s.size := Array.length_toList
theorem isEmpty_of_pos (s : ByteArray) (h : 0 < s.size) : s.toList.isEmpty = false := by
  rw [ByteArray.toList_eq]
  cases hl : s.data.toList with
  | nil => have : s.data.toList.length = 0 := by rw [hl]; rfl
           rw [size_list] at this; omega
  | cons a l => rfl
theorem plainB_false {c : UInt8} (h : c.toNat < 33 ∨ 126 < c.toNat ∨ c.toNat = 37) : plainB c = false := by
  simp only [plainB, Bool.and_eq_false_iff, decide_eq_false_iff_not, bne_eq_false_iff_eq]; omega
theorem plainB_true {c : UInt8} (h1 : 33 ≤ c.toNat) (h2 : c.toNat ≤ 126) (h3 : c.toNat ≠ 37) : plainB c = true := by
  simp only [plainB, Bool.and_eq_true, decide_eq_true_eq, bne_iff_ne]; omega
end Go.Proofs.YtijlfggficjamaaDoor
