/- Plain Lean: how a step is written. No program in sight. -/
import Derived.Test.YtijlfggficjamaaDoorPlayData
import Derived.Lib.ItoaNum
namespace Go.Proofs.YtijlfggficjamaaDoor
set_option linter.unusedVariables false
set_option linter.unusedSimpArgs false
open Go Go.RowKit
open Go.Lib (hid)

structure RowM where
  word : List UInt8
  n : Nat
  s : Nat
  o : Bool
  a : Bool
/-- the table of steps, by their kinds -/
def rowTab : List RowM := [
  ⟨[], 0, 0, false, false⟩, ⟨[99,114,101,97,116,101], 3, 0, true, false⟩, ⟨[111,112,101,110], 0, 0, false, false⟩, ⟨[105,110,115,101,114,116], 1, 1, false, false⟩,
  ⟨[100,101,108,101,116,101], 1, 0, false, false⟩, ⟨[103,101,116], 1, 0, false, false⟩, ⟨[116,111,112], 1, 1, false, false⟩, ⟨[114,97,100,105,117,115], 1, 1, false, false⟩,
  ⟨[99,111,117,110,116], 0, 0, false, false⟩, ⟨[115,121,110,99], 0, 0, false, false⟩, ⟨[99,111,109,112,97,99,116], 0, 0, false, false⟩, ⟨[99,108,111,115,101], 0, 0, false, false⟩,
  ⟨[97,114,109], 2, 0, false, false⟩, ⟨[99,114,97,115,104], 2, 1, false, true⟩, ⟨[105,109,97,103,101], 0, 0, false, false⟩, ⟨[114,111,111,109], 1, 0, false, false⟩,
  ⟨[105,110,115,112,101,99,116], 0, 0, false, false⟩, ⟨[114,101,112,97,105,114], 0, 0, false, false⟩, ⟨[103,114,111,117,112,115], 2, 0, false, false⟩, ⟨[106,111,105,110], 1, 0, false, false⟩,
  ⟨[115,101,110,100], 1, 0, false, false⟩, ⟨[102,111,108,108,111,119], 1, 1, false, false⟩, ⟨[97,115,107], 0, 1, false, false⟩, ⟨[115,112,111,105,108], 2, 1, false, false⟩]
def rowOf (k : Nat) : RowM := rowTab.getD k ⟨[], 0, 0, false, false⟩
def RowM.cells (r : RowM) : List Value := [.string (S r.word), .int .i64 r.n, .int .i64 r.s, .bool r.o, .bool r.a]

def numsOf (s : StepM) (N k : Nat) (i : Nat) : List (List UInt8) := (List.range i).map fun i => Lib.itoa (s.num (k * N + i))
def textsOf (s : StepM) (T k : Nat) (i : Nat) : List (List UInt8) := (List.range i).map fun i => esc (s.word (k * T + i)).data.toList
def grp (s : StepM) (N T k : Nat) : List (List UInt8) := numsOf s N k N ++ textsOf s T k T
def body (s : StepM) (N T t : Nat) : List (List UInt8) := (List.range t).flatMap (grp s N T)
def timesOf (r : RowM) (s : StepM) : Nat := if r.a then s.ss.length else 1
def partsL (s : StepM) : List (List UInt8) :=
  let r := rowOf s.kind.toNat
  r.word :: (if r.o then [Lib.itoa s.w, Lib.itoa s.c, Lib.itoa s.m] else body s r.n r.s (timesOf r s))
def lineL (s : StepM) : List UInt8 := Lib.join (partsL s) [32] ++ [10]
def shown (s : StepM) : Bool := 0 < s.kind && s.kind < 24
def textL (l : List StepM) : List UInt8 := (l.filter shown).flatMap lineL

theorem body_succ (s : StepM) (N T t : Nat) : body s N T (t + 1) = body s N T t ++ grp s N T t := by simp [body, List.range_succ, List.flatMap_append]
theorem nums_succ (s : StepM) (N k i : Nat) : numsOf s N k (i + 1) = numsOf s N k i ++ [Lib.itoa (s.num (k * N + i))] := by simp [numsOf, List.range_succ]
theorem texts_succ (s : StepM) (T k i : Nat) : textsOf s T k (i + 1) = textsOf s T k i ++ [esc (s.word (k * T + i)).data.toList] := by simp [textsOf, List.range_succ]
theorem nums_len (s : StepM) (N k i : Nat) : (numsOf s N k i).length = i := by simp [numsOf]
theorem texts_len (s : StepM) (T k i : Nat) : (textsOf s T k i).length = i := by simp [textsOf]
theorem grp_len (s : StepM) (N T k : Nat) : (grp s N T k).length = N + T := by simp [grp, nums_len, texts_len]
theorem body_len (s : StepM) (N T t : Nat) : (body s N T t).length = t * (N + T) := by
  induction t with
  | zero => simp [body]
  | succ t ih => rw [body_succ, List.length_append, ih, grp_len, Nat.succ_mul]
theorem row_small (k : Nat) : (rowOf k).n ≤ 3 ∧ (rowOf k).s ≤ 1 ∧ (rowOf k).word.length ≤ 7 := by
  unfold rowOf
  rcases Nat.lt_or_ge k 24 with h | h
  · have : ∀ i : Fin 24, (rowTab.getD i.val ⟨[], 0, 0, false, false⟩).n ≤ 3 ∧ (rowTab.getD i.val ⟨[], 0, 0, false, false⟩).s ≤ 1 ∧ (rowTab.getD i.val ⟨[], 0, 0, false, false⟩).word.length ≤ 7 := by decide
    exact this ⟨k, h⟩
  · rw [getD_ge _ _ _ (by simpa [rowTab] using h)]; simp
theorem dec_len : ∀ (k u : Nat), u < 10 ^ (k + 1) → (Lib.decDigits u).length ≤ k + 1
  | 0, u, h => by rw [Lib.decDigits, dif_pos (by simpa using h)]; simp
  | k + 1, u, h => by
    by_cases hu : u < 10
    · rw [Lib.decDigits, dif_pos hu]; simp
    · rw [Lib.decDigits, dif_neg hu, List.length_append]
      have := dec_len k (u / 10) (by rw [Nat.pow_succ] at h; omega)
      simp; omega
theorem itoa_len (n : Int) (h0 : -9223372036854775808 ≤ n) (h1 : n ≤ 9223372036854775807) : (Lib.itoa n).length ≤ 20 := by
  unfold Lib.itoa
  split
  · have := dec_len 18 n.natAbs (by omega)
    simp; omega
  · have := dec_len 18 n.toNat (by omega)
    omega
theorem StepM.num_bd (s : StepM) (h : ∀ x ∈ s.ns, -9223372036854775808 ≤ x ∧ x ≤ 9223372036854775807) (k : Nat) : -9223372036854775808 ≤ s.num k ∧ s.num k ≤ 9223372036854775807 := by
  unfold StepM.num
  rcases Nat.lt_or_ge k s.ns.length with hk | hk
  · rw [List.getD_eq_getElem?_getD, List.getElem?_eq_getElem hk]; exact h _ (List.getElem_mem hk)
  · rw [getD_ge _ _ _ hk]; omega
theorem StepM.word_bd (s : StepM) (B : Nat) (h : ∀ x ∈ s.ss, x.size ≤ B) (k : Nat) : (s.word k).size ≤ B := by
  unfold StepM.word
  rcases Nat.lt_or_ge k s.ss.length with hk | hk
  · rw [List.getD_eq_getElem?_getD, List.getElem?_eq_getElem hk]; exact h _ (List.getElem_mem hk)
  · rw [getD_ge _ _ _ hk]; exact Nat.zero_le _
end Go.Proofs.YtijlfggficjamaaDoor
