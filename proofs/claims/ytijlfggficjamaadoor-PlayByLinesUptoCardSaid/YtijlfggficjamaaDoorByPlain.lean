/- Plain Lean: a script behind a script. No program in sight. -/
import Derived.Test.YtijlfggficjamaaDoorDecPlain
namespace Go.Proofs.YtijlfggficjamaaDoor
set_option linter.unusedVariables false
set_option linter.unusedSimpArgs false
open Go Go.RowKit
open Go.Lib (hid)

theorem split_last (c : UInt8) : ∀ (p r : List UInt8), splitAt' c (p ++ c :: r) = splitAt' c p ++ splitAt' c r
  | [], r => by rw [List.nil_append, split_sep]; rfl
  | x :: p, r => by
    have ih := split_last c p r
    rw [List.cons_append, splitAt', splitAt']
    by_cases h : x = c
    · rw [if_pos h, if_pos h, ih]; rfl
    · rw [if_neg h, if_neg h, ih]
      cases hs : splitAt' c p with
      | nil => exact absurd hs (split_ne c p)
      | cons a q => rfl
theorem lines_app (p r : List UInt8) : linesS (p ++ 10 :: r) = splitAt' 10 p ++ linesS r := by
  unfold linesS
  rw [split_last]
  have hne := split_ne 10 r
  obtain ⟨x, hx⟩ : ∃ x, (splitAt' 10 r).getLast? = some x := ⟨_, List.getLast?_eq_some_getLast hne⟩
  rw [List.getLast?_append, hx, Option.some_or, List.dropLast_append_of_ne_nil hne]
  cases x <;> rfl
theorem lines_end (p : List UInt8) : linesS (p ++ [10]) = splitAt' 10 p := by
  rw [lines_app, lines_nil, List.append_nil]
theorem split_count (c : UInt8) : ∀ l : List UInt8, (splitAt' c l).length = l.count c + 1
  | [] => rfl
  | x :: r => by
    have ih := split_count c r
    rw [splitAt']
    by_cases h : x = c
    · rw [if_pos h, h, List.count_cons_self, List.length_cons, ih]
    · rw [if_neg h, List.count_cons_of_ne h]
      cases hs : splitAt' c r with
      | nil => exact absurd hs (split_ne c r)
      | cons a q => rw [hs] at ih; exact ih
def Dec.app (l : List StepM) : Dec → Dec
  | .ok m => .ok (l ++ m)
  | .no n e => .no n e
def Dec.shift (d : Nat) : Dec → Dec
  | .ok m => .ok m
  | .no n e => .no (n + d) e
theorem decR_shift (d : Nat) : ∀ (b : List (List UInt8)) (n : Nat), decR (n + d) b = (decR n b).shift d
  | [], n => rfl
  | l :: r, n => by
    have ih := decR_shift d r (n + 1)
    rw [show n + 1 + d = n + d + 1 from by omega] at ih
    rw [decR, decR, ih]
    split
    · rfl
    · split
      · rfl
      · cases decR (n + 1) r <;> rfl
theorem decR_app : ∀ (a b : List (List UInt8)) (n : Nat), decR n (a ++ b) = match decR n a with
    | .no m e => .no m e
    | .ok l => (decR (n + a.length) b).app l
  | [], b, n => by
    rw [List.nil_append, decR, List.length_nil, Nat.add_zero]
    cases decR n b <;> rfl
  | l :: r, b, n => by
    have ih := decR_app r b (n + 1)
    rw [List.cons_append, decR, decR, ih, List.length_cons, show n + (r.length + 1) = n + 1 + r.length from by omega]
    split
    · rfl
    · split
      · rfl
      · cases decR (n + 1) r with
        | no m e => rfl
        | ok q => cases decR (n + 1 + r.length) b <;> rfl
/-- the law: two scripts one behind the other -/
theorem decS_two (one two : List UInt8) : decS (one ++ 10 :: two) = match decS (one ++ [10]) with
    | .no m e => .no m e
    | .ok l => ((decS two).shift ((one ++ [10]).count 10)).app l := by
  unfold decS
  rw [lines_app, lines_end, decR_app, decR_shift, split_count]
  rw [List.count_append]
  rfl
end Go.Proofs.YtijlfggficjamaaDoor
