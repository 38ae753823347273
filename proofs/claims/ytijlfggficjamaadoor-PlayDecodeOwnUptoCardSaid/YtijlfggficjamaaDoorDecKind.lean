/- A step's kind out of its word. -/
import Derived.Test.YtijlfggficjamaaDoorDecUnDec
namespace Go.Proofs.YtijlfggficjamaaDoor
set_option linter.unusedVariables false
set_option linter.unusedSimpArgs false
open Go Go.RowKit
open Go.Lib (hid)

def kindK (n : Nat) (word : List UInt8) : Nat := (List.range n).foldl (fun k i => if 0 < i ∧ (rowOf i).word = word then i else k) 0
theorem kindK_succ (n : Nat) (w : List UInt8) : kindK (n + 1) w = if 0 < n ∧ (rowOf n).word = w then n else kindK n w := by simp [kindK, List.range_succ]
theorem kindK_24 (w : List UInt8) : kindOfS w = kindK 24 w := rfl
theorem words_apart : ∀ i j : Fin 24, 0 < i.val → 0 < j.val → (rowOf i.val).word = (rowOf j.val).word → i = j := by decide +kernel
theorem kindK_hit {k : Nat} {w : List UInt8} (h1 : 1 ≤ k) (h2 : k ≤ 23) (hw : (rowOf k).word = w) : ∀ n, n ≤ 24 → kindK n w = if k < n then k else 0
  | 0, _ => rfl
  | n + 1, hn => by
    rw [kindK_succ, kindK_hit h1 h2 hw n (by omega)]
    by_cases hc : 0 < n ∧ (rowOf n).word = w
    · rw [if_pos hc]
      have := words_apart ⟨n, by omega⟩ ⟨k, by omega⟩ hc.1 (show 0 < k by omega) (by simpa using hc.2.trans hw.symm)
      have e : n = k := by simpa using congrArg Fin.val this
      rw [if_pos (by omega)]; exact e
    · rw [if_neg hc]
      by_cases hk : k < n
      · rw [if_pos hk, if_pos (by omega)]
      · rw [if_neg hk, if_neg]
        intro h
        have e : k = n := by omega
        subst e
        exact hc ⟨by omega, hw⟩
theorem kind_hit {k : Nat} {w : List UInt8} (h1 : 1 ≤ k) (h2 : k ≤ 23) (hw : (rowOf k).word = w) : kindOfS w = k := by
  rw [kindK_24, kindK_hit h1 h2 hw 24 (Nat.le_refl _), if_pos (by omega)]
theorem kindK_none {w : List UInt8} : ∀ n, (∀ j, 1 ≤ j → j < n → (rowOf j).word ≠ w) → kindK n w = 0
  | 0, _ => rfl
  | n + 1, h => by
    rw [kindK_succ, if_neg (fun hc => h n (by omega) (by omega) hc.2)]
    exact kindK_none n (fun j a b => h j a (by omega))
theorem kind_none {w : List UInt8} (h : ∀ j, 1 ≤ j → j < 24 → (rowOf j).word ≠ w) : kindOfS w = 0 := kindK_none 24 h
theorem kindK_lt (w : List UInt8) : ∀ n, kindK n w ≤ n - 1
  | 0 => by simp [kindK]
  | n + 1 => by
    rw [kindK_succ]
    have := kindK_lt w n
    split <;> omega
theorem kind_le (w : List UInt8) : kindOfS w ≤ 23 := kindK_lt w 24
theorem kind_word {w : List UInt8} (h : kindOfS w ≠ 0) : (rowOf (kindOfS w)).word = w := by
  have key : ∀ n, kindK n w ≠ 0 → (rowOf (kindK n w)).word = w := by
    intro n
    induction n with
    | zero => intro h; exact absurd rfl h
    | succ n ih =>
      intro h
      rw [kindK_succ] at h ⊢
      split
      · rename_i hc; exact hc.2
      · rename_i hc; rw [if_neg hc] at h; exact ih h
  exact key 24 h

theorem row_e (K : Nat) (h1 : 1 ≤ K) (h2 : K ≤ 23) (w : World) :
    Calls Tryd.prog 39 #[.int .i64 K] w fun e w' => e = .returned (.agg #[.string (S (rowOf K).word), .int .i64 (refRow K).n, .int .i64 (rowOf K).s, .bool (rowOf K).o, .bool (rowOf K).a]) ∧ Below w.heap.size w w' := by
  refine (row_c K h1 h2 w).mono fun e w' ⟨he, hb⟩ => ⟨?_, hb⟩
  rw [he]
  unfold refRow RowM.cells
  split
  · rename_i h; subst h; rfl
  · rfl

set_option maxRecDepth 100000 in
set_option maxHeartbeats 1000000 in
theorem kindOf_c (l : List UInt8) (w : World) :
    Calls Tryd.prog 48 #[.string (S l)] w fun e w' => e = .returned (.int .i64 (kindOfS l)) ∧ Below w.heap.size w w' := by
  have hfld : ∀ (a b c d e : Value) (w : World), (Instr.field 77 (.agg #[a, b, c, d, e]) 0).run Tryd.prog w = .ok a w := fun a b c d e w => by kernel_rfl
  go_enter Tryd.func48, Tryd.ntmps48
  go_wp2_with fail
  go_loopw [3] (fun i wr => ∃ K : Nat, 1 ≤ K ∧ K ≤ 24 ∧ i = .int .i64 K ∧ Hid (∀ j, 1 ≤ j → j < K → (rowOf j).word ≠ l) ∧ Below w.heap.size w wr) (fun i _ => 24 - (intOf i).toNat)
  case atStart => exact ⟨1, Nat.le_refl _, by omega, rfl, hid (fun j a b => by omega), Below.refl _ _⟩
  case round =>
    obtain ⟨K, h1, h2, rfl, hN, hB⟩ := hrel
    by_cases hK : K ≤ 23
    · have hK' : (K : Int) ≤ 23 := by omega
      go_wp2_with fail
      refine (row_e K h1 hK _).mono ?_
      rintro e w1 ⟨rfl, hb⟩
      have HB := hid (hB.trans (hb.mono hB.size))
      clear hb hB
      by_cases hw : (rowOf K).word = l
      · have HR : Hid (kindOfS l = K) := hid (kind_hit h1 hK hw)
        have he : (S (rowOf K).word == S l) = true := by rw [hw]; exact S_beq' _ _ |>.trans (by simp)
        have he2 : ((rowOf K).word == l) = true := by simp [hw]
        clear hw
        go_wp2_with fail
        go_ret
        exact ⟨retI (by rw [HR.out]), HB.out⟩
      · have HN2 : Hid (∀ j, 1 ≤ j → j < K + 1 → (rowOf j).word ≠ l) := hid (fun j a b => by
          rcases Nat.lt_or_ge j K with h | h
          · exact hN.out j a h
          · have : j = K := by omega
            subst this; exact hw)
        have he : (S (rowOf K).word == S l) = false := by rw [S_beq']; simp [hw]
        have he2 : ((rowOf K).word == l) = false := by simp [hw]
        clear hw
        go_wp2_with fail
        exact ⟨⟨K + 1, by omega, by omega, by go_num, HN2, HB.out⟩, by simp [intOf]; omega⟩
    · have HR : Hid (kindOfS l = 0) := hid (kind_none (fun j a b => hN.out j a (by omega)))
      go_wp2_with fail
      go_ret
      exact ⟨retI (by rw [HR.out]; rfl), hB⟩
end Go.Proofs.YtijlfggficjamaaDoor
