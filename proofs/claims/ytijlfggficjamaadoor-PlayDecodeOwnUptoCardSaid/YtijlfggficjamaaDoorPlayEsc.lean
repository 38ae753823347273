/- The contracts of kindredref26.Escape and play.escaped: a text as one word. -/
import Derived.Test.YtijlfggficjamaaDoorProg
import Derived.Test.YtijlfggficjamaaDoorPlayLaws
import Derived.Deep.QuietTactic
import Derived.BigQuiet
namespace Go.Proofs.YtijlfggficjamaaDoor
set_option linter.unusedVariables false
set_option linter.unusedSimpArgs false
open Go Go.RowKit
open Go.Lib (hid)

theorem S_ext {a b : List UInt8} (h : a = b) : Value.string (S a) = Value.string (S b) := by rw [h]
theorem escB_no {c : UInt8} (h : c.toNat < 33 ∨ 126 < c.toNat ∨ c.toNat = 37) : escB c = [37, hexd (c.toNat / 16), hexd (c.toNat % 16)] := by
  unfold escB; rw [plainB_false h]; rfl
theorem escB_yes {c : UInt8} (h1 : 33 ≤ c.toNat) (h2 : c.toNat ≤ 126) (h3 : c.toNat ≠ 37) : escB c = [c] := by
  unfold escB; rw [plainB_true h1 h2 h3]; rfl
/-- what the concatenation comes to, where the byte is written by its digits -/
theorem esc_step_no (s : ByteArray) (k : Nat) (h : k < s.size) (t : List UInt8) (ht : t = escL (s.data.toList.take k))
    (hc : s[k].toNat < 33 ∨ 126 < s[k].toNat ∨ s[k].toNat = 37) :
    S t ++ S [37] ++ (⟨#[48, 49, 50, 51, 52, 53, 54, 55, 56, 57, 65, 66, 67, 68, 69, 70]⟩ : ByteArray).extract (s[k].toNat / 16) (s[k].toNat / 16 + 1) ++
      (⟨#[48, 49, 50, 51, 52, 53, 54, 55, 56, 57, 65, 66, 67, 68, 69, 70]⟩ : ByteArray).extract (s[k].toNat % 16) (s[k].toNat % 16 + 1) = S (escL (s.data.toList.take (k + 1))) := by
  have hb := s[k].toNat_lt
  rw [digits_cut' _ (by omega), digits_cut' _ (by omega), S_app, S_app, S_app, escL_snoc s k h, escB_no hc, ← ht]
  simp
theorem esc_step_yes (s : ByteArray) (k : Nat) (h : k < s.size) (t : List UInt8) (ht : t = escL (s.data.toList.take k))
    (h1 : 33 ≤ s[k].toNat) (h2 : s[k].toNat ≤ 126) (h3 : s[k].toNat ≠ 37) :
    S t ++ S [s[k]] = S (escL (s.data.toList.take (k + 1))) := by
  rw [S_app, escL_snoc s k h, escB_yes h1 h2 h3, ← ht]

set_option maxRecDepth 100000 in
set_option maxHeartbeats 1000000 in
theorem Escape_c (s : ByteArray) (w : World) (hs : s.size ≤ 1000000000000) :
    Calls Tryd.prog 41 #[.string s] w fun e w' => e = .returned (.string (S (esc s.data.toList))) ∧ Below w.heap.size w w' := by
  by_cases h0 : 0 < s.size
  · have hie := isEmpty_of_pos s h0
    have hne : s.data.toList ≠ [] := by intro e; have := size_list s; rw [e] at this; simp at this; omega
    have HN := hid hne
    clear hne
    go_enter Tryd.func41, Tryd.ntmps41
    go_wp2_with fail
    go_loopw [3,4] (fun t i wr => ∃ k : Nat, k ≤ s.size ∧ i = .int .i64 k ∧ t = .string (S (escL (s.data.toList.take k))) ∧ Below w.heap.size w wr) (fun _ i _ => s.size - (intOf i).toNat)
    case atStart => exact ⟨0, Nat.zero_le _, rfl, rfl, Below.refl _ _⟩
    case round =>
      obtain ⟨k, hk, rfl, rfl, hB⟩ := hrel
      by_cases hlt : k < s.size
      · obtain ⟨t, ht⟩ : ∃ t, t = escL (s.data.toList.take k) := ⟨_, rfl⟩
        rw [← ht]
        have hT : t.length ≤ 3 * k := by rw [ht]; exact escL_take_len s k hk
        have HT := hid ht
        have HS1 := hid (esc_step_no s k hlt t ht)
        have HS2 := hid (esc_step_yes s k hlt t ht)
        have hcv := fun (n : Int) (w0 : World) => conv_one (P := Tryd.prog) (w0.alloc (Obj.cells #[.int .u8 n] 5)) 42 9 5 n Tryd.underlying42 Tryd.underlying5 Tryd.underlying9 w0.heap.size (by simp [World.cell?_alloc_at])
        clear ht
        by_cases h33 : (s[k].toNat : Int) < 33
        · go_wp2_with fail
          go_quiet (fail)
          go_wp2_with fail
          exact ⟨⟨k + 1, by omega, by go_num, by rw [HS1.out (by omega)], below_drewN hB _⟩, by simp [intOf]; omega⟩
        · by_cases h126 : (s[k].toNat : Int) ≤ 126
          · by_cases h37 : (s[k].toNat : Int) = 37
            · have h37' : ((s[k].toNat : Int) == 37) = true := by simp [h37]
              have H37 := hid h37
              clear h37
              go_wp2_with fail
              go_quiet (fail)
              go_wp2_with fail
              exact ⟨⟨k + 1, by omega, by go_num, by rw [HS1.out (by have := H37.out; omega)], below_drewN hB _⟩, by simp [intOf]; omega⟩
            · have h37' : ((s[k].toNat : Int) == 37) = false := by simp [h37]
              go_wp2_with fail
              exact ⟨⟨k + 1, by omega, by go_num, by rw [HS2.out (by omega) (by omega) (by omega)], hB.alloc hB.size _⟩, by simp [intOf]; omega⟩
          · have h127 : (126 : Int) < (s[k].toNat : Int) := by omega
            clear h126
            have h256 : (s[k].toNat : Int) < 256 := by have := s[k].toNat_lt; omega
            go_wp2_with fail
            go_quiet (fail)
            go_wp2_with fail
            exact ⟨⟨k + 1, by omega, by go_num, by rw [HS1.out (by omega)], below_drewN hB _⟩, by simp [intOf]; omega⟩
      · go_wp2_with fail
        go_ret
        refine ⟨?_, hB⟩
        have : k = s.size := by omega
        rw [List.take_of_length_le (by rw [size_list]; omega)]
        unfold esc
        rw [if_neg HN.out]
        rfl
  · have hie : s.toList = [] := by
      rw [ByteArray.toList_eq]; have := size_list s; exact List.length_eq_zero_iff.1 (by omega)
    have hd : s.data.toList = [] := by rw [← ByteArray.toList_eq]; exact hie
    rw [hd]
    go_enter Tryd.func41, Tryd.ntmps41
    go_wp2_with fail
    go_ret
    exact ⟨rfl, Below.refl _ _⟩
end Go.Proofs.YtijlfggficjamaaDoor
