/- The contracts of package disk on an empty disk: New, isName, look, Size. -/
import Derived.Test.YtdobnbkhlnemcaaGreatDoorProg
import Derived.WalkKit
import Derived.Deep.QuietTactic
import Derived.BigQuiet
import Derived.Lib.Hide
import Derived.WalkSpells
import Derived.WalkLawsBesides
namespace Go.Proofs.YtdobnbkhlnemcaaGreatDoor
set_option linter.unusedVariables false
set_option linter.unusedSimpArgs false
open Go Go.RowKit
open Go.Lib (hid)

theorem ret_bool {a b : Bool} (h : a = b) : Ending.returned (.bool a) = .returned (.bool b) := by rw [h]
theorem ret_int {k : IntKind} {a b : Int} (h : a = b) : Ending.returned (.int k a) = .returned (.int k b) := by rw [h]

def okc (c : UInt8) : Bool := c.toNat == 46 || (97 ≤ c.toNat && c.toNat ≤ 122) || (48 ≤ c.toNat && c.toNat ≤ 57)
def nameOk (l : List UInt8) : Bool := l.all okc && 1 ≤ l.length && l.length ≤ 32
theorem okc_snoc (s : ByteArray) (k : Nat) (h : k < s.size) (hk : (s.data.toList.take k).all okc = true) : (s.data.toList.take (k + 1)).all okc = okc s[k] := by
  rw [List.take_succ_eq_append_getElem (by simpa using h), List.all_append, hk]; simp; rfl
theorem okc_not (s : ByteArray) (k : Nat) (h : k < s.size) (hk : okc s[k] = false) : nameOk s.data.toList = false := by
  have : s.data.toList.all okc = false := by
    rw [List.all_eq_false]; exact ⟨s[k], by simp [ByteArray.getElem_eq_getElem_data], by simpa using hk⟩
  simp [nameOk, this]

set_option maxRecDepth 100000 in
set_option maxHeartbeats 1000000 in
theorem isName_c (s : ByteArray) (w : World) (hs : s.size ≤ 9223372036854775807) :
    Calls Tryz.prog 135 #[.string s] w fun e w' => e = .returned (.bool (nameOk s.data.toList)) ∧ w = w' := by
  go_enter Tryz.func135, Tryz.ntmps135
  go_wp2_with fail
  go_loop [3] (fun i => ∃ k : Nat, k ≤ s.size ∧ i = .int .i64 k ∧ (s.data.toList.take k).all okc = true) (fun i => s.size - (RowKit.intOf i).toNat)
  case atStart => exact ⟨0, Nat.zero_le _, rfl, rfl⟩
  case round =>
    obtain ⟨k, hk, rfl, hall⟩ := hrel
    by_cases hlt : k < s.size
    · have HS := hid (okc_snoc s k hlt hall)
      have HN := hid (okc_not s k hlt)
      clear hall
      have h256 : (s[k].toNat : Int) < 256 := by have := s[k].toNat_lt; omega
      have hgo : okc s[k] = true → ∃ k1 : Nat, k1 ≤ s.size ∧ Value.int .i64 ((k : Int) + 1) = .int .i64 k1 ∧ (s.data.toList.take k1).all okc = true := fun h => ⟨k + 1, by omega, by go_num, by rw [HS.out]; exact h⟩
      have HG := hid hgo; clear hgo
      by_cases c0 : (s[k].toNat : Int) = 46
      · have d0 : ((s[k].toNat : Int) != 46) = false := by simp [c0]
        have C0 : Hid (okc s[k] = true) := by show okc s[k] = true; simp only [okc, Bool.or_eq_true, beq_iff_eq]; omega
        clear c0
        go_wp2_with fail
        exact ⟨HG.out C0.out, by simp [RowKit.intOf]; omega⟩
      · have d0 : ((s[k].toNat : Int) != 46) = true := by simp [c0]
        by_cases c1 : (97 : Int) ≤ (s[k].toNat : Int) ∧ (s[k].toNat : Int) ≤ 122
        · obtain ⟨c1, c2⟩ := c1
          have C0 : Hid (okc s[k] = true) := by show okc s[k] = true; simp only [okc, Bool.or_eq_true, Bool.and_eq_true, beq_iff_eq, decide_eq_true_eq]; omega
          clear c0
          go_wp2_with fail
          exact ⟨HG.out C0.out, by simp [RowKit.intOf]; omega⟩
        · by_cases c3 : (48 : Int) ≤ (s[k].toNat : Int) ∧ (s[k].toNat : Int) ≤ 57
          · obtain ⟨c3, c4⟩ := c3
            have C0 : Hid (okc s[k] = true) := by show okc s[k] = true; simp only [okc, Bool.or_eq_true, Bool.and_eq_true, beq_iff_eq, decide_eq_true_eq]; omega
            clear c0 c1
            go_wp2_with fail
            exact ⟨HG.out C0.out, by simp [RowKit.intOf]; omega⟩
          · have hbad : okc s[k] = false := by
              simp only [okc, Bool.or_eq_false_iff, Bool.and_eq_false_iff, beq_eq_false_iff_ne, decide_eq_false_iff_not]; omega
            have HB := hid (HN.out hbad)
            clear hbad
            have hh : ((s[k].toNat : Int) < 48) ∨ (57 < (s[k].toNat : Int) ∧ (s[k].toNat : Int) < 97) ∨ (122 < (s[k].toNat : Int)) := by omega
            clear c0 c1 c3
            rcases hh with h | ⟨h, h'⟩ | h
            all_goals
              go_wp2_with fail
              go_ret
              exact ⟨ret_bool HB.out.symm, rfl⟩
    · have hk' : k = s.size := by omega
      have hall' : s.data.toList.all okc = true := by rw [hk'] at hall; rw [List.take_of_length_le (by rw [Array.length_toList]; exact Nat.le_refl _)] at hall; exact hall
      have hn : nameOk s.data.toList = (decide (1 ≤ s.size) && decide (s.size ≤ 32)) := by
        unfold nameOk; rw [hall', Array.length_toList]; rfl
      have HN := hid hn
      clear hn hall hall' hk'
      by_cases h1 : 1 ≤ s.size
      · by_cases h2 : s.size ≤ 32
        · go_wp2_with fail
          go_ret
          exact ⟨ret_bool (by rw [HN.out]; simp [h1, h2]; try omega), rfl⟩
        · go_wp2_with fail
          go_ret
          exact ⟨ret_bool (by rw [HN.out]; simp [h1, h2]; try omega), rfl⟩
      · go_wp2_with fail
        go_ret
        exact ⟨ret_bool (by rw [HN.out]; simp [h1]), rfl⟩
end Go.Proofs.YtdobnbkhlnemcaaGreatDoor
