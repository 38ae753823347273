/- The contract of play.escaped: a text as one word, over a strings.Builder. -/
import Derived.Test.YtijlfggficjamaaDoorPlayBuild
import Derived.Test.YtijlfggficjamaaDoorPlayEsc
import Derived.StillTailTactics
import Derived.Deep.RegionWith
import Derived.Deep.RegionHeld3
namespace Go.Proofs.YtijlfggficjamaaDoor
set_option linter.unusedVariables false
set_option linter.unusedSimpArgs false
open Go Go.RowKit
open Go.Lib (hid)

theorem hexd_int (n : Nat) (h : n < 16) : ∀ hh, Value.int .u8 ((⟨#[48, 49, 50, 51, 52, 53, 54, 55, 56, 57, 65, 66, 67, 68, 69, 70]⟩ : ByteArray)[n]'hh).toNat = Value.int .u8 (hexd n).toNat := by
  have : ∀ i : Fin 16, ∀ hh, Value.int .u8 ((⟨#[48, 49, 50, 51, 52, 53, 54, 55, 56, 57, 65, 66, 67, 68, 69, 70]⟩ : ByteArray)[i.val]'hh).toNat = Value.int .u8 (hexd i.val).toNat := by
    intro i hh
    have e : (⟨#[48, 49, 50, 51, 52, 53, 54, 55, 56, 57, 65, 66, 67, 68, 69, 70]⟩ : ByteArray)[i.val]'hh = hexd i.val := by
      revert hh
      revert i
      decide +kernel
    rw [e]
  exact this ⟨n, h⟩

theorem news3 (w : World) (x y : Nat) (e : TypeId) {h1 h2}
    (d1 : ∀ hh, Value.int .u8 ((⟨#[48, 49, 50, 51, 52, 53, 54, 55, 56, 57, 65, 66, 67, 68, 69, 70]⟩ : ByteArray)[x]'hh).toNat = Value.int .u8 (hexd x).toNat)
    (d2 : ∀ hh, Value.int .u8 ((⟨#[48, 49, 50, 51, 52, 53, 54, 55, 56, 57, 65, 66, 67, 68, 69, 70]⟩ : ByteArray)[y]'hh).toNat = Value.int .u8 (hexd y).toNat) :
    ∀ (j : Nat) u, [37, hexd x, hexd y][j]? = some u → (w.alloc (.cells #[.int .u8 37, .int .u8 ((⟨#[48, 49, 50, 51, 52, 53, 54, 55, 56, 57, 65, 66, 67, 68, 69, 70]⟩ : ByteArray)[x]'h1).toNat, .int .u8 ((⟨#[48, 49, 50, 51, 52, 53, 54, 55, 56, 57, 65, 66, 67, 68, 69, 70]⟩ : ByteArray)[y]'h2).toNat] e)).drew.cell? ⟨w.heap.size, j, none⟩ = some (.int .u8 u.toNat) := by
  intro j u hj
  show (w.alloc _).cell? _ = _
  rw [World.cell?_alloc_at _ _ _ _ rfl, d1, d2]
  match j, hj with
  | 0, hj => simp at hj; subst hj; rfl
  | 1, hj => simp at hj; subst hj; rfl
  | 2, hj => simp at hj; subst hj; rfl

set_option maxRecDepth 100000 in
set_option maxHeartbeats 1000000 in
theorem escaped_c (s : ByteArray) (w : World) (hs : s.size ≤ 1000000000000) :
    Calls Tryd.prog 37 #[.string s] w fun e w' => e = .returned (.string (S (esc s.data.toList))) ∧ Below w.heap.size w w' := by
  by_cases h0 : 0 < s.size
  · have hie := isEmpty_of_pos s h0
    have hne : s.data.toList ≠ [] := by intro e; have := size_list s; rw [e] at this; simp at this; omega
    have HN := hid hne
    clear hne
    go_enter Tryd.func37, Tryd.ntmps37
    go_wp2_with fail
    go_loopw [10] (fun i wr => ∃ k : Nat, k ≤ s.size ∧ i = .int .i64 k ∧ IsB w.heap.size w.heap.size (escL (s.data.toList.take k)) wr ∧ Below w.heap.size w wr) (fun i _ => s.size - (intOf i).toNat)
    case atStart => exact ⟨0, Nat.zero_le _, rfl, Lib.fresh_isBuilder _ _ _, (Below.refl _ _).alloc (Nat.le_refl _) _⟩
    case round =>
      obtain ⟨k, hk, rfl, hI, hB⟩ := hrel
      by_cases hlt : k < s.size
      · obtain ⟨t, ht⟩ : ∃ t, t = escL (s.data.toList.take k) := ⟨_, rfl⟩
        rw [← ht] at hI
        have hT : t.length ≤ 3 * k := by rw [ht]; exact escL_take_len s k hk
        have hsz := hB.size
        have HS : Hid (escL (s.data.toList.take (k + 1)) = t ++ escB s[k]) := by rw [ht]; exact escL_snoc s k hlt
        clear ht
        have h256 : (s[k].toNat : Int) < 256 := by have := s[k].toNat_lt; omega
        by_cases hp : (33 : Int) ≤ (s[k].toNat : Int) ∧ (s[k].toNat : Int) ≤ 126 ∧ ¬ ((s[k].toNat : Int) = 37)
        · obtain ⟨p1, p2, p3⟩ := hp
          have h37 : ((s[k].toNat : Int) != 37) = true := by simp [p3]
          have P3 := hid p3
          clear p3
          go_wp2_with (go_at_call 53; refine (b_byte _ _ t s[k] _ hI (by omega) (by omega)).mono ?_)
          rintro e w1 ⟨rfl, hI1, hB1⟩
          go_wp2_with fail
          exact ⟨⟨k + 1, by omega, by go_num, by rw [HS.out, escB_yes (by omega) (by omega) (by have := P3.out; omega)]; exact hI1, hB.trans hB1⟩, by simp [intOf]; omega⟩
        · have hq : s[k].toNat < 33 ∨ 126 < s[k].toNat ∨ s[k].toNat = 37 := by omega
          have HQ := hid hq
          clear hq
          have hd1 := hexd_int (s[k].toNat / 16) (by omega)
          have hd2 := hexd_int (s[k].toNat % 16) (by omega)
          have HD1 := hid hd1; have HD2 := hid hd2
          clear hd1 hd2
          have m1 : (s[k].toNat : Int) % 16 < 16 := by omega
          have m2 : s[k].toNat % 16 < 16 := by omega
          have m3 : s[k].toNat / 16 < 16 := by omega
          have m4 : (s[k].toNat : Int) / 16 < 16 := by omega
          have m5 : 0 ≤ (s[k].toNat : Int) % 16 := by omega
          have m6 : 0 ≤ (s[k].toNat : Int) / 16 := by omega
          have m7 : bits BinOp.and IntKind.u8 (s[k].toNat : Int) 15 = (s[k].toNat : Int) % 16 := bits_mask .u8 8 (by decide) wraps_u8 4 (by decide) _ (by omega) (by omega)
          have hbk : w.heap.size < wr.heap.size := by rcases hI with h | h <;> exact h.lt
          have fin : ∀ w1, IsB w.heap.size w.heap.size (t ++ [37, hexd (s[k].toNat / 16), hexd (s[k].toNat % 16)]) w1 → Below w.heap.size w w1 → ∃ k1 : Nat, k1 ≤ s.size ∧ Value.int .i64 ((k : Int) + 1) = Value.int .i64 k1 ∧ IsB w.heap.size w.heap.size (escL (s.data.toList.take k1)) w1 ∧ Below w.heap.size w w1 :=
            fun w1 h1 h2 => ⟨k + 1, by omega, by go_num, by rw [HS.out, escB_no HQ.out]; exact h1, h2⟩
          have FIN := hid fin
          clear fin
          by_cases c1 : (32 : Int) < (s[k].toNat : Int)
          · by_cases c2 : (s[k].toNat : Int) < 127
            · have c3 : (s[k].toNat : Int) = 37 := by omega
              have h37 : ((s[k].toNat : Int) != 37) = false := by simp [c3]
              have C3 := hid c3
              clear c3
              go_wp2_with fail
              go_still_tail 6, (by kernel_rfl)
              change wpList _ _ _ _ _ wr.drew
              go_wp2_with (go_at_call 54; refine (b_write w.heap.size w.heap.size t [37, hexd (s[k].toNat / 16), hexd (s[k].toNat % 16)] wr.heap.size 3 _ (IsB_drew (IsB_alloc hI _)) (by omega) ?n1 (by simp; omega) (by simp; omega)).mono ?_)
              case n1 => exact news3 _ _ _ _ HD1.out HD2.out
              rintro e w1 ⟨rfl, hI1, hB1⟩
              go_wp2_with fail
              exact ⟨FIN.out _ hI1 ((hB.alloc hsz _).drew.trans hB1), by simp [RowKit.intOf]; omega⟩
            · have c3 : (127 : Int) ≤ (s[k].toNat : Int) := by omega
              go_wp2_with fail
              go_still_tail 6, (by kernel_rfl)
              change wpList _ _ _ _ _ wr.drew
              go_wp2_with (go_at_call 54; refine (b_write w.heap.size w.heap.size t [37, hexd (s[k].toNat / 16), hexd (s[k].toNat % 16)] wr.heap.size 3 _ (IsB_drew (IsB_alloc hI _)) (by omega) ?n2 (by simp; omega) (by simp; omega)).mono ?_)
              case n2 => exact news3 _ _ _ _ HD1.out HD2.out
              rintro e w1 ⟨rfl, hI1, hB1⟩
              go_wp2_with fail
              exact ⟨FIN.out _ hI1 ((hB.alloc hsz _).drew.trans hB1), by simp [RowKit.intOf]; omega⟩
          · have c3 : (s[k].toNat : Int) ≤ 32 := by omega
            go_wp2_with fail
            go_still_tail 6, (by kernel_rfl)
            change wpList _ _ _ _ _ wr.drew
            go_wp2_with (go_at_call 54; refine (b_write w.heap.size w.heap.size t [37, hexd (s[k].toNat / 16), hexd (s[k].toNat % 16)] wr.heap.size 3 _ (IsB_drew (IsB_alloc hI _)) (by omega) ?n3 (by simp; omega) (by simp; omega)).mono ?_)
            case n3 => exact news3 _ _ _ _ HD1.out HD2.out
            rintro e w1 ⟨rfl, hI1, hB1⟩
            go_wp2_with fail
            exact ⟨FIN.out _ hI1 ((hB.alloc hsz _).drew.trans hB1), by simp [RowKit.intOf]; omega⟩
      · go_wp2_with (go_at_call 21; refine (b_string _ _ _ _ hI (by have := hB.size; omega)).mono ?_)
        rintro e w1 ⟨rfl, hB1⟩
        go_wp2_with fail
        go_ret
        refine ⟨?_, hB.trans hB1⟩
        rw [List.take_of_length_le (by rw [size_list]; omega)]
        unfold esc
        rw [if_neg HN.out]
        rfl
  · have hie : s.toList = [] := by
      rw [ByteArray.toList_eq]; have := size_list s; exact List.length_eq_zero_iff.1 (by omega)
    have hd : s.data.toList = [] := by rw [← ByteArray.toList_eq]; exact hie
    rw [hd]
    go_enter Tryd.func37, Tryd.ntmps37
    go_wp2_with fail
    go_ret
    exact ⟨rfl, Below.refl _ _⟩
end Go.Proofs.YtijlfggficjamaaDoor
