/- The contracts of play.unescaped, kindredref26.digit, kindredref26.Unescape. -/
import Derived.Test.YtijlfggficjamaaDoorDecPlain
import Derived.Test.YtijlfggficjamaaDoorSt
import Derived.Test.YtijlfggficjamaaDoorPlayText2
namespace Go.Proofs.YtijlfggficjamaaDoor
set_option linter.unusedVariables false
set_option linter.unusedSimpArgs false
open Go Go.RowKit
open Go.Lib (hid)

theorem S_beq' (l m : List UInt8) : (S l == S m) = decide (l = m) := by
  show ((S l).data == (S m).data) = _
  rw [Bool.eq_iff_iff]; simp [S]
theorem S_beqs (l : List UInt8) (s : ByteArray) : (S l == s) = decide (l = s.data.toList) := by
  conv => lhs; rw [← S_data s]
  exact S_beq' _ _
theorem or_byte (x y : Nat) (hx : x < 16) (hy : y < 16) : (bits BinOp.or IntKind.i64 ((x : Int) * 16) y % 256 : Int) = ((UInt8.ofNat (x * 16 + y)).toNat : Int) := by
  have h : ∀ x y : Fin 16, (bits BinOp.or IntKind.i64 ((x.val : Int) * 16) y.val % 256 : Int) = ((UInt8.ofNat (x.val * 16 + y.val)).toNat : Int) := by decide +kernel
  exact h ⟨x, hx⟩ ⟨y, hy⟩
theorem hex_c (c : UInt8) (w : World) :
    Calls Tryd.prog 58 #[.string ⟨#[48, 49, 50, 51, 52, 53, 54, 55, 56, 57, 65, 66, 67, 68, 69, 70]⟩, .int .u8 c.toNat] w fun e w' => e = .returned (.int .i64 (hexI c)) ∧ w' = w :=
  (Tryd.strings_IndexByte _ _ w).mono fun e w' ⟨he, hw⟩ => ⟨by
    rw [he]
    have : ((c.toNat : Nat) : Int).toNat.toUInt8 = c := by simp
    rw [this]
    exact congrArg (fun n => Ending.returned (.int .i64 n)) (idx_digits c), hw⟩
theorem hex_i (c : UInt8) (x : Int) (h : hexI c = x) (w : World) :
    Calls Tryd.prog 58 #[.string ⟨#[48, 49, 50, 51, 52, 53, 54, 55, 56, 57, 65, 66, 67, 68, 69, 70]⟩, .int .u8 c.toNat] w fun e w' => e = .returned (.int .i64 x) ∧ w' = w := h ▸ hex_c c w
theorem hexI_ok {c : UInt8} (h : hexv c < 16) : hexI c = (hexv c : Int) := by rw [hexI, if_pos h]
theorem hexI_no {c : UInt8} (h : ¬ hexv c < 16) : hexI c = -1 := by rw [hexI, if_neg h]

set_option maxRecDepth 100000 in
set_option maxHeartbeats 1000000 in
theorem unescaped_c (s : ByteArray) (w : World) (hs : s.size ≤ 1000000000000) :
    Calls Tryd.prog 45 #[.string s] w fun e w' => e = .returned (.tuple #[.string (S (unescR s.data.toList).1), .bool (unescR s.data.toList).2]) ∧ Below w.heap.size w w' := by
  by_cases h37 : s.data.toList = [37]
  · have hs' : s = ⟨#[37]⟩ := by rw [← S_data s, h37]
    subst hs'
    rw [show (⟨#[37]⟩ : ByteArray).data.toList = [37] from rfl, unescR_pct]
    go_enter Tryd.func45, Tryd.ntmps45
    go_wp2_with fail
    go_ret2
    exact ⟨rfl, Below.refl _ _⟩
  · have hq : (s.toList == [37]) = false := by
      rw [ByteArray.toList_eq]; simpa using h37
    have H37 := hid h37
    clear h37
    obtain ⟨L, hL⟩ : ∃ L, L = s.data.toList := ⟨_, rfl⟩
    have hLs : L.length = s.size := by rw [hL]; exact size_list s
    rw [← hL] at H37 ⊢
    have HL := hid hL; have HLS := hid hLs
    clear hL hLs
    go_enter Tryd.func45, Tryd.ntmps45
    go_wp2_with fail
    clear hq
    go_loopw [5] (fun i wr => ∃ (k : Nat) (t : List UInt8), k ≤ s.size ∧ i = .int .i64 k ∧ t.length ≤ k ∧ Hid (parse L = (parse (L.drop k)).map (t ++ ·)) ∧ IsB w.heap.size w.heap.size t wr ∧ Below w.heap.size w wr) (fun i _ => s.size - (intOf i).toNat)
    case atStart => exact ⟨0, [], Nat.zero_le _, rfl, Nat.le_refl _, hid (by cases h : parse L <;> simp [h]), Lib.fresh_isBuilder _ _ _, (Below.refl _ _).alloc (Nat.le_refl _) _⟩
    case round =>
      obtain ⟨k, t, hk, rfl, ht, hP, hI, hB⟩ := hrel
      have hsz := hB.size
      by_cases hlt : k < s.size
      · have h256 : (s[k].toNat : Int) < 256 := by have := s[k].toNat_lt; omega
        have HD : Hid (L.drop k = s[k] :: L.drop (k + 1)) := hid (by rw [HL.out]; exact List.drop_eq_getElem_cons (by rw [size_list]; exact hlt))
        by_cases hc : (s[k].toNat : Int) = 37
        · have hc1 : ((s[k].toNat : Int) != 37) = false := by simp [hc]
          have HC : Hid (s[k].toNat = 37) := hid (by omega)
          clear hc
          by_cases h2 : s.size ≤ k + 2
          · have h2' : (s.size : Int) ≤ (k : Int) + 2 := by omega
            have HF : Hid (unescR L = ([], false)) := hid (unescR_none H37.out (by
              rw [hP.out, HD.out, parse_short _ HC.out (by have := HLS.out; rw [List.length_drop]; omega)]; rfl))
            go_wp2_with fail
            go_ret2
            rw [HF.out]
            exact ⟨rfl, hB⟩
          · have h2' : (k : Int) + 2 < (s.size : Int) := by omega
            have hk1 : k + 1 < s.size := by omega
            have hk2 : k + 2 < s.size := by omega
            have b1 : (0 : Int) ≤ (k : Int) + 1 := by omega
            have b2 : (0 : Int) ≤ (k : Int) + 2 := by omega
            have b3 : (k : Int) + 1 < (s.size : Int) := by omega
            have HD2 : Hid (L.drop k = s[k] :: s[k + 1] :: s[k + 2] :: L.drop (k + 3)) := hid (by
              rw [HD.out, HL.out, List.drop_eq_getElem_cons (l := s.data.toList) (i := k + 1) (by rw [size_list]; exact hk1), List.drop_eq_getElem_cons (l := s.data.toList) (i := k + 2) (by rw [size_list]; exact hk2)]; rfl)
            have HNO : Hid (¬ (hexv s[k + 1] < 16 ∧ hexv s[k + 2] < 16) → unescR L = ([], false)) := hid (fun hh => unescR_none H37.out (by rw [hP.out, HD2.out, parse_bad _ HC.out hh]; rfl))
            by_cases ha : hexv s[k + 1] < 16
            · obtain ⟨x, hx⟩ : ∃ x, x = hexv s[k + 1] := ⟨_, rfl⟩
              have HX : Hid (hexI s[k + 1] = (x : Int)) := hid (by rw [hexI_ok ha, hx])
              have HX' := hid hx
              have hx16 : x < 16 := by omega
              clear hx ha
              by_cases hb : hexv s[k + 2] < 16
              · obtain ⟨y, hy⟩ : ∃ y, y = hexv s[k + 2] := ⟨_, rfl⟩
                have HY : Hid (hexI s[k + 2] = (y : Int)) := hid (by rw [hexI_ok hb, hy])
                have HP2 : Hid (parse L = (parse (L.drop (k + 3))).map ((t ++ [UInt8.ofNat (x * 16 + y)]) ++ ·)) := hid (by
                  rw [hP.out, HD2.out, parse_hex _ HC.out (by rw [← HX'.out]; exact hx16) hb, Option.map_map, HX'.out, hy]; congr 1; funext z; simp [hexB])
                have hy16 : y < 16 := by omega
                clear hy hb
                go_wp2_with fail
                go_quiet ((go_at_call 58; first | exact Calls.quiet_of_same (hex_i _ _ HX.out _) | exact Calls.quiet_of_same (hex_i _ _ HY.out _)))
                have z1 : ((x : Int) < 0) = False := by simp
                have z2 : ((y : Int) < 0) = False := by simp
                go_wp2_with fail
                rw [or_byte x y hx16 hy16]
                refine (b_byte _ _ t (UInt8.ofNat (x * 16 + y)) _ (IsB_drewN hI _) (by omega) (by simpa using hsz)).mono ?_
                rintro e w1 ⟨rfl, hI1, hB1⟩
                go_wp2_with fail
                exact ⟨⟨k + 3, t ++ [UInt8.ofNat (x * 16 + y)], by omega, by go_num, by simp; omega, HP2, hI1, (drewN_below hB _).trans hB1⟩, by simp [intOf]; omega⟩
              · have HY : Hid (hexI s[k + 2] = -1) := hid (hexI_no hb)
                have HF : Hid (unescR L = ([], false)) := hid (HNO.out (fun h => hb h.2))
                clear hb
                go_wp2_with fail
                go_quiet ((go_at_call 58; first | exact Calls.quiet_of_same (hex_i _ _ HX.out _) | exact Calls.quiet_of_same (hex_i _ _ HY.out _)))
                go_wp2_with fail
                go_ret2
                rw [HF.out]
                exact ⟨rfl, by first | exact hB | exact drewN_below hB _⟩
            · have HX : Hid (hexI s[k + 1] = -1) := hid (hexI_no ha)
              have HF : Hid (unescR L = ([], false)) := hid (HNO.out (fun h => ha h.1))
              clear ha
              go_wp2_with fail
              go_quiet ((go_at_call 58; first | exact Calls.quiet_of_same (hex_i _ _ HX.out _) | exact Calls.quiet_of_same (hex_c _ _)))
              go_wp2_with fail
              go_ret2
              rw [HF.out]
              exact ⟨rfl, by first | exact hB | exact drewN_below hB _⟩
        · have hc1 : ((s[k].toNat : Int) != 37) = true := by simp [hc]
          have HP2 : Hid (parse L = (parse (L.drop (k + 1))).map ((t ++ [s[k]]) ++ ·)) := hid (by
            rw [hP.out, HD.out, parse_plain _ (by omega), Option.map_map]; congr 1; funext x; simp)
          clear hc
          go_wp2_with (go_at_call 53; refine (b_byte _ _ t s[k] _ hI (by omega) (by omega)).mono ?_)
          rintro e w1 ⟨rfl, hI1, hB1⟩
          go_wp2_with fail
          exact ⟨⟨k + 1, t ++ [s[k]], by omega, by go_num, by simp; omega, HP2, hI1, hB.trans hB1⟩, by simp [intOf]; omega⟩
      · have HF : Hid (parse L = some t) := hid (by
          rw [hP.out, List.drop_eq_nil_of_le (by have := HLS.out; omega)]; simp [parse])
        clear hP
        go_wp2_with (go_at_call 21; refine (b_string _ _ _ _ hI hsz).mono ?_)
        rintro e w1 ⟨rfl, hB1⟩
        have HB := hid (hB.trans hB1)
        clear hI hB hB1
        by_cases h0 : t = []
        · subst h0
          have HU : Hid (unescR L = ([], false)) := hid (by rw [unescR_some H37.out HF.out]; simp)
          have he : (S ([] : List UInt8)) = ⟨#[]⟩ := rfl
          rw [he]
          go_wp2_with fail
          go_ret2
          rw [HU.out]
          exact ⟨rfl, HB.out⟩
        · have HU : Hid (unescR L = (t, decide (escL t = L))) := hid (by rw [unescR_some H37.out HF.out]; simp [h0])
          have he : !(S t).toList.isEmpty := by rw [ByteArray.toList_eq]; simpa [S] using h0
          have he1 : (S t).toList.isEmpty = false := by simpa using he
          have H0 := hid h0
          clear h0
          go_wp2_with fail
          refine (escaped_c (S t) _ (by simp [S, ByteArray.size]; omega)).mono ?_
          rintro e w2 ⟨rfl, hB2⟩
          go_wp2_with fail
          go_ret2
          rw [HU.out]
          refine ⟨?_, HB.out.trans (hB2.mono HB.out.size)⟩
          have e2 : (!t.isEmpty && (esc t == s.toList)) = decide (escL t = L) := by
            unfold esc
            rw [HL.out, if_neg H0.out, ByteArray.toList_eq, Bool.eq_iff_iff]; simp [H0.out]
          exact congrArg (fun b => Ending.returned (.tuple #[.string (S t), .bool b])) e2
end Go.Proofs.YtijlfggficjamaaDoor
