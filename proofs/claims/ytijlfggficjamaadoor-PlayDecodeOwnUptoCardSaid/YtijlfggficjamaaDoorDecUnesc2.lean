/- The contracts of kindredref26.digit and kindredref26.Unescape. -/
import Derived.Test.YtijlfggficjamaaDoorDecUnesc
namespace Go.Proofs.YtijlfggficjamaaDoor
set_option linter.unusedVariables false
set_option linter.unusedSimpArgs false
open Go Go.RowKit
open Go.Lib (hid)

theorem hex_byte (x y : Nat) : 16 * UInt8.ofNat x + UInt8.ofNat y = UInt8.ofNat (x * 16 + y) := by
  rw [UInt8.ofNat_add, UInt8.ofNat_mul, UInt8.mul_comm]; rfl
theorem cut_one (s : ByteArray) (k : Nat) (h : k < s.size) : s.extract k (k + 1) = S [s[k]] := by
  rw [← S_data (s.extract k (k + 1))]
  congr 1
  rw [Lib.extract_data]
  have e := List.drop_eq_getElem_cons (l := s.data.toList) (i := k) (by rw [size_list]; exact h)
  rw [e, show k + 1 - k = 1 by omega]; rfl
set_option maxRecDepth 100000 in
set_option maxHeartbeats 1000000 in
theorem digit_c (c : UInt8) (w : World) :
    Calls Tryd.prog 61 #[.int .u8 c.toNat] w fun e w' => e = .returned (.int .i64 (hexI c)) ∧ w' = w := by
  have h256 : (c.toNat : Int) < 256 := by have := c.toNat_lt; omega
  have h0 : (0 : Int) ≤ (c.toNat : Int) := by omega
  by_cases h1 : (48 : Int) ≤ (c.toNat : Int) ∧ (c.toNat : Int) ≤ 57
  · obtain ⟨p1, p2⟩ := h1
    have HX : Hid (hexI c = (c.toNat : Int) - 48) := hid (by unfold hexI hexv; rw [if_pos (show 48 ≤ c.toNat ∧ c.toNat ≤ 57 by omega), if_pos (by omega)]; omega)
    go_enter Tryd.func61, Tryd.ntmps61
    go_wp2_with fail
    go_ret
    exact ⟨retI HX.out.symm, rfl⟩
  · by_cases h2 : (65 : Int) ≤ (c.toNat : Int) ∧ (c.toNat : Int) ≤ 70
    · obtain ⟨p1, p2⟩ := h2
      have HX : Hid (hexI c = (c.toNat : Int) - 65 + 10) := hid (by unfold hexI hexv; rw [if_neg (show ¬ (48 ≤ c.toNat ∧ c.toNat ≤ 57) by omega), if_pos (show 65 ≤ c.toNat ∧ c.toNat ≤ 70 by omega), if_pos (by omega)]; omega)
      have q1 : (57 : Int) < (c.toNat : Int) := by omega
      have q2 : (48 : Int) ≤ (c.toNat : Int) := by omega
      clear h1
      go_enter Tryd.func61, Tryd.ntmps61
      go_wp2_with fail
      go_ret
      exact ⟨retI HX.out.symm, rfl⟩
    · have HX : Hid (hexI c = -1) := hid (by unfold hexI hexv; rw [if_neg (show ¬ (48 ≤ c.toNat ∧ c.toNat ≤ 57) by omega), if_neg (show ¬ (65 ≤ c.toNat ∧ c.toNat ≤ 70) by omega), if_neg (by omega)])
      by_cases a1 : (c.toNat : Int) < 48
      · have a2 : (c.toNat : Int) < 65 := by omega
        clear h1 h2
        go_enter Tryd.func61, Tryd.ntmps61
        go_wp2_with fail
        go_ret
        exact ⟨retI HX.out.symm, rfl⟩
      · have a0 : (48 : Int) ≤ (c.toNat : Int) := by omega
        have a3 : (57 : Int) < (c.toNat : Int) := by omega
        by_cases a2 : (c.toNat : Int) < 65
        · clear h1 h2 a1
          go_enter Tryd.func61, Tryd.ntmps61
          go_wp2_with fail
          go_ret
          exact ⟨retI HX.out.symm, rfl⟩
        · have a4 : (65 : Int) ≤ (c.toNat : Int) := by omega
          have a5 : (70 : Int) < (c.toNat : Int) := by omega
          clear h1 h2 a1 a2
          go_enter Tryd.func61, Tryd.ntmps61
          go_wp2_with fail
          go_ret
          exact ⟨retI HX.out.symm, rfl⟩
theorem digit_i (c : UInt8) (x : Int) (h : hexI c = x) (w : World) :
    Calls Tryd.prog 61 #[.int .u8 c.toNat] w fun e w' => e = .returned (.int .i64 x) ∧ w = w' := (digit_c c w).mono fun e w' ⟨a, b⟩ => ⟨h ▸ a, b.symm⟩

set_option maxRecDepth 100000 in
set_option maxHeartbeats 1000000 in
theorem Unescape_c (s : ByteArray) (w : World) (hs : s.size ≤ 1000000000000) :
    Calls Tryd.prog 47 #[.string s] w fun e w' => e = .returned (.tuple #[.string (S (unescR s.data.toList).1), .bool (unescR s.data.toList).2]) ∧ Below w.heap.size w w' := by
  by_cases h37 : s.data.toList = [37]
  · have hs' : s = ⟨#[37]⟩ := by rw [← S_data s, h37]
    subst hs'
    rw [show (⟨#[37]⟩ : ByteArray).data.toList = [37] from rfl, unescR_pct]
    go_enter Tryd.func47, Tryd.ntmps47
    go_wp2_with fail
    go_ret2
    exact ⟨rfl, Below.refl _ _⟩
  · have hq : (s.toList == [37]) = false := by
      rw [ByteArray.toList_eq]; simpa using h37
    have H37 := hid h37
    clear h37
    obtain ⟨L, hL⟩ : ∃ L, L = s.data.toList := ⟨_, rfl⟩
    have hLs : L.length = s.size := by rw [hL]; exact size_list s
    rw [← hL] at H37 ⊢
    have HL := hid hL; have HLS := hid hLs
    clear hL hLs
    go_enter Tryd.func47, Tryd.ntmps47
    go_wp2_with fail
    clear hq
    go_loopw [4, 5] (fun u i wr => ∃ (k : Nat) (t : List UInt8), k ≤ s.size ∧ i = .int .i64 k ∧ u = .string (S t) ∧ t.length ≤ k ∧ Hid (parse L = (parse (L.drop k)).map (t ++ ·)) ∧ Below w.heap.size w wr) (fun _ i _ => s.size - (intOf i).toNat)
    case atStart => exact ⟨0, [], Nat.zero_le _, rfl, rfl, Nat.le_refl _, hid (by cases h : parse L <;> simp [h]), Below.refl _ _⟩
    case round =>
      obtain ⟨k, t, hk, rfl, rfl, ht, hP, hB⟩ := hrel
      have hsz := hB.size
      by_cases hlt : k < s.size
      · have h256 : (s[k].toNat : Int) < 256 := by have := s[k].toNat_lt; omega
        have HD : Hid (L.drop k = s[k] :: L.drop (k + 1)) := hid (by rw [HL.out]; exact List.drop_eq_getElem_cons (by rw [size_list]; exact hlt))
        by_cases hc : (s[k].toNat : Int) = 37
        · have hc1 : ((s[k].toNat : Int) != 37) = false := by simp [hc]
          have HC : Hid (s[k].toNat = 37) := hid (by omega)
          clear hc
          by_cases h2 : s.size ≤ k + 2
          · have h2' : (s.size : Int) ≤ (k : Int) + 2 := by omega
            have HF : Hid (unescR L = ([], false)) := hid (unescR_none H37.out (by
              rw [hP.out, HD.out, parse_short _ HC.out (by have := HLS.out; rw [List.length_drop]; omega)]; rfl))
            go_wp2_with fail
            go_ret2
            rw [HF.out]
            exact ⟨rfl, hB⟩
          · have h2' : (k : Int) + 2 < (s.size : Int) := by omega
            have hk1 : k + 1 < s.size := by omega
            have hk2 : k + 2 < s.size := by omega
            have b1 : (0 : Int) ≤ (k : Int) + 1 := by omega
            have b2 : (0 : Int) ≤ (k : Int) + 2 := by omega
            have b3 : (k : Int) + 1 < (s.size : Int) := by omega
            have HD2 : Hid (L.drop k = s[k] :: s[k + 1] :: s[k + 2] :: L.drop (k + 3)) := hid (by
              rw [HD.out, HL.out, List.drop_eq_getElem_cons (l := s.data.toList) (i := k + 1) (by rw [size_list]; exact hk1), List.drop_eq_getElem_cons (l := s.data.toList) (i := k + 2) (by rw [size_list]; exact hk2)]; rfl)
            have HNO : Hid (¬ (hexv s[k + 1] < 16 ∧ hexv s[k + 2] < 16) → unescR L = ([], false)) := hid (fun hh => unescR_none H37.out (by rw [hP.out, HD2.out, parse_bad _ HC.out hh]; rfl))
            by_cases ha : hexv s[k + 1] < 16
            · obtain ⟨x, hx⟩ : ∃ x, x = hexv s[k + 1] := ⟨_, rfl⟩
              have HX : Hid (hexI s[k + 1] = (x : Int)) := hid (by rw [hexI_ok ha, hx])
              have HX' := hid hx
              have hx16 : x < 16 := by omega
              have hx16' : (x : Int) < 16 := by omega
              clear hx ha
              by_cases hb : hexv s[k + 2] < 16
              · obtain ⟨y, hy⟩ : ∃ y, y = hexv s[k + 2] := ⟨_, rfl⟩
                have HY : Hid (hexI s[k + 2] = (y : Int)) := hid (by rw [hexI_ok hb, hy])
                have HP2 : Hid (parse L = (parse (L.drop (k + 3))).map ((t ++ [UInt8.ofNat (x * 16 + y)]) ++ ·)) := hid (by
                  rw [hP.out, HD2.out, parse_hex _ HC.out (by rw [← HX'.out]; exact hx16) hb, Option.map_map, HX'.out, hy]; congr 1; funext z; simp [hexB])
                have hy16 : y < 16 := by omega
                have hy16' : (y : Int) < 16 := by omega
                clear hy hb
                have z1 : ((x : Int) < 0) = False := by simp
                have z2 : ((y : Int) < 0) = False := by simp
                have hcv := fun (n : Int) (w0 : World) => conv_one (P := Tryd.prog) (w0.alloc (Obj.cells #[.int .u8 n] 5)) 42 9 5 n Tryd.underlying42 Tryd.underlying5 Tryd.underlying9 w0.heap.size (by simp [World.cell?_alloc_at])
                go_wp2_with (go_at_call 61; first | (with_reducible refine (digit_i _ _ HX.out _).mono ?_) | (with_reducible refine (digit_i _ _ HY.out _).mono ?_))
                rintro e w1 ⟨rfl, rfl⟩
                go_wp2_with (go_at_call 61; first | (with_reducible refine (digit_i _ _ HX.out _).mono ?_) | (with_reducible refine (digit_i _ _ HY.out _).mono ?_))
                rintro e w1 ⟨rfl, rfl⟩
                go_wp2_with fail
                have hw := hB.alloc hsz (.cells #[.int .u8 (16 * (x : Int) + y)] 5)
                exact ⟨⟨k + 3, t ++ [UInt8.ofNat (x * 16 + y)], by omega, by go_num, by rw [S_app, hex_byte x y], by simp; omega, HP2, hw⟩, by simp [intOf]; omega⟩
              · have HY : Hid (hexI s[k + 2] = -1) := hid (hexI_no hb)
                have HF : Hid (unescR L = ([], false)) := hid (HNO.out (fun h => hb h.2))
                clear hb
                go_wp2_with (go_at_call 61; first | (with_reducible refine (digit_i _ _ HX.out _).mono ?_) | (with_reducible refine (digit_i _ _ HY.out _).mono ?_))
                rintro e w1 ⟨rfl, rfl⟩
                go_wp2_with (go_at_call 61; first | (with_reducible refine (digit_i _ _ HX.out _).mono ?_) | (with_reducible refine (digit_i _ _ HY.out _).mono ?_))
                rintro e w1 ⟨rfl, rfl⟩
                go_wp2_with fail
                go_ret2
                rw [HF.out]
                exact ⟨rfl, hB⟩
            · have HX : Hid (hexI s[k + 1] = -1) := hid (hexI_no ha)
              have HF : Hid (unescR L = ([], false)) := hid (HNO.out (fun h => ha h.1))
              clear ha
              obtain ⟨y, HY⟩ : ∃ y, Hid (hexI s[k + 2] = y) := ⟨_, hid rfl⟩
              go_wp2_with (go_at_call 61; first | (with_reducible refine (digit_i _ _ HX.out _).mono ?_) | (with_reducible refine (digit_i _ _ HY.out _).mono ?_))
              rintro e w1 ⟨rfl, rfl⟩
              go_wp2_with (go_at_call 61; first | (with_reducible refine (digit_i _ _ HX.out _).mono ?_) | (with_reducible refine (digit_i _ _ HY.out _).mono ?_))
              rintro e w1 ⟨rfl, rfl⟩
              go_wp2_with fail
              go_ret2
              rw [HF.out]
              exact ⟨rfl, hB⟩
        · have hc1 : ((s[k].toNat : Int) != 37) = true := by simp [hc]
          have HP2 : Hid (parse L = (parse (L.drop (k + 1))).map ((t ++ [s[k]]) ++ ·)) := hid (by
            rw [hP.out, HD.out, parse_plain _ (by omega), Option.map_map]; congr 1; funext x; simp)
          clear hc
          go_wp2_with fail
          exact ⟨⟨k + 1, t ++ [s[k]], by omega, by go_num, by rw [cut_one s k hlt, S_app], by simp; omega, HP2, hB⟩, by simp [intOf]; omega⟩
      · have HF : Hid (parse L = some t) := hid (by
          rw [hP.out, List.drop_eq_nil_of_le (by have := HLS.out; omega)]; simp [parse])
        clear hP
        by_cases h0 : t = []
        · subst h0
          have HU : Hid (unescR L = ([], false)) := hid (by rw [unescR_some H37.out HF.out]; simp)
          have he : (S ([] : List UInt8)) = ⟨#[]⟩ := rfl
          rw [he]
          go_wp2_with fail
          go_ret2
          rw [HU.out]
          exact ⟨rfl, hB⟩
        · have HU : Hid (unescR L = (t, decide (escL t = L))) := hid (by rw [unescR_some H37.out HF.out]; simp [h0])
          have he : !(S t).toList.isEmpty := by rw [ByteArray.toList_eq]; simpa [S] using h0
          have he1 : (S t).toList.isEmpty = false := by simpa using he
          have H0 := hid h0
          clear h0
          go_wp2_with fail
          refine (Escape_c (S t) _ (by simp [S, ByteArray.size]; omega)).mono ?_
          rintro e w2 ⟨rfl, hB2⟩
          go_wp2_with fail
          go_ret2
          rw [HU.out]
          refine ⟨?_, hB.trans (hB2.mono hB.size)⟩
          have e2 : (!t.isEmpty && (esc t == s.toList)) = decide (escL t = L) := by
            unfold esc
            rw [HL.out, if_neg H0.out, ByteArray.toList_eq, Bool.eq_iff_iff]; simp [H0.out]
          exact congrArg (fun b => Ending.returned (.tuple #[.string (S t), .bool b])) e2
end Go.Proofs.YtijlfggficjamaaDoor
