/- The contract of kindredref26.lines. -/
import Derived.Test.YtijlfggficjamaaDoorDecStepZ
namespace Go.Proofs.YtijlfggficjamaaDoor
set_option linter.unusedVariables false
set_option linter.unusedSimpArgs false
open Go Go.RowKit
open Go.Lib (hid)

/-- the lines ahead of 'a' are D; from there up to k no line ends -/
def LinesAt (L : List UInt8) (a k : Nat) (D : List (List UInt8)) : Prop :=
  a ≤ k ∧ k ≤ L.length ∧ (∀ x ∈ (L.drop a).take (k - a), x ≠ 10) ∧ linesS L = D ++ linesS (L.drop a)
theorem lat_start (L : List UInt8) : LinesAt L 0 0 [] := ⟨Nat.le_refl _, Nat.zero_le _, by simp, rfl⟩
theorem lat_step {L : List UInt8} {a k : Nat} {D : List (List UInt8)} (h : LinesAt L a k D) (hk : k < L.length) (hc : L[k] ≠ 10) : LinesAt L a (k + 1) D := by
  obtain ⟨h1, h2, h3, h4⟩ := h
  refine ⟨by omega, hk, fun x hx => ?_, h4⟩
  rw [show k + 1 - a = (k - a) + 1 by omega, List.take_succ_eq_append_getElem (by rw [List.length_drop]; omega)] at hx
  rcases List.mem_append.1 hx with hx | hx
  · exact h3 x hx
  · simp at hx
    subst hx
    simpa [show a + (k - a) = k by omega] using hc
theorem lat_end {L : List UInt8} {a k : Nat} {D : List (List UInt8)} (h : LinesAt L a k D) (hk : k < L.length) (hc : L[k] = 10) : LinesAt L (k + 1) (k + 1) (D ++ [(L.drop a).take (k - a)]) := by
  obtain ⟨h1, h2, h3, h4⟩ := h
  refine ⟨Nat.le_refl _, hk, by simp, ?_⟩
  rw [h4]
  have hpc := wat_piece h1 h2
  obtain ⟨q, hq⟩ : ∃ q, q = (L.drop a).take (k - a) := ⟨_, rfl⟩
  rw [← hq] at hpc h3 ⊢
  rw [hpc, List.drop_eq_getElem_cons hk, hc, lines_pre _ _ h3]
  simp
theorem lat_fin {L : List UInt8} {a k : Nat} {D : List (List UInt8)} (h : LinesAt L a k D) (hk : k = L.length) : linesS L = if a < L.length then D ++ [L.drop a] else D := by
  obtain ⟨h1, h2, h3, h4⟩ := h
  rw [h4]
  split
  · rename_i hl
    rw [lines_last]
    · intro x hx
      exact h3 x (by rw [List.take_of_length_le (by rw [List.length_drop]; omega)]; exact hx)
    · intro e
      have := congrArg List.length e
      rw [List.length_drop] at this
      simp at this; omega
  · rename_i hl
    rw [List.drop_eq_nil_of_le (by omega), lines_nil, List.append_nil]

set_option maxRecDepth 100000 in
set_option maxHeartbeats 1000000 in
theorem lines_c (s : ByteArray) (w : World) (hs : s.size ≤ 1000000000) :
    Calls Tryd.prog 28 #[.string s] w fun e w' => ∃ v F, e = .returned v ∧ Rw 9 1 v (linesS s.data.toList).length (LS (linesS s.data.toList)) F ∧ St w w' F := by
  obtain ⟨i0, hi, hz0, hz1, hz2⟩ := info_parts infoStr
  obtain ⟨L, hL⟩ : ∃ L, L = s.data.toList := ⟨_, rfl⟩
  have hLs : L.length = s.size := by rw [hL]; exact size_list s
  rw [← hL]
  have HL := hid hL; have HLS := hid hLs
  clear hL hLs
  go_enter Tryd.func28, Tryd.ntmps28
  go_wp2_with fail
  go_loopw [3, 4, 5] (fun v fr i wr => ∃ (k a : Nat) (D : List (List UInt8)) (F : Frag) (lv : Value), lv = v ∧ fr = .int .i64 a ∧ i = .int .i64 k ∧ Hid (LinesAt L a k D) ∧ D.length ≤ k ∧ a ≤ k ∧ k ≤ s.size ∧ Rw 9 1 lv D.length (LS D) F ∧ St w wr F) (fun _ _ i _ => s.size - (intOf i).toNat)
  case atStart => exact ⟨0, 0, [], [], _, rfl, rfl, rfl, hid (lat_start L), Nat.le_refl _, Nat.le_refl _, Nat.zero_le _, Rw.nil _ _, St.refl w⟩
  case round =>
    obtain ⟨k, a, D, F, lv, rfl, rfl, rfl, hW, hwl, hak, hk, hR, hS⟩ := hrel
    have HS := hid hS; have HR := hid hR
    clear hS hR
    by_cases hlt : k < s.size
    · have h256 : (s[k].toNat : Int) < 256 := by have := s[k].toNat_lt; omega
      have hkL : k < L.length := by have := HLS.out; omega
      have HLk : Hid (L[k] = s[k]) := hid (by simp only [HL.out]; rfl)
      by_cases hc : (s[k].toNat : Int) = 10
      · have hc1 : ((s[k].toNat : Int) == 10) = true := by simp [hc]
        have HX : Hid (LinesAt L (k + 1) (k + 1) (D ++ [(L.drop a).take (k - a)])) := hid (lat_end hW.out hkL (by
          rw [HLk.out]; exact UInt8.toNat_inj.1 (by show s[k].toNat = 10; omega)))
        have HPD : Hid (s.extract a k = S ((L.drop a).take (k - a))) := hid (by rw [← S_data (s.extract a k), cut_data, HL.out])
        clear hc
        have HS1 : Hid (St w wr (F ++ [])) := hid (by rw [List.append_nil]; exact HS.out)
        go_wp2_with (at_builtin; refine append_st (by rfl) _ _ 28 (by rfl) 9 i0 (.string ⟨#[]⟩) 1 16 Tryd.underlying28 hi hz0 hz1 hz2 (by rfl) (by decide) lv D.length (LS D) F [] (by rfl) HR.out HS1.out 1 wr.heap.size [.string (s.extract a k)] (by rfl) (by rfl) (by rfl) (by intro u hu; simp at hu; subst hu; rfl) (by unfold maxLen; omega) (by omega) ?_)
        intro v' w2 F' hR' hS'
        rw [HPD.out, LS_one] at hR'
        have hS' : St w w2 F' := by simpa using hS'
        have HR' := hid hR'; have HS' := hid hS'
        clear hR' hS'
        go_wp2_with fail
        exact ⟨⟨k + 1, k + 1, D ++ [(L.drop a).take (k - a)], F', _, rfl, by go_num, by go_num, HX, by simp; omega, by omega, by omega, by simpa using HR'.out, HS'.out⟩, by simp [intOf]; omega⟩
      · have hc1 : ((s[k].toNat : Int) == 10) = false := by simp [hc]
        have HX : Hid (LinesAt L a (k + 1) D) := hid (lat_step hW.out hkL (fun e => hc (by
          rw [HLk.out] at e
          rw [e]; rfl)))
        clear hc
        go_wp2_with fail
        exact ⟨⟨k + 1, a, D, F, _, rfl, rfl, by go_num, HX, by omega, by omega, by omega, HR.out, HS.out⟩, by simp [intOf]; omega⟩
    · have HF := hid (lat_fin hW.out (by have := HLS.out; omega))
      by_cases ha : a < s.size
      · have HF2 : Hid (linesS L = D ++ [L.drop a]) := hid (by rw [HF.out, if_pos (by have := HLS.out; omega)])
        have HPD : Hid (s.extract a s.size = S (L.drop a)) := hid (by
          rw [← S_data (s.extract a s.size), cut_data, HL.out, List.take_of_length_le (by rw [List.length_drop, size_list]; exact Nat.le_refl _)])
        have HS1 : Hid (St w wr (F ++ [])) := hid (by rw [List.append_nil]; exact HS.out)
        go_wp2_with (at_builtin; refine append_st (by rfl) _ _ 28 (by rfl) 9 i0 (.string ⟨#[]⟩) 1 16 Tryd.underlying28 hi hz0 hz1 hz2 (by rfl) (by decide) lv D.length (LS D) F [] (by rfl) HR.out HS1.out 1 wr.heap.size [.string (s.extract a s.size)] (by rfl) (by rfl) (by rfl) (by intro u hu; simp at hu; subst hu; rfl) (by unfold maxLen; omega) (by omega) ?_)
        intro v' w2 F' hR' hS'
        rw [HPD.out, LS_one] at hR'
        have hS' : St w w2 F' := by simpa using hS'
        have HR' := hid hR'; have HS' := hid hS'
        clear hR' hS'
        go_wp2_with fail
        go_ret
        exact ⟨v', F', rfl, by rw [HF2.out]; simpa using HR'.out, HS'.out⟩
      · have HF2 : Hid (linesS L = D) := hid (by rw [HF.out, if_neg (by have := HLS.out; omega)])
        go_wp2_with fail
        go_ret
        exact ⟨_, F, rfl, by rw [HF2.out]; exact HR.out, HS.out⟩
end Go.Proofs.YtijlfggficjamaaDoor
