/- The contract of kindredref26.Words. -/
import Derived.Test.YtijlfggficjamaaDoorDecWords
namespace Go.Proofs.YtijlfggficjamaaDoor
set_option linter.unusedVariables false
set_option linter.unusedSimpArgs false
open Go Go.RowKit
open Go.Lib (hid)

theorem cut_data (s : ByteArray) (a i : Nat) : (s.extract a i).data.toList = (s.data.toList.drop a).take (i - a) := Lib.extract_data s a i

set_option maxRecDepth 100000 in
set_option maxHeartbeats 1000000 in
theorem Words_c (s : ByteArray) (w : World) (hs : s.size ≤ 1000000000) :
    Calls Tryd.prog 29 #[.string s] w (WordsPost s.data.toList w) := by
  obtain ⟨i0, hi, hz0, hz1, hz2⟩ := info_parts infoStr
  obtain ⟨L, hL⟩ : ∃ L, L = s.data.toList := ⟨_, rfl⟩
  have hLs : L.length = s.size := by rw [hL]; exact size_list s
  rw [← hL]
  have HL := hid hL; have HLS := hid hLs
  clear hL hLs
  go_enter Tryd.func29, Tryd.ntmps29
  go_wp2_with fail
  go_loopw [4, 5, 6] (fun v fr i wr => ∃ (k a : Nat) (ws : List (List UInt8)) (F : Frag) (lv : Value), lv = v ∧ fr = .int .i64 a ∧ i = .int .i64 k ∧ Hid (WordsAt L a k ws) ∧ ws.length ≤ k ∧ k ≤ s.size + 1 ∧ Rw 9 1 lv ws.length (LS ws) F ∧ St w wr F) (fun _ _ i _ => s.size + 1 - (intOf i).toNat)
  case atStart => exact ⟨0, 0, [], [], _, rfl, rfl, rfl, hid (wat_start L), Nat.le_refl _, by omega, Rw.nil _ _, St.refl w⟩
  case round =>
    obtain ⟨k, a, ws, F, lv, rfl, rfl, rfl, hW, hwl, hk, hR, hS⟩ := hrel
    have HS := hid hS; have HR := hid hR
    clear hS hR
    by_cases hlt : k ≤ s.size
    · have hak : a ≤ k := wat_a hW.out (by have := HLS.out; omega)
      have hsz : ((s.extract a k).size) ≤ 1000000000 := by rw [← size_list, cut_data, List.length_take, List.length_drop]; have := size_list s; omega
      obtain ⟨p, hp⟩ : ∃ p, p = (L.drop a).take (k - a) := ⟨_, rfl⟩
      have HPD : Hid ((s.extract a k).data.toList = p) := hid (by rw [cut_data, hp, HL.out])
      have hpl : p.length ≤ 1000000000 := by rw [← HPD.out, size_list]; exact hsz
      have HPP := hid hp
      clear hp hsz
      -- the piece that ends here
      have piece : ∀ r q, Hid (unescR p = (r, q)) → Hid (∀ h : k < L.length, L[k] = 32) → Hid ((q = false → wordsS L = none) ∧ (q = true → WordsAt L (k + 1) (k + 1) (ws ++ [r]))) := fun r q h hc => hid
        ⟨fun e => wat_no hW.out (by have := HLS.out; omega) hc.out (by rw [← HPP.out]; unfold unescO; rw [h.out, e]; rfl), fun e => wat_yes hW.out (by have := HLS.out; omega) hc.out (by rw [← HPP.out]; unfold unescO; rw [h.out, e]; rfl)⟩
      have HPC := hid piece
      clear piece
      obtain ⟨r, q, hrq⟩ : ∃ r q, unescR p = (r, q) := ⟨_, _, rfl⟩
      have HRQ := hid hrq
      clear hrq
      by_cases he : k = s.size
      · have hb : ((k : Int) == (s.size : Int)) = true := by simp [he]
        have HX := HPC.out r q HRQ (hid (fun h => by have := HLS.out; omega))
        have HE := hid he
        clear he
        have hkk : (k : Int) ≤ (s.size : Int) := by omega
        cases q with
        | false =>
          go_wp2_with fail
          refine (Unescape_l p r false HRQ.out _ HPD.out _ (by omega)).mono ?_
          rintro e w1 ⟨rfl, hb1⟩
          go_wp2_with fail
          go_ret2
          exact wpost_no (HX.out.1 (by trivial)) rfl ((HS.out.callB hb1).toSt0)
        | true =>
          go_wp2_with fail
          refine (Unescape_l p r true HRQ.out _ HPD.out _ (by omega)).mono ?_
          rintro e w1 ⟨rfl, hb1⟩
          have HS1 : Hid (St w w1 (F ++ [])) := hid (by rw [List.append_nil]; exact HS.out.callB hb1)
          clear hb1
          go_wp2_with (at_builtin; refine append_st (by rfl) _ _ 28 (by rfl) 9 i0 (.string ⟨#[]⟩) 1 16 Tryd.underlying28 hi hz0 hz1 hz2 (by rfl) (by decide) lv ws.length (LS ws) F [] (by rfl) HR.out HS1.out 1 w1.heap.size [.string (S r)] (by rfl) (by rfl) (by rfl) (by intro u hu; simp at hu; subst hu; rfl) (by unfold maxLen; omega) (by omega) ?_)
          intro v' w2 F' hR' hS'
          rw [LS_one] at hR'
          have hS' : St w w2 F' := by simpa using hS'
          have HR' := hid hR'; have HS' := hid hS'
          clear hR' hS'
          go_wp2_with fail
          exact ⟨⟨k + 1, k + 1, ws ++ [r], F', _, rfl, by go_num, by go_num, hid (HX.out.2 (by trivial)), by simp; omega, by omega, by simpa using HR'.out, HS'.out⟩, by simp [intOf]; omega⟩
      · have hb : ((k : Int) == (s.size : Int)) = false := by simp; omega
        have hkl : k < s.size := by omega
        have h256 : (s[k].toNat : Int) < 256 := by have := s[k].toNat_lt; omega
        have HLk : Hid (∀ h : k < L.length, L[k] = s[k]) := hid (fun h => by simp only [HL.out]; rfl)
        clear he
        by_cases hc : (s[k].toNat : Int) = 32
        · have hc1 : ((s[k].toNat : Int) == 32) = true := by simp [hc]
          have HX := HPC.out r q HRQ (hid (fun h => by rw [HLk.out h]; exact UInt8.toNat_inj.1 (by show s[k].toNat = 32; omega)))
          clear hc
          cases q with
          | false =>
            go_wp2_with fail
            refine (Unescape_l p r false HRQ.out _ HPD.out _ (by omega)).mono ?_
            rintro e w1 ⟨rfl, hb1⟩
            go_wp2_with fail
            go_ret2
            exact wpost_no (HX.out.1 (by trivial)) rfl ((HS.out.callB hb1).toSt0)
          | true =>
            go_wp2_with fail
            refine (Unescape_l p r true HRQ.out _ HPD.out _ (by omega)).mono ?_
            rintro e w1 ⟨rfl, hb1⟩
            have HS1 : Hid (St w w1 (F ++ [])) := hid (by rw [List.append_nil]; exact HS.out.callB hb1)
            clear hb1
            go_wp2_with (at_builtin; refine append_st (by rfl) _ _ 28 (by rfl) 9 i0 (.string ⟨#[]⟩) 1 16 Tryd.underlying28 hi hz0 hz1 hz2 (by rfl) (by decide) lv ws.length (LS ws) F [] (by rfl) HR.out HS1.out 1 w1.heap.size [.string (S r)] (by rfl) (by rfl) (by rfl) (by intro u hu; simp at hu; subst hu; rfl) (by unfold maxLen; omega) (by omega) ?_)
            intro v' w2 F' hR' hS'
            rw [LS_one] at hR'
            have hS' : St w w2 F' := by simpa using hS'
            have HR' := hid hR'; have HS' := hid hS'
            clear hR' hS'
            go_wp2_with fail
            exact ⟨⟨k + 1, k + 1, ws ++ [r], F', _, rfl, by go_num, by go_num, hid (HX.out.2 (by trivial)), by simp; omega, by omega, by simpa using HR'.out, HS'.out⟩, by simp [intOf]; omega⟩
        · have hc1 : ((s[k].toNat : Int) == 32) = false := by simp [hc]
          have HX : Hid (WordsAt L a (k + 1) ws) := hid (wat_step hW.out (by have := HLS.out; omega) (fun e => hc (by
            have := HLk.out (by have := HLS.out; omega)
            rw [e] at this
            rw [← this]; rfl)))
          clear hc
          go_wp2_with fail
          exact ⟨⟨k + 1, a, ws, F, _, rfl, rfl, by go_num, HX, by omega, by omega, HR.out, HS.out⟩, by simp [intOf]; omega⟩
    · have HF : Hid (wordsS L = some ws) := hid (wat_end hW.out (by have := HLS.out; omega))
      go_wp2_with fail
      go_ret2
      exact wpost_ok HF.out rfl HR.out HS.out
end Go.Proofs.YtijlfggficjamaaDoor
