/- The walk of the law PlayByLines. -/
import Derived.Test.YtijlfggficjamaaDoorDecLaw
import Derived.Test.YtijlfggficjamaaDoorByPlain
import Derived.Test.YtijlfggficjamaaDoorByCut
import Derived.Deep.QuietTactic
import Derived.BigQuiet
namespace Go.Proofs.YtijlfggficjamaaDoor
set_option linter.unusedVariables false
set_option linter.unusedSimpArgs false
open Go Go.RowKit
open Go.Lib (hid)

theorem known_dec : decS [103, 101, 116, 32, 55, 10] = .ok [⟨5, [7], [], 0, 0, 0⟩] := by kernel_rfl
theorem decR_ne : ∀ {L : List (List UInt8)} {n m : Nat} {c : Int}, decR n L = .no m c → c ≠ 0
  | [], n, m, c, h => by simp [decR] at h
  | l :: r, n, m, c, h => by
    rw [decR] at h
    split at h
    · exact decR_ne h
    · split at h
      · rename_i e he
        cases h
        unfold lineS at he
        split at he
        · cases he; decide
        · exact read_no_ne he
      · cases hr : decR (n + 1) r with
        | ok q => rw [hr] at h; cases h
        | no a b => rw [hr] at h; cases h; exact decR_ne hr
theorem decS_ne {t : List UInt8} {m : Nat} {c : Int} (h : decS t = .no m c) : c ≠ 0 := decR_ne h
theorem decR_le : ∀ {L : List (List UInt8)} {n m : Nat} {c : Int}, decR n L = .no m c → m ≤ n + L.length
  | [], n, m, c, h => by simp [decR] at h
  | l :: r, n, m, c, h => by
    rw [decR] at h
    rw [List.length_cons]
    split at h
    · have := decR_le h; omega
    · split at h
      · cases h; omega
      · cases hr : decR (n + 1) r with
        | ok q => rw [hr] at h; cases h
        | no a b => rw [hr] at h; cases h; have := decR_le hr; omega
theorem decS_le {t : List UInt8} {m : Nat} {c : Int} (h : decS t = .no m c) : m ≤ t.length + 2 := by
  have h1 := decR_le h
  have h2 := lines_len t
  omega

/-- whatever Decode answers -/
theorem dpost_any {T : List UInt8} {w w' : World} {e : Ending} (h : DecPost T w e w') : ∃ (ad : Option Addr) (k cap n : Nat) (c : Int), e = .returned (.tuple #[.slice ad k cap, .int .i64 n, .int .i64 c]) ∧ St w w' [] := by
  unfold DecPost at h
  split at h
  · exact ⟨none, 0, 0, _, _, h.1, h.2⟩
  · obtain ⟨v, F, rfl, hM, hS⟩ := h
    obtain ⟨ad, cap, rfl, _⟩ := hM.stepsOf hS
    exact ⟨ad, _, cap, 0, 0, rfl, hS.toSt0⟩

set_option maxRecDepth 100000 in
set_option maxHeartbeats 4000000 in
theorem byLines_c (a b : ByteArray) (w : World) (ha : a.size ≤ 4000000) (hb : b.size ≤ 4000000) (he : DEnv w) :
    Calls Tryd.prog 5 #[.string a, .string b] w fun e w' => e = .returned (.bool true) ∧ Below w.heap.size w w' := by
  obtain ⟨A, hA⟩ : ∃ A, A = a.data.toList := ⟨_, rfl⟩
  obtain ⟨B, hB⟩ : ∃ B, B = b.data.toList := ⟨_, rfl⟩
  have hAs : A.length = a.size := by rw [hA]; exact size_list a
  have hBs : B.length = b.size := by rw [hB]; exact size_list b
  have haA : a = S A := by rw [hA, S_data]
  have hbB : b = S B := by rw [hB, S_data]
  clear hA hB
  subst haA hbB
  rw [S_size] at ha hb
  have h0 := playDecode_c ⟨#[103, 101, 116, 32, 55, 10]⟩ w (by decide) he
  have h1 := fun (W : World) (hW : DEnv W) => playDecode_c (S (A ++ [10])) W (by rw [S_size]; simp; omega) hW
  have h2 := fun (W : World) (hW : DEnv W) => playDecode_c (S B) W (by rw [S_size]; omega) hW
  have h3 := fun (W : World) (hW : DEnv W) => playDecode_c (S (A ++ 10 :: B)) W (by rw [S_size]; simp; omega) hW
  simp only [S_list] at h1 h2 h3
  rw [show S (A ++ 10 :: B) = S A ++ ⟨#[10]⟩ ++ S B by rw [show (⟨#[10]⟩ : ByteArray) = S [10] from rfl, S_app, S_app]; simp] at h3
  rw [show S (A ++ [10]) = S A ++ ⟨#[10]⟩ by rw [show (⟨#[10]⟩ : ByteArray) = S [10] from rfl, S_app]] at h1
  rw [show (⟨#[103, 101, 116, 32, 55, 10]⟩ : ByteArray).data.toList = [103, 101, 116, 32, 55, 10] from rfl] at h0
  have HE := hid he; have H0 := hid h0; have H1 := hid h1; have H2 := hid h2; have H3 := hid h3
  clear he h0 h1 h2 h3 hAs hBs
  go_enter Tryd.func5, Tryd.ntmps5
  go_wp2_with fail
  refine H0.out.mono ?_
  intro e W1 hp1
  unfold DecPost at hp1
  rw [known_dec] at hp1
  obtain ⟨v1, F1, rfl, hM1, hS1⟩ := hp1
  have hso := hM1.stepsOf hS1
  have HS1 := hid hS1.toSt0
  clear hM1 hS1
  obtain ⟨ad, cap, rfl, hl, hcap, hc⟩ := hso
  obtain ⟨g, o, rfl, hcc⟩ := hc (by simp)
  obtain ⟨cs, hcs, hcell⟩ := hcc 0 _ rfl
  obtain ⟨nv, sv, rfl, hn, _⟩ := hcs
  obtain ⟨an, capn, rfl, hn1, hn2, hnc⟩ := hn
  obtain ⟨gn, on, rfl, hnn⟩ := hnc (by simp [ints])
  have q0 := hcell 0 (.int .i64 5) rfl
  have q1 := hcell 1 (.slice (some ⟨gn, on, none⟩) 1 capn) rfl
  have n0 := hnn 0 _ rfl
  simp only [Nat.zero_mul, Nat.add_zero, List.length_cons, List.length_nil, Nat.zero_add] at q0 q1 n0 hl hn1 ⊢
  clear hcell hnn hnc hcc hc
  go_wp2_with fail
  refine (H1.out W1 (HE.out.st HS1.out)).mono ?_
  intro e W2 hp2
  cases hd : decS (A ++ [10]) with
  | no n c =>
    unfold DecPost at hp2
    rw [hd] at hp2
    obtain ⟨rfl, hS2⟩ := hp2
    have hc0 := decS_ne hd
    have HD := hid hd; have HS2 := hid (HS1.out.callB hS2.below)
    clear hd hS2
    go_wp2_with fail
    refine (H2.out W2 (HE.out.st HS2.out)).mono ?_
    intro e W3 hp3
    obtain ⟨ad3, k3, cap3, n3, c3, rfl, hS3⟩ := dpost_any hp3
    have HS3 := hid (HS2.out.callB hS3.below)
    clear hp3 hS3
    go_wp2_with fail
    refine (H3.out W3 (HE.out.st HS3.out)).mono ?_
    intro e W4 hp4
    unfold DecPost at hp4
    rw [decS_two, HD.out] at hp4
    obtain ⟨rfl, hS4⟩ := hp4
    have HS4 := hid (HS3.out.callB hS4.below)
    clear hS4
    go_wp2_with fail
    go_ret
    exact ⟨rfl, HS4.out.below⟩
  | ok xs =>
    unfold DecPost at hp2
    rw [hd] at hp2
    obtain ⟨v2, F2, rfl, hM2, hS2⟩ := hp2
    have hso := hM2.stepsOf hS2
    have HD := hid hd; have HS2 := hid (HS1.out.callB hS2.below)
    clear hd hS2 hM2
    obtain ⟨ad2, cap2, rfl, hl2, hcap2, hc2⟩ := hso
    have HA : Hid (StepsOf W2 (.slice ad2 xs.length cap2) xs) := hid ⟨ad2, cap2, rfl, hl2, hcap2, hc2⟩
    clear hc2
    go_wp2_with fail
    refine (H2.out W2 (HE.out.st HS2.out)).mono ?_
    intro e W3 hp3
    cases hd3 : decS B with
    | no n c =>
      unfold DecPost at hp3
      rw [hd3] at hp3
      obtain ⟨rfl, hS3⟩ := hp3
      have hc0 := decS_ne hd3
      have hnB := decS_le hd3
      have HD3 := hid hd3; have HS3 := hid (HS2.out.callB hS3.below)
      clear hd3 hS3
      go_wp2_with fail
      refine (H3.out W3 (HE.out.st HS3.out)).mono ?_
      intro e W4 hp4
      unfold DecPost at hp4
      rw [decS_two, HD.out, HD3.out] at hp4
      simp only [Dec.shift, Dec.app] at hp4
      obtain ⟨rfl, hS4⟩ := hp4
      have HS4 := hid (HS3.out.callB hS4.below)
      clear hS4
      go_wp2_with fail
      obtain ⟨C, hC⟩ : ∃ C, C = S A ++ ⟨#[10]⟩ := ⟨_, rfl⟩
      have hCl : C.data.toList = A ++ [10] := by rw [hC, show (⟨#[10]⟩ : ByteArray) = S [10] from rfl, S_app, S_list]
      have hCs : C.size = A.length + 1 := by rw [← size_list, hCl]; simp
      rw [← hC]
      clear hC H0 H1 H2 H3
      have HCL := hid hCl
      clear hCl
      go_loopw [18, 19] (fun l x wr => ∃ k : Nat, k ≤ C.size ∧ x = .int .i64 k ∧ l = .int .i64 ((C.data.toList.take k).count 10 : Nat) ∧ ∃ m, wr = W4.drewN m) (fun _ x _ => C.size - (RowKit.intOf x).toNat)
      case atStart => exact ⟨0, Nat.zero_le _, rfl, by simp, 0, rfl⟩
      case round =>
        obtain ⟨k, hk, rfl, rfl, m, rfl⟩ := hrel
        by_cases hlt : k < C.size
        · have h256 : (C[k].toNat : Int) < 256 := by have := C[k].toNat_lt; omega
          have hts := take_snoc C k hlt
          obtain ⟨q, hq⟩ : ∃ q : Nat, q = (C.data.toList.take k).count 10 := ⟨_, rfl⟩
          have hql : q ≤ k := by rw [hq]; exact Nat.le_trans (List.count_le_length) (List.length_take_le _ _)
          have HQ := hid hq; have HTS := hid hts
          rw [← hq]
          clear hq hts
          by_cases hn : (C[k].toNat : Int) = 10
          · have hcnt : (C.data.toList.take (k + 1)).count 10 = q + 1 := by
              have h10 : C[k] = 10 := UInt8.toNat_inj.1 (by show _ = 10; omega)
              rw [HTS.out, List.count_append, ← HQ.out, h10]
              rfl
            go_wp2_with fail
            exact ⟨⟨k + 1, by omega, by go_num, by rw [hcnt]; go_num, _, rfl⟩, by simp [RowKit.intOf]; omega⟩
          · have hcnt : (C.data.toList.take (k + 1)).count 10 = q := by
              rw [HTS.out, List.count_append, ← HQ.out, List.count_eq_zero.2 (fun hm => hn (by rw [List.mem_singleton] at hm; rw [← hm]; rfl))]
              rfl
            go_wp2_with fail
            exact ⟨⟨k + 1, by omega, by go_num, by rw [hcnt], _, rfl⟩, by simp [RowKit.intOf]; omega⟩
        · have hek : C.data.toList.take k = A ++ [10] := by rw [List.take_of_length_le (by rw [size_list]; omega), HCL.out]
          rw [hek]
          have hcA : A.count 10 ≤ A.length := List.count_le_length
          go_wp2_with fail
          go_ret
          exact ⟨retB (by simp), drewN_below HS4.out.below m⟩
    | ok ys =>
      unfold DecPost at hp3
      rw [hd3] at hp3
      obtain ⟨v3, F3, rfl, hM3, hS3⟩ := hp3
      have hso := hM3.stepsOf hS3
      have HB3 := hid hS3.below
      have HD3 := hid hd3; have HS3 := hid (HS2.out.callB hS3.below)
      clear hd3 hS3 hM3
      obtain ⟨ad3, cap3, rfl, hl3, hcap3, hc3⟩ := hso
      have HB : Hid (StepsOf W3 (.slice ad3 ys.length cap3) ys) := hid ⟨ad3, cap3, rfl, hl3, hcap3, hc3⟩
      clear hc3
      go_wp2_with fail
      refine (H3.out W3 (HE.out.st HS3.out)).mono ?_
      intro e W4 hp4
      unfold DecPost at hp4
      rw [decS_two, HD.out, HD3.out] at hp4
      simp only [Dec.shift, Dec.app] at hp4
      obtain ⟨v4, F4, rfl, hM4, hS4⟩ := hp4
      have hso := hM4.stepsOf hS4
      have HB4 := hid hS4.below
      have HS4 := hid (HS3.out.callB hS4.below)
      clear hS4 hM4
      obtain ⟨ad4, cap4, rfl, hl4, hcap4, hc4⟩ := hso
      have hC : StepsOf W4 (.slice ad4 (xs ++ ys).length cap4) (xs ++ ys) := ⟨ad4, cap4, rfl, hl4, hcap4, hc4⟩
      rw [List.length_append] at hC hl4 ⊢
      clear hc4
      obtain ⟨adl, hrl, hsl⟩ := steps_lo hC
      obtain ⟨adh, hrh, hsh⟩ := steps_hi hC
      have HL := hid hsl; have HH := hid hsh
      clear hC hsl hsh H0 H1 H2 H3
      unfold maxLen at hcap2 hcap3 hcap4
      have e1 : ((xs.length + ys.length : Nat) : Int) = (xs.length : Int) + (ys.length : Int) := by omega
      go_wp2_with fail
      refine (sameSteps_c W4 _ _ xs HL.out (HA.out.below (HB3.out.trans (HB4.out.mono HB3.out.size)) (Nat.le_refl _))).mono ?_
      rintro e W5 ⟨rfl, m5, rfl⟩
      go_wp2_with fail
      refine (sameSteps_c _ _ _ ys (HH.out.drewN m5) ((HB.out.below HB4.out (Nat.le_refl _)).drewN m5)).mono ?_
      rintro e W6 ⟨rfl, m6, rfl⟩
      go_wp2_with fail
      go_ret
      exact ⟨rfl, drewN_below HS4.out.below _⟩
end Go.Proofs.YtijlfggficjamaaDoor
