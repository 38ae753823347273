/- Two lists that read alike: the walks of sameInts, sameWords, sameSteps. -/
import Derived.Test.YtijlfggficjamaaDoorPlayText2
namespace Go.Proofs.YtijlfggficjamaaDoor
set_option linter.unusedVariables false
set_option linter.unusedSimpArgs false
open Go Go.RowKit
open Go.Lib (hid)

theorem RowOf.drewN {w : World} {v : Value} {l : List Value} (h : RowOf w v l) (n : Nat) : RowOf (w.drewN n) v l := h
set_option maxRecDepth 100000 in
set_option maxHeartbeats 1000000 in
theorem sameInts_c (w : World) (v1 v2 : Value) (l : List Int) (h1 : RowOf w v1 (ints l)) (h2 : RowOf w v2 (ints l)) :
    Calls Tryd.prog 23 #[v1, v2] w fun e w' => e = .returned (.bool true) ∧ ∃ m, w' = w.drewN m := by
  obtain ⟨ad1, cap1, rfl, p1, q1, c1⟩ := h1
  obtain ⟨ad2, cap2, rfl, p2, q2, c2⟩ := h2
  rw [ints_len] at p1 p2 ⊢
  unfold maxLen at q1 q2
  have C1 := hid c1; have C2 := hid c2
  clear c1 c2
  go_enter Tryd.func23, Tryd.ntmps23
  go_wp2_with fail
  go_loopw [5] (fun i wr => ∃ k : Nat, k ≤ l.length ∧ i = .int .i64 k ∧ ∃ m, wr = w.drewN m) (fun i _ => l.length - (RowKit.intOf i).toNat)
  case atStart => exact ⟨0, Nat.zero_le _, rfl, 0, rfl⟩
  case round =>
    obtain ⟨k, hk, rfl, m, rfl⟩ := hrel
    by_cases hlt : k < l.length
    · have hne : ints l ≠ [] := by intro h; have := ints_len l; rw [h] at this; simp at this; omega
      obtain ⟨b1, o1, rfl, e1⟩ := C1.out hne
      obtain ⟨b2, o2, rfl, e2⟩ := C2.out hne
      have g1 := e1 k _ (ints_get _ _ hlt)
      have g2 := e2 k _ (ints_get _ _ hlt)
      obtain ⟨x, hx⟩ : ∃ x, x = l.getD k 0 := ⟨_, rfl⟩
      rw [← hx] at g1 g2
      clear e1 e2 hx C1 C2
      go_wp2_with fail
      go_quiet (fail)
      go_wp2_with fail
      exact ⟨⟨k + 1, by omega, by go_num, _, rfl⟩, by simp [RowKit.intOf]; omega⟩
    · go_wp2_with fail
      go_ret
      exact ⟨rfl, _, rfl⟩
set_option maxRecDepth 100000 in
set_option maxHeartbeats 1000000 in
theorem sameWords_c (w : World) (v1 v2 : Value) (l : List ByteArray) (h1 : RowOf w v1 (strs l)) (h2 : RowOf w v2 (strs l)) :
    Calls Tryd.prog 24 #[v1, v2] w fun e w' => e = .returned (.bool true) ∧ ∃ m, w' = w.drewN m := by
  obtain ⟨ad1, cap1, rfl, p1, q1, c1⟩ := h1
  obtain ⟨ad2, cap2, rfl, p2, q2, c2⟩ := h2
  rw [strs_len] at p1 p2 ⊢
  unfold maxLen at q1 q2
  have C1 := hid c1; have C2 := hid c2
  clear c1 c2
  go_enter Tryd.func24, Tryd.ntmps24
  go_wp2_with fail
  go_loopw [5] (fun i wr => ∃ k : Nat, k ≤ l.length ∧ i = .int .i64 k ∧ ∃ m, wr = w.drewN m) (fun i _ => l.length - (RowKit.intOf i).toNat)
  case atStart => exact ⟨0, Nat.zero_le _, rfl, 0, rfl⟩
  case round =>
    obtain ⟨k, hk, rfl, m, rfl⟩ := hrel
    by_cases hlt : k < l.length
    · have hne : strs l ≠ [] := by intro h; have := strs_len l; rw [h] at this; simp at this; omega
      obtain ⟨b1, o1, rfl, e1⟩ := C1.out hne
      obtain ⟨b2, o2, rfl, e2⟩ := C2.out hne
      have g1 := e1 k _ (strs_get _ _ hlt)
      have g2 := e2 k _ (strs_get _ _ hlt)
      obtain ⟨x, hx⟩ : ∃ x, x = l.getD k ByteArray.empty := ⟨_, rfl⟩
      rw [← hx] at g1 g2
      clear e1 e2 hx C1 C2
      go_wp2_with fail
      go_quiet (fail)
      go_wp2_with fail
      exact ⟨⟨k + 1, by omega, by go_num, _, rfl⟩, by simp [RowKit.intOf]; omega⟩
    · go_wp2_with fail
      go_ret
      exact ⟨rfl, _, rfl⟩
set_option maxRecDepth 100000 in
set_option maxHeartbeats 4000000 in
theorem sameSteps_c (w : World) (v1 v2 : Value) (l : List StepM) (h1 : StepsOf w v1 l) (h2 : StepsOf w v2 l) :
    Calls Tryd.prog 11 #[v1, v2] w fun e w' => e = .returned (.bool true) ∧ ∃ m, w' = w.drewN m := by
  obtain ⟨ad1, cap1, rfl, p1, q1, c1⟩ := h1
  obtain ⟨ad2, cap2, rfl, p2, q2, c2⟩ := h2
  unfold maxLen at q1 q2
  have C1 := hid c1; have C2 := hid c2
  clear c1 c2
  go_enter Tryd.func11, Tryd.ntmps11
  go_wp2_with fail
  go_loopw [5] (fun i wr => ∃ k : Nat, k ≤ l.length ∧ i = .int .i64 k ∧ ∃ m, wr = w.drewN m) (fun i _ => l.length - (RowKit.intOf i).toNat)
  case atStart => exact ⟨0, Nat.zero_le _, rfl, 0, rfl⟩
  case round =>
    obtain ⟨k, hk, rfl, m, rfl⟩ := hrel
    by_cases hlt : k < l.length
    · have hne : l ≠ [] := by intro h; rw [h] at hlt; simp at hlt
      obtain ⟨b1, o1, rfl, e1⟩ := C1.out hne
      obtain ⟨b2, o2, rfl, e2⟩ := C2.out hne
      obtain ⟨s, hs⟩ : ∃ s, l[k]? = some s := ⟨_, List.getElem?_eq_getElem hlt⟩
      obtain ⟨cs1, i1, j1⟩ := e1 k s hs
      obtain ⟨cs2, i2, j2⟩ := e2 k s hs
      obtain ⟨nv1, sv1, rfl, hn1, hs1⟩ := i1
      obtain ⟨nv2, sv2, rfl, hn2, hs2⟩ := i2
      obtain ⟨K, ns, ss, sw, sc, sm⟩ := s
      have g0 := j1 0 (.int .i64 K) rfl; have g1 := j1 1 nv1 rfl; have g2 := j1 2 sv1 rfl; have g3 := j1 3 (.int .i64 sw) rfl; have g4 := j1 4 (.int .i64 sc) rfl; have g5 := j1 5 (.int .i64 sm) rfl
      have f0 := j2 0 (.int .i64 K) rfl; have f1 := j2 1 nv2 rfl; have f2 := j2 2 sv2 rfl; have f3 := j2 3 (.int .i64 sw) rfl; have f4 := j2 4 (.int .i64 sc) rfl; have f5 := j2 5 (.int .i64 sm) rfl
      have w1 : nv1.oneCell' = true ∧ nv2.oneCell' = true ∧ sv1.oneCell' = true ∧ sv2.oneCell' = true := by
        obtain ⟨_, _, rfl, _⟩ := hn1; obtain ⟨_, _, rfl, _⟩ := hn2; obtain ⟨_, _, rfl, _⟩ := hs1; obtain ⟨_, _, rfl, _⟩ := hs2
        exact ⟨rfl, rfl, rfl, rfl⟩
      obtain ⟨w1, w2, w3, w4⟩ := w1
      obtain ⟨W, hW⟩ : ∃ W, W = w.drewN m := ⟨_, rfl⟩
      have hc : ∀ p, W.cell? p = w.cell? p := by intro p; rw [hW]; rfl
      rw [← hc] at g0 g1 g2 g3 g4 g5 f0 f1 f2 f3 f4 f5
      have HN1 := hid (hW ▸ hn1.drewN m : RowOf W nv1 _); have HN2 := hid (hW ▸ hn2.drewN m : RowOf W nv2 _); have HS1 := hid (hW ▸ hs1.drewN m : RowOf W sv1 _); have HS2 := hid (hW ▸ hs2.drewN m : RowOf W sv2 _)
      have HW := hid hW
      rw [← hW]
      clear hW hc e1 e2 C1 C2 j1 j2 hn1 hn2 hs1 hs2 hne
      rw [Nat.add_zero] at g0 f0
      go_wp2_with fail
      go_quiet ((first | (go_at_call 23; exact Calls.quiet_of (sameInts_c _ _ _ _ (HN1.out.drewN _) (HN2.out.drewN _))) | (go_at_call 24; exact Calls.quiet_of (sameWords_c _ _ _ _ (HS1.out.drewN _) (HS2.out.drewN _)))))
      go_wp2_with fail
      exact ⟨⟨k + 1, by omega, by go_num, by rw [HW.out]; exact ⟨_, World.drewN_drewN _ _ _⟩⟩, by simp [RowKit.intOf]; omega⟩
    · go_wp2_with fail
      go_ret
      exact ⟨rfl, _, rfl⟩
end Go.Proofs.YtijlfggficjamaaDoor
