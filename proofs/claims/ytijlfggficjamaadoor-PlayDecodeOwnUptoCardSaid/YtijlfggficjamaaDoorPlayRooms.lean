/- The walk of rooms: the marks stand behind the lists. -/
import Derived.Test.YtijlfggficjamaaDoorPlayRoomy
import Derived.IntWalk
namespace Go.Proofs.YtijlfggficjamaaDoor
set_option linter.unusedVariables false
set_option linter.unusedSimpArgs false
open Go Go.RowKit
open Go.Lib (hid)

theorem cut_full (t e : TypeId) (ht : Tryd.prog.underlying t = some (.slice e)) (g n : Nat) (w : World) (hn : n ≤ 1000000000) (i : TypeInfo) (hi : Tryd.prog.info? e = some i) :
    (Instr.slice t (.slice (some ⟨g, 0, none⟩) n (n + 2)) none (some (.int .i64 ((n : Int) + 2))) none).run Tryd.prog w = .ok (.slice (some ⟨g, 0, none⟩) (n + 2) (n + 2)) w := by
  have h0 : (0 : Int) ≤ (n : Int) + 2 := by omega
  have h1 : ((n : Int) + 2) ≤ ((n + 2 : Nat) : Int) := by omega
  have h2 : ((n : Int) + 2).toNat = n + 2 := by omega
  simp [Instr.slice, Instr.sliceBounds, run_underlying ht, go_sem, h0, h1, h2, sizeOf, typeInfo, hi]

theorem flat_len (L : List (List Value)) (h : ∀ c ∈ L, c.length = 6) : L.flatten.length = L.length * 6 := by
  induction L with
  | nil => rfl
  | cons a r ih =>
    rw [List.flatten_cons, List.length_append, h a List.mem_cons_self, ih (fun c hc => h c (List.mem_cons_of_mem _ hc)), List.length_cons]; omega

set_option maxRecDepth 100000 in
set_option maxHeartbeats 4000000 in
theorem rooms_c (w : World) (g B : Nat) (xs : List StepM) (L : List (List Value)) (hL : L.length = xs.length) (hR : ∀ (i : Nat) cs s, L[i]? = some cs → xs[i]? = some s → Roomed w B cs s)
    (hC : CellsAt w g (L.flatten ++ markStep)) (hlx : xs.length ≤ 10000000) (hln : ∀ s ∈ xs, s.ns.length ≤ 100000000) (hls : ∀ s ∈ xs, s.ss.length ≤ 100000000) :
    Calls Tryd.prog 12 #[.slice (some ⟨g, 0, none⟩) xs.length (xs.length + 2)] w fun e w' => e = .returned (.bool true) ∧ ∃ m, w' = w.drewN m := by
  have HR := hid hR; have HC := hid hC; have HLN := hid hln; have HLS := hid hls
  clear hR hC hln hls
  have H6 : Hid (∀ c ∈ L, c.length = 6) := hid (by
    intro c hc
    obtain ⟨i, hi, rfl⟩ := List.getElem_of_mem hc
    exact (HR.out i _ xs[i] (List.getElem?_eq_getElem hi) (List.getElem?_eq_getElem (by omega))).len)
  obtain ⟨i0, hi, hz0, hz1, hz2⟩ := info_parts infoStr
  obtain ⟨i1, hi1, hy0, hy1, hy2⟩ := info_parts infoInt
  obtain ⟨i2, hi2, hx0, hx1, hx2⟩ := info_parts infoStep
  go_enter Tryd.func12, Tryd.ntmps12
  go_wp2_with fail
  go_loopw [3] (fun i wr => ∃ k : Nat, k ≤ xs.length ∧ i = .int .i64 k ∧ ∃ m, wr = w.drewN m) (fun i _ => xs.length - (RowKit.intOf i).toNat)
  case atStart => exact ⟨0, Nat.zero_le _, rfl, 0, rfl⟩
  case round =>
    obtain ⟨k, hk, rfl, m, rfl⟩ := hrel
    by_cases hlt : k < xs.length
    · obtain ⟨s, hs⟩ : ∃ s, xs[k]? = some s := ⟨_, List.getElem?_eq_getElem hlt⟩
      obtain ⟨cs, hcs⟩ : ∃ cs, L[k]? = some cs := ⟨_, List.getElem?_eq_getElem (by omega)⟩
      have hkn := HLN.out s (List.mem_of_getElem? hs)
      have hks := HLS.out s (List.mem_of_getElem? hs)
      have hf : ∀ j x, j < 6 → cs[j]? = some x → w.cell? ⟨g, k * 6 + j, none⟩ = some x := fun j x hj hx => HC.out _ _ (by
        have h := flat_get L H6.out k j hj cs hcs
        rw [hx] at h
        rw [List.getElem?_append_left (List.getElem?_eq_some_iff.1 h).1]; exact h)
      obtain ⟨g1, g2, _, _, hg1, hg2, rfl, hc1, hc2⟩ := HR.out k cs s hcs hs
      obtain ⟨K, ns, ss, sw, sc, sm⟩ := s
      simp only at hkn hks hc1 hc2
      have q1 := hf 1 (.slice (some ⟨g1, 0, none⟩) ns.length (ns.length + 2)) (by omega) rfl
      have q2 := hf 2 (.slice (some ⟨g2, 0, none⟩) ss.length (ss.length + 2)) (by omega) rfl
      have m1 := hc1 ns.length (.int .i64 (-71)) (by rw [List.getElem?_append_right (by rw [ints_len]; omega), ints_len, Nat.sub_self]; rfl)
      have m2 := hc1 (ns.length + 1) (.int .i64 (-72)) (by rw [List.getElem?_append_right (by rw [ints_len]; omega), ints_len, Nat.add_sub_cancel_left]; rfl)
      have m3 := hc2 ss.length (.string ⟨#[114, 111, 111, 109]⟩) (by rw [List.getElem?_append_right (by rw [strs_len]; omega), strs_len, Nat.sub_self]; rfl)
      have m4 := hc2 (ss.length + 1) (.string ⟨#[109, 111, 114, 101, 32, 114, 111, 111, 109]⟩) (by rw [List.getElem?_append_right (by rw [strs_len]; omega), strs_len, Nat.add_sub_cancel_left]; rfl)
      obtain ⟨W, hW⟩ : ∃ W, W = w.drewN m := ⟨_, rfl⟩
      have hc : ∀ p, W.cell? p = w.cell? p := by intro p; rw [hW]; rfl
      rw [← hc] at q1 q2 m1 m2 m3 m4
      have HW := hid hW
      rw [← hW]
      clear hW hc hf hcs hs hc1 hc2
      have sl1 : ∀ w, (Instr.slice 27 (.slice (some ⟨g1, 0, none⟩) ns.length (ns.length + 2)) none (some (.int .i64 ((ns.length : Int) + 2))) none).run Tryd.prog w = .ok (.slice (some ⟨g1, 0, none⟩) (ns.length + 2) (ns.length + 2)) w := fun w => cut_full _ _ Tryd.underlying27 _ _ w (by omega) i1 hi1
      have sl2 : ∀ w, (Instr.slice 28 (.slice (some ⟨g2, 0, none⟩) ss.length (ss.length + 2)) none (some (.int .i64 ((ss.length : Int) + 2))) none).run Tryd.prog w = .ok (.slice (some ⟨g2, 0, none⟩) (ss.length + 2) (ss.length + 2)) w := fun w => cut_full _ _ Tryd.underlying28 _ _ w (by omega) i0 hi
      have e1 : IntKind.i64.wrap ((ns.length : Int) + 2) = (ns.length : Int) + 2 := IntWalk.i64_in _ (by omega)
      have e2 : IntKind.i64.wrap ((ss.length : Int) + 2) = (ss.length : Int) + 2 := IntWalk.i64_in _ (by omega)
      go_wp2_with fail
      go_quiet (fail)
      go_wp2_with fail
      go_quiet (fail)
      go_wp2_with fail
      exact ⟨⟨k + 1, by omega, by go_num, by rw [HW.out]; exact ⟨_, World.drewN_drewN _ _ _⟩⟩, by simp [RowKit.intOf]; omega⟩
    · have hek : k = xs.length := by omega
      subst hek
      have hfl := flat_len L H6.out
      have q1 := HC.out (xs.length * 6) (.int .i64 71) (by rw [List.getElem?_append_right (by omega), hfl, hL, Nat.sub_self]; rfl)
      have q2 := HC.out ((xs.length + 1) * 6) (.int .i64 72) (by rw [List.getElem?_append_right (by omega), hfl, hL, show (xs.length + 1) * 6 - xs.length * 6 = 6 by omega]; rfl)
      obtain ⟨W, hW⟩ : ∃ W, W = w.drewN m := ⟨_, rfl⟩
      have hc : ∀ p, W.cell? p = w.cell? p := by intro p; rw [hW]; rfl
      rw [← hc] at q1 q2
      have HW := hid hW
      rw [← hW]
      clear hW hc hfl hlt
      have sl1 : ∀ w, (Instr.slice 22 (.slice (some ⟨g, 0, none⟩) xs.length (xs.length + 2)) none (some (.int .i64 ((xs.length : Int) + 2))) none).run Tryd.prog w = .ok (.slice (some ⟨g, 0, none⟩) (xs.length + 2) (xs.length + 2)) w := fun w => cut_full _ _ Tryd.underlying22 _ _ w (by omega) i2 hi2
      have e1 : IntKind.i64.wrap ((xs.length : Int) + 2) = (xs.length : Int) + 2 := IntWalk.i64_in _ (by omega)
      have e2 : IntKind.i64.wrap ((xs.length : Int) + 1) = (xs.length : Int) + 1 := IntWalk.i64_in _ (by omega)
      go_wp2_with fail
      go_ret
      exact ⟨rfl, m, HW.out⟩
end Go.Proofs.YtijlfggficjamaaDoor
