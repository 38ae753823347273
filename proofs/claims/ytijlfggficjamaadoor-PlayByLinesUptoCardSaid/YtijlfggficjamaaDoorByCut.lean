/- Two parts of a list of steps. -/
import Derived.Test.YtijlfggficjamaaDoorPlayRooms
namespace Go.Proofs.YtijlfggficjamaaDoor
set_option linter.unusedVariables false
set_option linter.unusedSimpArgs false
open Go Go.RowKit
open Go.Lib (hid)

theorem StepsOf.drewN {w : World} {v : Value} {xs : List StepM} (h : StepsOf w v xs) (n : Nat) : StepsOf (w.drewN n) v xs := h
theorem cut_lo (ad : Option Addr) (n cap k : Nat) (hk : k ≤ cap) (i : TypeInfo) (hi : Tryd.prog.info? 32 = some i) (w : World) :
    (Instr.slice 22 (.slice ad n cap) none (some (.int .i64 (k : Int))) none).run Tryd.prog w = .ok (.slice (if cap = 0 then ad else ad.map (·.add 0)) k cap) w := by
  have h1 : (k : Int) ≤ (cap : Int) := by omega
  simp [Instr.slice, Instr.sliceBounds, run_underlying Tryd.underlying22, go_sem, h1, sizeOf, typeInfo, hi]
theorem cut_hi (ad : Option Addr) (n cap k : Nat) (hk : k ≤ n) (i : TypeInfo) (hi : Tryd.prog.info? 32 = some i) (hz : i.size = 6) (w : World) :
    (Instr.slice 22 (.slice ad n cap) (some (.int .i64 (k : Int))) none none).run Tryd.prog w = .ok (.slice (if cap = k then ad else ad.map (·.add (k * 6))) (n - k) (cap - k)) w := by
  have h1 : (k : Int) ≤ (n : Int) := by omega
  simp [Instr.slice, Instr.sliceBounds, run_underlying Tryd.underlying22, go_sem, h1, sizeOf, typeInfo, hi, hz]
theorem steps_lo {W : World} {ad : Option Addr} {cap : Nat} {xs ys : List StepM} (h : StepsOf W (.slice ad (xs.length + ys.length) cap) (xs ++ ys)) :
    ∃ ad', (∀ w, (Instr.slice 22 (.slice ad (xs.length + ys.length) cap) none (some (.int .i64 (xs.length : Int))) none).run Tryd.prog w = .ok (.slice ad' xs.length cap) w) ∧ StepsOf W (.slice ad' xs.length cap) xs := by
  obtain ⟨i, hi, hy0, hy1, hy2⟩ := info_parts infoStep
  obtain ⟨a, c, he, h1, h2, h3⟩ := h
  rw [List.length_append] at he h1
  cases he
  refine ⟨_, fun w => cut_lo ad _ cap xs.length (by omega) i hi w, _, _, rfl, by omega, h2, fun hne => ?_⟩
  obtain ⟨b, o, rfl, hc⟩ := h3 (by simp [hne])
  have hp : 0 < xs.length := List.length_pos_iff.2 hne
  rw [if_neg (by omega)]
  refine ⟨b, o, rfl, fun j s hs => ?_⟩
  exact hc j s (by rw [List.getElem?_append_left (List.getElem?_eq_some_iff.1 hs).1]; exact hs)
theorem steps_hi {W : World} {ad : Option Addr} {cap : Nat} {xs ys : List StepM} (h : StepsOf W (.slice ad (xs.length + ys.length) cap) (xs ++ ys)) :
    ∃ ad', (∀ w, (Instr.slice 22 (.slice ad (xs.length + ys.length) cap) (some (.int .i64 (xs.length : Int))) none none).run Tryd.prog w = .ok (.slice ad' ys.length (cap - xs.length)) w) ∧ StepsOf W (.slice ad' ys.length (cap - xs.length)) ys := by
  obtain ⟨i, hi, hy0, hy1, hy2⟩ := info_parts infoStep
  obtain ⟨a, c, he, h1, h2, h3⟩ := h
  rw [List.length_append] at he h1
  cases he
  refine ⟨_, fun w => (cut_hi ad _ cap xs.length (by omega) i hi hy1 w).trans (by rw [Nat.add_sub_cancel_left]), _, _, rfl, by omega, by omega, fun hne => ?_⟩
  obtain ⟨b, o, rfl, hc⟩ := h3 (by simp [hne])
  have hp : 0 < ys.length := List.length_pos_iff.2 hne
  rw [if_neg (by omega)]
  refine ⟨b, o + xs.length * 6, ?_, fun j s hs => ?_⟩
  · by_cases h0 : xs.length * 6 = 0
    · simp [Addr.add, h0]
    · simp [Addr.add, h0]
  · obtain ⟨cs, hcs, hcell⟩ := hc (xs.length + j) s (by rw [List.getElem?_append_right (by omega), Nat.add_sub_cancel_left]; exact hs)
    refine ⟨cs, hcs, fun q x hx => ?_⟩
    have := hcell q x hx
    rw [Nat.add_mul, ← Nat.add_assoc] at this
    exact this
end Go.Proofs.YtijlfggficjamaaDoor
