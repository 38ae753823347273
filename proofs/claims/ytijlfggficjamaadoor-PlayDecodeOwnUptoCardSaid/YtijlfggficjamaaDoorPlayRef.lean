/- The contracts of kindredref26.row, later, line, Text. -/
import Derived.Test.YtijlfggficjamaaDoorPlayParts2
namespace Go.Proofs.YtijlfggficjamaaDoor
set_option linter.unusedVariables false
set_option linter.unusedSimpArgs false
open Go Go.RowKit
open Go.Lib (hid)

def refRow (k : Nat) : RowM := if k = 1 then { rowOf 1 with n := 0 } else rowOf k

theorem below_allocW (w : World) (o : Obj) : Below w.heap.size w (w.alloc o) := (Below.refl _ _).alloc (Nat.le_refl _) _

set_option maxRecDepth 100000 in
set_option maxHeartbeats 4000000 in
theorem later_c (K : Nat) (h1 : 13 ≤ K) (h2 : K ≤ 23) (w : World) :
    Calls Tryd.prog 55 #[.int .i64 K] w fun e w' => e = .returned (.agg (refRow K).cells.toArray) ∧ Below w.heap.size w w' := by
  have hh : K = 13 ∨ K = 14 ∨ K = 15 ∨ K = 16 ∨ K = 17 ∨ K = 18 ∨ K = 19 ∨ K = 20 ∨ K = 21 ∨ K = 22 ∨ K = 23 := by omega
  clear h1 h2
  rcases hh with rfl | rfl | rfl | rfl | rfl | rfl | rfl | rfl | rfl | rfl | rfl
  all_goals
    go_enter Tryd.func55, Tryd.ntmps55
    go_wp2_with fail
    refine bodyPost_ret (v := .agg (refRow _).cells.toArray) (by simp [results, Tryd.results55, go_sem, refRow, rowOf, rowTab, RowM.cells]) rfl ⟨rfl, (Below.refl _ _).alloc (Nat.le_refl _) _⟩

set_option maxRecDepth 100000 in
set_option maxHeartbeats 4000000 in
theorem row_c (K : Nat) (h1 : 1 ≤ K) (h2 : K ≤ 23) (w : World) :
    Calls Tryd.prog 39 #[.int .i64 K] w fun e w' => e = .returned (.agg (refRow K).cells.toArray) ∧ Below w.heap.size w w' := by
  by_cases hk : K ≤ 12
  · have hh : K = 1 ∨ K = 2 ∨ K = 3 ∨ K = 4 ∨ K = 5 ∨ K = 6 ∨ K = 7 ∨ K = 8 ∨ K = 9 ∨ K = 10 ∨ K = 11 ∨ K = 12 := by omega
    clear h1 h2 hk
    rcases hh with rfl | rfl | rfl | rfl | rfl | rfl | rfl | rfl | rfl | rfl | rfl | rfl
    all_goals
      go_enter Tryd.func39, Tryd.ntmps39
      go_wp2_with fail
      refine bodyPost_ret (v := .agg (refRow _).cells.toArray) (by simp [results, Tryd.results39, go_sem, refRow, rowOf, rowTab, RowM.cells]) rfl ⟨rfl, (Below.refl _ _).alloc (Nat.le_refl _) _⟩
  · have hh : K = 13 ∨ K = 14 ∨ K = 15 ∨ K = 16 ∨ K = 17 ∨ K = 18 ∨ K = 19 ∨ K = 20 ∨ K = 21 ∨ K = 22 ∨ K = 23 := by omega
    clear h1 h2 hk
    rcases hh with rfl | rfl | rfl | rfl | rfl | rfl | rfl | rfl | rfl | rfl | rfl
    all_goals
      go_enter Tryd.func39, Tryd.ntmps39
      go_wp2_with fail
      refine (later_c _ (by decide) (by decide) _).mono ?_
      rintro e w1 ⟨rfl, hb⟩
      have hlt : w.heap.size < w1.heap.size := by have := hb.size; rw [World.size_alloc] at this; omega
      have hz : w1.heap[w.heap.size]? = some (.cells #[.string ⟨#[]⟩, .int .i64 0, .int .i64 0, .bool false, .bool false] 77 (0, 0)) := by
        rw [hb.block _ (by rw [World.size_alloc]; omega)]; exact heap_alloc_new w _
      have HB := hid ((below_allocW w _).trans (hb.mono (by rw [World.size_alloc]; omega)))
      have q0 : w1.cell? ⟨w.heap.size, 0, none⟩ = some (.string ⟨#[]⟩) := by rw [Lib.cell_of_heap hz]; rfl
      have q1 : w1.cell? ⟨w.heap.size, 1, none⟩ = some (.int .i64 0) := by rw [Lib.cell_of_heap hz]; rfl
      have q2 : w1.cell? ⟨w.heap.size, 2, none⟩ = some (.int .i64 0) := by rw [Lib.cell_of_heap hz]; rfl
      have q3 : w1.cell? ⟨w.heap.size, 3, none⟩ = some (.bool false) := by rw [Lib.cell_of_heap hz]; rfl
      have q4 : w1.cell? ⟨w.heap.size, 4, none⟩ = some (.bool false) := by rw [Lib.cell_of_heap hz]; rfl
      have f0 := Lib.frozen_of_heap hz 0
      have f1 := Lib.frozen_of_heap hz 1
      have f2 := Lib.frozen_of_heap hz 2
      have f3 := Lib.frozen_of_heap hz 3
      have f4 := Lib.frozen_of_heap hz 4
      clear hb hz
      simp only [refRow, rowOf, rowTab, RowM.cells, List.getD_cons_succ, List.getD_cons_zero, Nat.reduceEqDiff, if_false]
      go_wp2_with fail
      refine bodyPost_ret (v := .agg (refRow _).cells.toArray) (by simp [results, Tryd.results39, go_sem, refRow, rowOf, rowTab, RowM.cells, q0, q1, q2, q3, q4]) rfl ⟨rfl, ?_⟩
      exact (((((HB.out).setCell (p := ⟨w.heap.size, 0, none⟩) (Nat.le_refl _) _).setCell (p := ⟨w.heap.size, 1, none⟩) (Nat.le_refl _) _).setCell (p := ⟨w.heap.size, 2, none⟩) (Nat.le_refl _) _).setCell (p := ⟨w.heap.size, 3, none⟩) (Nat.le_refl _) _).setCell (p := ⟨w.heap.size, 4, none⟩) (Nat.le_refl _) _
end Go.Proofs.YtijlfggficjamaaDoor
