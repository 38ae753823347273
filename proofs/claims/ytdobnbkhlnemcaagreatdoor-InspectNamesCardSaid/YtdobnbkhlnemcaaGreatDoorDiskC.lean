/- keep.Open, engine.Open, inspect.Check, inspect.Repair on a disk without files. -/
import Derived.Test.YtdobnbkhlnemcaaGreatDoorDiskB
namespace Go.Proofs.YtdobnbkhlnemcaaGreatDoor
set_option linter.unusedVariables false
set_option linter.unusedSimpArgs false
open Go Go.RowKit
open Go.Lib (hid)

set_option maxRecDepth 100000 in
set_option maxHeartbeats 1000000 in
theorem keepOpen_e (w : World) (d mb : Nat) (h : EmptyDisk w d mb) :
    Calls Tryz.prog 12 #[.pointer (some ⟨d, 0, none⟩)] w fun e w' => e = .returned (.tuple #[.pointer none, .int .i64 42]) ∧ Below w.heap.size w w' := by
  go_enter Tryz.func12, Tryz.ntmps12
  go_wp2_with (go_at_call 28; refine (down_c _ _ h.2.1).mono ?_; rintro e w' ⟨rfl, rfl⟩)
  refine (load_e w d mb h).mono ?_
  rintro e w1 ⟨rfl, hb⟩
  go_wp2_with fail
  go_ret2
  exact ⟨rfl, hb.alloc hb.size _⟩

set_option maxRecDepth 100000 in
set_option maxHeartbeats 1000000 in
theorem begin_no (w : World) (p : Value) (n : Int) (hn : (n != 0) = true) :
    Calls Tryz.prog 11 #[p, .int .i64 n] w fun e w' => e = .returned (.tuple #[.pointer none, .int .i64 n]) ∧ w = w' := by
  go_enter Tryz.func11, Tryz.ntmps11
  go_wp2_with fail
  go_ret2
  exact ⟨rfl, rfl⟩

set_option maxRecDepth 100000 in
set_option maxHeartbeats 1000000 in
theorem engineOpen_e (w : World) (d mb : Nat) (h : EmptyDisk w d mb) :
    Calls Tryz.prog 5 #[.pointer (some ⟨d, 0, none⟩)] w fun e w' => e = .returned (.tuple #[.pointer none, .int .i64 42]) ∧ Below w.heap.size w w' := by
  have HK := hid (keepOpen_e w d mb h)
  clear h
  go_enter Tryz.func5, Tryz.ntmps5
  go_wp2_with fail
  refine HK.out.mono ?_
  rintro e w1 ⟨rfl, hb⟩
  go_wp2_with fail
  refine (begin_no w1 _ 42 (by decide)).mono ?_
  rintro e w2 ⟨rfl, rfl⟩
  go_wp2_with fail
  go_ret2
  exact ⟨rfl, hb⟩

set_option maxRecDepth 100000 in
set_option maxHeartbeats 1000000 in
theorem check_e (w : World) (d mb : Nat) (h : EmptyDisk w d mb) :
    Calls Tryz.prog 8 #[.pointer (some ⟨d, 0, none⟩)] w fun e w' => e = .returned (.tuple #[.slice none 0 0, .int .i64 42]) ∧ Below w.heap.size w w' := by
  have HK := hid (load_e w d mb h)
  clear h
  have hmm := @run_makeMap Tryz.prog
  go_enter Tryz.func8, Tryz.ntmps8
  go_wp2_with fail
  refine HK.out.mono ?_
  rintro e w1 ⟨rfl, hb⟩
  go_wp2_with fail
  go_ret2
  exact ⟨rfl, ((hb.alloc hb.size _).alloc (by have := hb.size; simp; omega) _).alloc (by have := hb.size; simp; omega) _⟩

set_option maxRecDepth 100000 in
set_option maxHeartbeats 1000000 in
theorem repair_e (w : World) (d mb : Nat) (h : EmptyDisk w d mb) :
    Calls Tryz.prog 9 #[.pointer (some ⟨d, 0, none⟩)] w fun e w' => e = .returned (.tuple #[.slice none 0 0, .int .i64 42]) ∧ Below w.heap.size w w' := by
  have HK := hid (check_e w d mb h)
  clear h
  go_enter Tryz.func9, Tryz.ntmps9
  go_wp2_with fail
  refine HK.out.mono ?_
  rintro e w1 ⟨rfl, hb⟩
  go_wp2_with fail
  go_ret2
  exact ⟨rfl, hb⟩

theorem num17_c (r : Int) (w : World) : Calls Tryz.prog 7 #[.int .i64 r] w fun e w' => e = .returned (.int .i64 r) ∧ w = w' := by
  go_enter Tryz.func7, Tryz.ntmps7
  go_wp2_with fail
  go_ret
  exact ⟨rfl, rfl⟩
theorem num23_c (r : Int) (w : World) : Calls Tryz.prog 10 #[.int .i64 r] w fun e w' => e = .returned (.int .i64 r) ∧ w = w' := by
  go_enter Tryz.func10, Tryz.ntmps10
  go_wp2_with fail
  go_ret
  exact ⟨rfl, rfl⟩

set_option maxRecDepth 100000 in
set_option maxHeartbeats 1000000 in
theorem engineNames_c (w : World) : Calls Tryz.prog 3 #[] w fun e w' => e = .returned (.bool true) ∧ Below w.heap.size w w' := by
  go_enter Tryz.func3, Tryz.ntmps3
  go_wp2_with fail
  refine (new_c 1000 w (by omega) (by omega)).mono ?_
  rintro e w1 ⟨rfl, rfl⟩
  have HE := hid (newDisk_empty w 1000)
  have hb0 : Below w.heap.size w ((w.alloc newMap).alloc (newDisk w.heap.size 1000)) := ((Below.refl _ _).alloc (Nat.le_refl _) _).alloc (by simp) _
  have hs0 : w.heap.size ≤ ((w.alloc newMap).alloc (newDisk w.heap.size 1000)).heap.size := hb0.size
  generalize (w.alloc newMap).alloc (newDisk w.heap.size 1000) = w1 at *
  go_wp2_with fail
  refine (engineOpen_e w1 _ _ HE.out).mono ?_
  rintro e w2 ⟨rfl, hb2⟩
  have hb := hb0.trans (hb2.mono hs0)
  clear hb2 hb0 hs0
  go_wp2_with (go_at_call 7; refine (num17_c _ _).mono ?_; rintro e w' ⟨rfl, rfl⟩)
  go_ret
  exact ⟨rfl, hb⟩

set_option maxRecDepth 100000 in
set_option maxHeartbeats 1000000 in
theorem inspectNames_c (w : World) : Calls Tryz.prog 4 #[] w fun e w' => e = .returned (.bool true) ∧ Below w.heap.size w w' := by
  go_enter Tryz.func4, Tryz.ntmps4
  go_wp2_with fail
  refine (new_c 1000 w (by omega) (by omega)).mono ?_
  rintro e w1 ⟨rfl, rfl⟩
  have HE := hid (newDisk_empty w 1000)
  have hb0 : Below w.heap.size w ((w.alloc newMap).alloc (newDisk w.heap.size 1000)) := ((Below.refl _ _).alloc (Nat.le_refl _) _).alloc (by simp) _
  have hs0 : w.heap.size ≤ ((w.alloc newMap).alloc (newDisk w.heap.size 1000)).heap.size := hb0.size
  generalize (w.alloc newMap).alloc (newDisk w.heap.size 1000) = w1 at *
  go_wp2_with fail
  refine (check_e w1 _ _ HE.out).mono ?_
  rintro e w2 ⟨rfl, hb2⟩
  have hb := hb0.trans (hb2.mono hs0)
  have hsz := hb.size
  clear hb2 hb0 hs0
  go_wp2_with fail
  refine (new_c 1000 w2 (by omega) (by omega)).mono ?_
  rintro e w3 ⟨rfl, rfl⟩
  have HE2 := hid (newDisk_empty w2 1000)
  have hb0 : Below w.heap.size w ((w2.alloc newMap).alloc (newDisk w2.heap.size 1000)) := (hb.alloc hsz _).alloc (by simp; omega) _
  have hs0 : w.heap.size ≤ ((w2.alloc newMap).alloc (newDisk w2.heap.size 1000)).heap.size := hb0.size
  generalize (w2.alloc newMap).alloc (newDisk w2.heap.size 1000) = w3 at *
  go_wp2_with fail
  refine (repair_e w3 _ _ HE2.out).mono ?_
  rintro e w4 ⟨rfl, hb4⟩
  have hbb := hb0.trans (hb4.mono hs0)
  clear hb4 hb0 hs0 hb
  go_wp2_with (go_at_call 10; refine (num23_c _ _).mono ?_; rintro e w' ⟨rfl, rfl⟩)
  go_ret
  exact ⟨rfl, hbb⟩
end Go.Proofs.YtdobnbkhlnemcaaGreatDoor
