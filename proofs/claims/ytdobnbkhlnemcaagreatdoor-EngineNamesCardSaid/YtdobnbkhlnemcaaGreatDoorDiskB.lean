/- disk.New, look, Size on a disk without files; manifest.Load of it. -/
import Derived.Test.YtdobnbkhlnemcaaGreatDoorDiskA
namespace Go.Proofs.YtdobnbkhlnemcaaGreatDoor
set_option linter.unusedVariables false
set_option linter.unusedSimpArgs false
open Go Go.RowKit
open Go.Lib (hid)

set_option maxRecDepth 100000 in
theorem look_empty (w : World) (mb : Nat) (s : ByteArray) (hm : w.heap[mb]? = some (.map #[] 0)) :
    (Instr.lookup 37 (.map (some mb)) (.string s) true).run Tryz.prog w = .ok (.tuple #[.pointer none, .bool false]) w := by
  have u := run_underlying Tryz.underlying37
  have us := run_underlying Tryz.underlying9
  have hk : ∀ w, (Instr.checkKey true 10000 9 (.string s)).run Tryz.prog w = .ok () w := fun w => by
    show (Instr.checkKey true (9999 + 1) 9 (.string s)).run Tryz.prog w = _
    unfold Instr.checkKey
    simp [us, go_sem]
  have hf : ∀ w, (Instr.findKey 9 (.string s) []).run Tryz.prog w = .ok none w := fun w => by
    unfold Instr.findKey
    simp [us, go_sem, Instr.findNow]
  simp [Instr.lookup, u, go_sem, getObj, Sem.run, hm, hk, hf]

/-- what New lays -/
abbrev newMap : Obj := .map #[] 0
abbrev newDisk (mb : Nat) (cap : Int) : Obj := .cells #[.map (some mb), .int .i64 cap, .int .i64 0, .int .i64 0, .int .i64 0, .bool false, .int .i64 0, .bool false] 39

set_option maxRecDepth 100000 in
theorem new_c (cap : Int) (w : World) (h0 : 0 ≤ cap) (h1 : cap ≤ 1073741824) :
    Calls Tryz.prog 6 #[.int .i64 cap] w fun e w' => e = .returned (.pointer (some ⟨w.heap.size + 1, 0, none⟩)) ∧ w' = (w.alloc newMap).alloc (newDisk w.heap.size cap) := by
  have hmm := @run_makeMap Tryz.prog
  go_enter Tryz.func6, Tryz.ntmps6
  go_wp2_with fail
  go_ret
  exact ⟨by simp, rfl⟩

set_option maxRecDepth 100000 in
theorem look_c (w : World) (d mb : Nat) (s : ByteArray) (hs : s.size ≤ 9223372036854775807) (hn : nameOk s.data.toList = true)
    (c0 : w.cell? ⟨d, 0, none⟩ = some (.map (some mb))) (c5 : w.cell? ⟨d, 5, none⟩ = some (.bool false)) (hm : w.heap[mb]? = some (.map #[] 0)) :
    Calls Tryz.prog 75 #[.pointer (some ⟨d, 0, none⟩), .string s] w fun e w' => e = .returned (.tuple #[.pointer none, .int .i64 42]) ∧ w = w' := by
  have hl := look_empty w mb s hm
  have HN := hid hn
  clear hn hm
  go_enter Tryz.func75, Tryz.ntmps75
  go_wp2_with (go_at_call 135; refine (isName_c _ _ hs).mono ?_; rintro e w' ⟨rfl, rfl⟩; rw [HN.out])
  go_ret2
  exact ⟨rfl, rfl⟩

set_option maxRecDepth 100000 in
theorem size_c (w : World) (d mb : Nat) (s : ByteArray) (hs : s.size ≤ 9223372036854775807) (hn : nameOk s.data.toList = true)
    (c0 : w.cell? ⟨d, 0, none⟩ = some (.map (some mb))) (c5 : w.cell? ⟨d, 5, none⟩ = some (.bool false)) (hm : w.heap[mb]? = some (.map #[] 0)) :
    Calls Tryz.prog 35 #[.pointer (some ⟨d, 0, none⟩), .string s] w fun e w' => e = .returned (.tuple #[.int .i64 0, .int .i64 42]) ∧ w = w' := by
  have HL := hid (look_c w d mb s hs hn c0 c5 hm)
  clear hn hm
  go_enter Tryz.func35, Tryz.ntmps35
  go_wp2_with (go_at_call 75; refine HL.out.mono ?_; rintro e w' ⟨rfl, rfl⟩)
  go_ret2
  exact ⟨rfl, rfl⟩

theorem manifest_ok : nameOk (⟨#[109, 97, 110, 105, 102, 101, 115, 116]⟩ : ByteArray).data.toList = true := by decide +kernel

set_option maxRecDepth 100000 in
theorem load_c (w : World) (d mb : Nat)
    (c0 : w.cell? ⟨d, 0, none⟩ = some (.map (some mb))) (c5 : w.cell? ⟨d, 5, none⟩ = some (.bool false)) (hm : w.heap[mb]? = some (.map #[] 0)) :
    Calls Tryz.prog 13 #[.pointer (some ⟨d, 0, none⟩)] w fun e w' => e = .returned (.tuple #[.agg #[.int .i64 0, .int .i64 0, .int .i64 0, .int .i64 0, .int .i64 0, .int .i64 0, .slice none 0 0], .int .i64 42]) ∧ Below w.heap.size w w' := by
  have hd : d < w.heap.size := World.block_lt_of_cell? w _ c0
  have hmb : mb < w.heap.size := lt_of_block hm
  have HL := fun o : Obj => hid (size_c (w.alloc o) d mb ⟨#[109, 97, 110, 105, 102, 101, 115, 116]⟩ (by decide) manifest_ok (by rw [World.cell?_alloc_past _ _ _ hd]; exact c0) (by rw [World.cell?_alloc_past _ _ _ hd]; exact c5) (by rw [Below.heap_alloc _ _ _ hmb]; exact hm))
  clear hm
  go_enter Tryz.func13, Tryz.ntmps13
  go_wp2_with (go_at_call 35; refine (HL _).out.mono ?_; rintro e w' ⟨rfl, rfl⟩)
  exact bodyPost_ret (v := .tuple #[.agg #[.int .i64 0, .int .i64 0, .int .i64 0, .int .i64 0, .int .i64 0, .int .i64 0, .slice none 0 0], .int .i64 42]) (by simp [results, Tryz.results13, go_sem]) rfl ⟨rfl, (Below.refl _ _).alloc (Nat.le_refl _) _⟩

/-- an empty disk behind a pointer -/
def EmptyDisk (w : World) (d mb : Nat) : Prop :=
  w.cell? ⟨d, 0, none⟩ = some (.map (some mb)) ∧ w.cell? ⟨d, 5, none⟩ = some (.bool false) ∧ w.heap[mb]? = some (.map #[] 0)
theorem EmptyDisk.below {w w' : World} {d mb : Nat} (h : EmptyDisk w d mb) (hb : Below w.heap.size w w') : EmptyDisk w' d mb := by
  obtain ⟨c0, c5, hm⟩ := h
  have hd : d < w.heap.size := World.block_lt_of_cell? w _ c0
  have hmb : mb < w.heap.size := lt_of_block hm
  exact ⟨(hb.cell (p := ⟨d, 0, none⟩) hd).trans c0, (hb.cell (p := ⟨d, 5, none⟩) hd).trans c5, (hb.block _ hmb).trans hm⟩
theorem below_alloc (w : World) (o : Obj) : Below w.heap.size w (w.alloc o) := (Below.refl _ _).alloc (Nat.le_refl _) _
theorem newDisk_empty (w : World) (cap : Int) : EmptyDisk ((w.alloc newMap).alloc (newDisk w.heap.size cap)) (w.heap.size + 1) w.heap.size := by
  refine ⟨?_, ?_, ?_⟩
  · rw [World.cell?_alloc_at _ _ _ _ (by simp)]; rfl
  · rw [World.cell?_alloc_at _ _ _ _ (by simp)]; rfl
  · exact heap_alloc2_old w _ _
theorem load_e (w : World) (d mb : Nat) (h : EmptyDisk w d mb) :
    Calls Tryz.prog 13 #[.pointer (some ⟨d, 0, none⟩)] w fun e w' => e = .returned (.tuple #[.agg #[.int .i64 0, .int .i64 0, .int .i64 0, .int .i64 0, .int .i64 0, .int .i64 0, .slice none 0 0], .int .i64 42]) ∧ Below w.heap.size w w' :=
  load_c w d mb h.1 h.2.1 h.2.2

set_option maxRecDepth 100000 in
theorem down_c (w : World) (d : Nat) (c5 : w.cell? ⟨d, 5, none⟩ = some (.bool false)) :
    Calls Tryz.prog 28 #[.pointer (some ⟨d, 0, none⟩)] w fun e w' => e = .returned (.bool false) ∧ w = w' := by
  go_enter Tryz.func28, Tryz.ntmps28
  go_wp2_with fail
  go_ret
  exact ⟨rfl, rfl⟩
end Go.Proofs.YtdobnbkhlnemcaaGreatDoor
