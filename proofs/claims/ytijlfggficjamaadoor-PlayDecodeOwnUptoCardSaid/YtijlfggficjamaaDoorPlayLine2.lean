/- The contract of kindredref26.line for the step with options; the contracts of both Texts. -/
import Derived.Test.YtijlfggficjamaaDoorPlayLine
namespace Go.Proofs.YtijlfggficjamaaDoor
set_option linter.unusedVariables false
set_option linter.unusedSimpArgs false
open Go Go.RowKit
open Go.Lib (hid)

theorem add_fact (a b : ByteArray) (h : a.size + b.size ≤ 9223372036854775807) : ∃ c : ByteArray, c = a ++ b ∧ c.size = a.size + b.size ∧ ∀ wx, (Op.stringOp .add a b).run Tryd.prog wx = .ok (.string c) wx :=
  ⟨_, rfl, ByteArray.size_append, fun wx => run_string_add_sum wx a b h⟩

set_option maxRecDepth 100000 in
set_option maxHeartbeats 4000000 in
theorem line_o (w : World) (cs : Array Value) (s : StepM) (hK : s.kind = 1) (hs : StepIs w cs s) (ht : Tab w)
    (hw : -9223372036854775808 ≤ s.w ∧ s.w ≤ 9223372036854775807) (hc : -9223372036854775808 ≤ s.c ∧ s.c ≤ 9223372036854775807) (hm : -9223372036854775808 ≤ s.m ∧ s.m ≤ 9223372036854775807) :
    Calls Tryd.prog 22 #[.agg cs] w fun e w' => e = .returned (.string (S (lineL s))) ∧ Below w.heap.size w w' := by
  have hP : lineL s = (rowOf 1).word ++ [32] ++ Lib.itoa s.w ++ [32] ++ Lib.itoa s.c ++ [32] ++ Lib.itoa s.m ++ [10] := by
    unfold lineL partsL; rw [hK]
    show Lib.join ((rowOf 1).word :: [Lib.itoa s.w, Lib.itoa s.c, Lib.itoa s.m]) [32] ++ [10] = _
    rw [accL_join]; simp [accL]
  rw [hP]
  clear hP
  obtain ⟨nv, sv, rfl, hnv, hsv⟩ := hs
  unfold StepM.cells
  rw [hK]
  have hrc := row_c 1 (by omega) (by omega) (w.alloc (.cells #[.int .i64 1, nv, sv, .int .i64 s.w, .int .i64 s.c, .int .i64 s.m] 32))
  have e1 : (refRow 1).cells.toArray = #[.string (S (rowOf 1).word), .int .i64 0, .int .i64 0, .bool true, .bool false] := by rfl
  rw [e1] at hrc
  have hwl : (rowOf 1).word.length ≤ 7 := by decide
  generalize (rowOf 1).word = word at *
  have HRC := hid hrc
  have HT := hid ht
  have il1 := itoa_len _ hw.1 hw.2
  have il2 := itoa_len _ hc.1 hc.2
  have il3 := itoa_len _ hm.1 hm.2
  obtain ⟨hw0, hw1⟩ := hw
  obtain ⟨hc0, hc1⟩ := hc
  obtain ⟨hm0, hm1⟩ := hm
  have hi1 := itoa_c s.w
  have hi2 := itoa_c s.c
  have hi3 := itoa_c s.m
  generalize Lib.itoa s.w = x1 at *
  generalize Lib.itoa s.c = x2 at *
  generalize Lib.itoa s.m = x3 at *
  have HI1 := hid hi1; have HI2 := hid hi2; have HI3 := hid hi3
  clear hrc ht hnv hsv hK e1 hi1 hi2 hi3
  obtain ⟨fin, hfin⟩ : ∃ fin : ByteArray, fin = S (word ++ [32] ++ x1 ++ [32] ++ x2 ++ [32] ++ x3 ++ [10]) := ⟨_, rfl⟩
  rw [← hfin]
  simp only [← S_app] at hfin
  have HFI := hid hfin
  clear hfin
  go_enter Tryd.func22, Tryd.ntmps22
  go_wp2_with fail
  refine HRC.out.mono ?_
  rintro e W1 ⟨rfl, hb0⟩
  have hlt : w.heap.size < W1.heap.size := by have := hb0.size; rw [World.size_alloc] at this; omega
  have hBW : Below w.heap.size w W1 := (below_allocW w _).trans (hb0.mono (by rw [World.size_alloc]; omega))
  have q3 : W1.cell? ⟨w.heap.size, 3, none⟩ = some (.int .i64 s.w) := by rw [hb0.cell (p := ⟨w.heap.size, 3, none⟩) (by rw [World.size_alloc]; show w.heap.size < w.heap.size + 1; omega), World.cell?_alloc_at _ _ _ _ rfl]; rfl
  have q4 : W1.cell? ⟨w.heap.size, 4, none⟩ = some (.int .i64 s.c) := by rw [hb0.cell (p := ⟨w.heap.size, 4, none⟩) (by rw [World.size_alloc]; show w.heap.size < w.heap.size + 1; omega), World.cell?_alloc_at _ _ _ _ rfl]; rfl
  have q5 : W1.cell? ⟨w.heap.size, 5, none⟩ = some (.int .i64 s.m) := by rw [hb0.cell (p := ⟨w.heap.size, 5, none⟩) (by rw [World.size_alloc]; show w.heap.size < w.heap.size + 1; omega), World.cell?_alloc_at _ _ _ _ rfl]; rfl
  have HT0 := hid (HT.out.below hBW (Nat.le_refl _))
  clear hb0 HT HRC
  go_wp2_with fail
  obtain ⟨W2, hW2⟩ : ∃ W2 : World, W2 = W1.alloc (.cells #[.string (S word), .int .i64 0, .int .i64 0, .bool true, .bool false] 77) := ⟨_, rfl⟩
  have r3 : W2.cell? ⟨w.heap.size, 3, none⟩ = some (.int .i64 s.w) := by rw [hW2, World.cell?_alloc_past _ _ _ hlt]; exact q3
  have r4 : W2.cell? ⟨w.heap.size, 4, none⟩ = some (.int .i64 s.c) := by rw [hW2, World.cell?_alloc_past _ _ _ hlt]; exact q4
  have r5 : W2.cell? ⟨w.heap.size, 5, none⟩ = some (.int .i64 s.m) := by rw [hW2, World.cell?_alloc_past _ _ _ hlt]; exact q5
  have hB2 : Below w.heap.size w W2 := by rw [hW2]; exact hBW.alloc (by omega) _
  have HT2 := hid (HT0.out.below (show Below W1.heap.size W1 W2 by rw [hW2]; exact below_allocW _ _) (Nat.le_refl _))
  have hlt2 : w.heap.size < W2.heap.size := by rw [hW2, World.size_alloc]; omega
  rw [← hW2]
  clear hW2 q3 q4 q5 hBW hlt HT0
  have hfin := HFI.out
  clear HFI
  have sw : (S word).size ≤ 7 := by rw [S_size]; exact hwl
  have s1 : (S x1).size ≤ 20 := by rw [S_size]; exact il1
  have s2 : (S x2).size ≤ 20 := by rw [S_size]; exact il2
  have s3 : (S x3).size ≤ 20 := by rw [S_size]; exact il3
  generalize S word = a0 at *
  generalize S x1 = y1 at *
  generalize S x2 = y2 at *
  generalize S x3 = y3 at *
  obtain ⟨c1, hc1', hz1, R1⟩ := add_fact a0 ⟨#[32]⟩ (by show _ + 1 ≤ _; omega)
  obtain ⟨c2, hc2', hz2, R2⟩ := add_fact c1 y1 (by have : (⟨#[32]⟩ : ByteArray).size = 1 := rfl; omega)
  obtain ⟨c3, hc3', hz3, R3⟩ := add_fact c2 ⟨#[32]⟩ (by have : (⟨#[32]⟩ : ByteArray).size = 1 := rfl; omega)
  obtain ⟨c4, hc4', hz4, R4⟩ := add_fact c3 y2 (by have : (⟨#[32]⟩ : ByteArray).size = 1 := rfl; omega)
  obtain ⟨c5, hc5', hz5, R5⟩ := add_fact c4 ⟨#[32]⟩ (by have : (⟨#[32]⟩ : ByteArray).size = 1 := rfl; omega)
  obtain ⟨c6, hc6', hz6, R6⟩ := add_fact c5 y3 (by have : (⟨#[32]⟩ : ByteArray).size = 1 := rfl; omega)
  obtain ⟨c7, hc7', hz7, R7⟩ := add_fact c6 ⟨#[10]⟩ (by have : (⟨#[32]⟩ : ByteArray).size = 1 := rfl; have : (⟨#[10]⟩ : ByteArray).size = 1 := rfl; omega)
  have HF : Hid (c7 = fin) := by rw [hfin, hc7', hc6', hc5', hc4', hc3', hc2', hc1']; rfl
  clear hc1' hc2' hc3' hc4' hc5' hc6' hc7' hz1 hz2 hz3 hz4 hz5 hz6 hz7 hfin
  go_region_held3 (fun w' => w'.cell? ⟨w.heap.size, 3, none⟩ = some (.int .i64 s.w) ∧ w'.cell? ⟨w.heap.size, 4, none⟩ = some (.int .i64 s.c) ∧ w'.cell? ⟨w.heap.size, 5, none⟩ = some (.int .i64 s.m))
    (first | exact ⟨r3, r4, r5⟩ | exact ⟨k3, k4, k5⟩ | exact ⟨l3, l4, l5⟩ | exact ⟨m3, m4, m5⟩ | go_keep)
    (first
      | (go_simp; go_at_call_of 35 (Value.int .i64 s.w); refine (HI1.out W2.drew hw0 hw1 HT2.out).mono ?_; rintro e w1 ⟨rfl, hb1⟩; have HT3 := hid (Tab.below (w := W2.drew) HT2.out hb1 (Nat.le_refl _)); have hs1 : W2.heap.size ≤ w1.heap.size := hb1.size; have k3 := (hb1.cell (p := ⟨w.heap.size, 3, none⟩) hlt2).trans r3; have k4 := (hb1.cell (p := ⟨w.heap.size, 4, none⟩) hlt2).trans r4; have k5 := (hb1.cell (p := ⟨w.heap.size, 5, none⟩) hlt2).trans r5)
      | (go_simp; go_at_call_of 35 (Value.int .i64 s.c); refine (HI2.out w1 hc0 hc1 HT3.out).mono ?_; rintro e w2 ⟨rfl, hb2⟩; have HT4 := hid (HT3.out.below hb2 (Nat.le_refl _)); have hs2 : w1.heap.size ≤ w2.heap.size := hb2.size; have l3 := (hb2.cell (p := ⟨w.heap.size, 3, none⟩) (Nat.lt_of_lt_of_le hlt2 hs1)).trans k3; have l4 := (hb2.cell (p := ⟨w.heap.size, 4, none⟩) (Nat.lt_of_lt_of_le hlt2 hs1)).trans k4; have l5 := (hb2.cell (p := ⟨w.heap.size, 5, none⟩) (Nat.lt_of_lt_of_le hlt2 hs1)).trans k5)
      | (go_simp; go_at_call_of 35 (Value.int .i64 s.m); refine (HI3.out w2 hm0 hm1 HT4.out).mono ?_; rintro e w3 ⟨rfl, hb3⟩; have hs3 : w2.heap.size ≤ w3.heap.size := hb3.size; have m3 := (hb3.cell (p := ⟨w.heap.size, 3, none⟩) (Nat.lt_of_lt_of_le hlt2 (Nat.le_trans hs1 hs2))).trans l3; have m4 := (hb3.cell (p := ⟨w.heap.size, 4, none⟩) (Nat.lt_of_lt_of_le hlt2 (Nat.le_trans hs1 hs2))).trans l4; have m5 := (hb3.cell (p := ⟨w.heap.size, 5, none⟩) (Nat.lt_of_lt_of_le hlt2 (Nat.le_trans hs1 hs2))).trans l5))
  have hb4 := ((((hB2.drew (w := W2)).trans (hb1.mono (by show w.heap.size ≤ W2.heap.size; omega))).trans (hb2.mono (by omega))).trans (hb3.mono (by omega)))
  have HB4 := hid hb4
  clear hb4 hb1 hb2 hb3 hB2
  go_wp2_with fail
  go_ret
  exact ⟨by rw [← HF.out]; rfl, HB4.out⟩
end Go.Proofs.YtijlfggficjamaaDoor
