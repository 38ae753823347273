/- The contract of play.parts for the step with options. -/
import Derived.Test.YtijlfggficjamaaDoorPlayParts
import Derived.Deep.RegionHeld3
import Derived.Deep.AppendLies
namespace Go.Proofs.YtijlfggficjamaaDoor
set_option linter.unusedVariables false
set_option linter.unusedSimpArgs false
open Go Go.RowKit
open Go.Lib (hid)

theorem held_app {w w3 w4 : World} {o : Obj} {v : Value} {x y z : Value} (hg : (w3.alloc o).grownBy w4 v.ownBlock) (m3 : w3.cell? ⟨w.heap.size, 3, none⟩ = some x) (m4 : w3.cell? ⟨w.heap.size, 4, none⟩ = some y) (m5 : w3.cell? ⟨w.heap.size, 5, none⟩ = some z)
    (hv : v = .slice (some ⟨w.heap.size + 1 + 1, 0, none⟩) 1 1) (hl : w.heap.size < w3.heap.size) :
    w4.cell? ⟨w.heap.size, 3, none⟩ = some x ∧ w4.cell? ⟨w.heap.size, 4, none⟩ = some y ∧ w4.cell? ⟨w.heap.size, 5, none⟩ = some z := by
  subst hv
  have hne : some w.heap.size ≠ (Value.slice (some ⟨w.heap.size + 1 + 1, 0, none⟩) 1 1).ownBlock := by simp only [Value.ownBlock, ne_eq, Option.some.injEq]; omega
  exact ⟨hg.cell (a := ⟨w.heap.size, 3, none⟩) ((World.cell?_alloc_past _ _ _ hl).trans m3) hne, hg.cell (a := ⟨w.heap.size, 4, none⟩) ((World.cell?_alloc_past _ _ _ hl).trans m4) hne, hg.cell (a := ⟨w.heap.size, 5, none⟩) ((World.cell?_alloc_past _ _ _ hl).trans m5) hne⟩

set_option maxRecDepth 100000 in
set_option maxHeartbeats 4000000 in
theorem parts_o (w : World) (cs : Array Value) (s : StepM) (hK : s.kind = 1) (hs : StepIs w cs s) (ht : Tab w) (hr : Tbl w)
    (hw : -9223372036854775808 ≤ s.w ∧ s.w ≤ 9223372036854775807) (hc : -9223372036854775808 ≤ s.c ∧ s.c ≤ 9223372036854775807) (hm : -9223372036854775808 ≤ s.m ∧ s.m ≤ 9223372036854775807) :
    Calls Tryd.prog 20 #[.agg cs] w fun e w' => ∃ v, e = .returned v ∧ RowOf w' v (LS (partsL s)) ∧ Below w.heap.size w w' := by
  have hP : partsL s = [(rowOf 1).word, Lib.itoa s.w, Lib.itoa s.c, Lib.itoa s.m] := by
    unfold partsL; rw [hK]; rfl
  rw [hP]
  clear hP
  obtain ⟨nv, sv, rfl, hnv, hsv⟩ := hs
  obtain ⟨i0, hi, hz0, hz1, hz2⟩ := info_parts infoStr
  have hgl := hr.lt
  have r0 := hr 1 (by omega) 0 (.string (S (rowOf 1).word)) rfl
  have r1 := hr 1 (by omega) 1 (.int .i64 3) rfl
  have r2 := hr 1 (by omega) 2 (.int .i64 0) rfl
  have r3 := hr 1 (by omega) 3 (.bool true) rfl
  have r4 := hr 1 (by omega) 4 (.bool false) rfl
  simp only [Nat.one_mul, Nat.reduceAdd] at r0 r1 r2 r3 r4
  unfold StepM.cells
  rw [hK]
  generalize (rowOf 1).word = word at *
  have HT := hid ht
  clear hr ht hnv hsv hK
  obtain ⟨hw0, hw1⟩ := hw
  obtain ⟨hc0, hc1⟩ := hc
  obtain ⟨hm0, hm1⟩ := hm
  go_enter Tryd.func20, Tryd.ntmps20
  go_wp2_with fail
  obtain ⟨hown, hB0, hB⟩ := parts_start w #[.int .i64 1, nv, sv, .int .i64 s.w, .int .i64 s.c, .int .i64 s.m] #[.string (S word), .int .i64 3, .int .i64 0, .bool true, .bool false] 52 70 9 (.string (S word))
  have q3 : (((w.alloc (.cells #[.int .i64 1, nv, sv, .int .i64 s.w, .int .i64 s.c, .int .i64 s.m] 52)).alloc (.cells #[.string (S word), .int .i64 3, .int .i64 0, .bool true, .bool false] 70)).alloc (.cells #[.string (S word)] 9)).cell? ⟨w.heap.size, 3, none⟩ = some (.int .i64 s.w) := by simp [go_sem]
  have q4 : (((w.alloc (.cells #[.int .i64 1, nv, sv, .int .i64 s.w, .int .i64 s.c, .int .i64 s.m] 52)).alloc (.cells #[.string (S word), .int .i64 3, .int .i64 0, .bool true, .bool false] 70)).alloc (.cells #[.string (S word)] 9)).cell? ⟨w.heap.size, 4, none⟩ = some (.int .i64 s.c) := by simp [go_sem]
  have q5 : (((w.alloc (.cells #[.int .i64 1, nv, sv, .int .i64 s.w, .int .i64 s.c, .int .i64 s.m] 52)).alloc (.cells #[.string (S word), .int .i64 3, .int .i64 0, .bool true, .bool false] 70)).alloc (.cells #[.string (S word)] 9)).cell? ⟨w.heap.size, 5, none⟩ = some (.int .i64 s.m) := by simp [go_sem]
  have HT0 := hid (HT.out.below (hB0.trans (hB.mono (by omega))) (Nat.le_refl _))
  have hsz : (((w.alloc (.cells #[.int .i64 1, nv, sv, .int .i64 s.w, .int .i64 s.c, .int .i64 s.m] 52)).alloc (.cells #[.string (S word), .int .i64 3, .int .i64 0, .bool true, .bool false] 70)).alloc (.cells #[.string (S word)] 9)).heap.size = w.heap.size + 3 := by simp
  have hBW := hB0.trans (hB.mono (by omega))
  clear hB0 hB HT r0 r1 r2 r3 r4
  generalize (((w.alloc (.cells #[.int .i64 1, nv, sv, .int .i64 s.w, .int .i64 s.c, .int .i64 s.m] 52)).alloc (.cells #[.string (S word), .int .i64 3, .int .i64 0, .bool true, .bool false] 70)).alloc (.cells #[.string (S word)] 9)) = W1 at *
  have HSZ := hid hsz
  have hlt : w.heap.size < W1.heap.size := by omega
  clear hsz
  go_region_held3 (fun w' => w'.cell? ⟨w.heap.size, 3, none⟩ = some (.int .i64 s.w) ∧ w'.cell? ⟨w.heap.size, 4, none⟩ = some (.int .i64 s.c) ∧ w'.cell? ⟨w.heap.size, 5, none⟩ = some (.int .i64 s.m))
    (first | exact ⟨q3, q4, q5⟩ | exact ⟨k3, k4, k5⟩ | exact ⟨l3, l4, l5⟩ | exact ⟨m3, m4, m5⟩ | exact ⟨n3, n4, n5⟩ | go_keep)
    (first
      | (refine step_append_lies _ (by rfl) _ _ _ (by rfl) (w.heap.size + 2) 9 i0 (.string ⟨#[]⟩) 1 16 Tryd.underlying28 hi hz0 hz1 hz2 rfl (by decide) _ 1 [.string (S word)] (by rfl) (hown3.alloc _) ⟨w3.heap.size, 0, none⟩ 3 3 [.string (S (Lib.itoa s.w)), .string (S (Lib.itoa s.c)), .string (S (Lib.itoa s.m))] (by rfl) (by rfl) (World.news_of_block (cs := #[.string (S (Lib.itoa s.w)), .string (S (Lib.itoa s.c)), .string (S (Lib.itoa s.m))]) (t := 9) (fr := (0, 0)) (heap_alloc_new w3 _)) (by simp [Value.oneCell']) (by decide) (by unfold maxLen; omega) (by omega) (by rw [World.size_alloc]; have := HSZ.out; omega) (w3.heap.size + 1) (by rw [World.size_alloc]) ?_; intro gg cap w4 hown4 hgrow hat hltg; obtain ⟨n3, n4, n5⟩ := held_app (w := w) (w3 := w3) hgrow m3 m4 m5 rfl (Nat.lt_of_lt_of_le hlt (Nat.le_trans hs1 (Nat.le_trans hs2 hs3))))
      | (go_simp; go_at_call_of 35 (Value.int .i64 s.w); refine (itoa_c s.w W1.drew hw0 hw1 HT0.out).mono ?_; rintro e w1 ⟨rfl, hb1⟩; have HT1 := hid (Tab.below (w := W1.drew) HT0.out hb1 (Nat.le_refl _)); have hown1 := ownsRow_below (w := W1.drew) hown hb1; have hs1 : W1.heap.size ≤ w1.heap.size := hb1.size; have k3 := (hb1.cell (p := ⟨w.heap.size, 3, none⟩) hlt).trans q3; have k4 := (hb1.cell (p := ⟨w.heap.size, 4, none⟩) hlt).trans q4; have k5 := (hb1.cell (p := ⟨w.heap.size, 5, none⟩) hlt).trans q5)
      | (go_simp; go_at_call_of 35 (Value.int .i64 s.c); refine (itoa_c s.c w1 hc0 hc1 HT1.out).mono ?_; rintro e w2 ⟨rfl, hb2⟩; have HT2 := hid (HT1.out.below hb2 (Nat.le_refl _)); have hown2 := ownsRow_below hown1 hb2; have hs2 : w1.heap.size ≤ w2.heap.size := hb2.size; have l3 := (hb2.cell (p := ⟨w.heap.size, 3, none⟩) (Nat.lt_of_lt_of_le hlt hs1)).trans k3; have l4 := (hb2.cell (p := ⟨w.heap.size, 4, none⟩) (Nat.lt_of_lt_of_le hlt hs1)).trans k4; have l5 := (hb2.cell (p := ⟨w.heap.size, 5, none⟩) (Nat.lt_of_lt_of_le hlt hs1)).trans k5)
      | (go_simp; go_at_call_of 35 (Value.int .i64 s.m); refine (itoa_c s.m w2 hm0 hm1 HT2.out).mono ?_; rintro e w3 ⟨rfl, hb3⟩; have hown3 := ownsRow_below hown2 hb3; have hs3 : w2.heap.size ≤ w3.heap.size := hb3.size; have m3 := (hb3.cell (p := ⟨w.heap.size, 3, none⟩) (Nat.lt_of_lt_of_le hlt (Nat.le_trans hs1 hs2))).trans l3; have m4 := (hb3.cell (p := ⟨w.heap.size, 4, none⟩) (Nat.lt_of_lt_of_le hlt (Nat.le_trans hs1 hs2))).trans l4; have m5 := (hb3.cell (p := ⟨w.heap.size, 5, none⟩) (Nat.lt_of_lt_of_le hlt (Nat.le_trans hs1 hs2))).trans l5))
  have hb4 := ((((hBW.drew (w := W1)).trans (hb1.mono (by have := HSZ.out; show w.heap.size ≤ W1.heap.size; omega))).trans (hb2.mono (by have := HSZ.out; omega))).trans (hb3.mono (by have := HSZ.out; omega)))
  have hb5 := (hb4.alloc (by have := HSZ.out; omega) (.cells #[.string (S (Lib.itoa s.w)), .string (S (Lib.itoa s.c)), .string (S (Lib.itoa s.m))] 9)).grown hgrow (by rw [World.size_alloc]; have := HSZ.out; omega) (fun k hk => by have := (hown3.lt k hk).1; omega)
  have hend := rowOf_owns (L := [word, Lib.itoa s.w, Lib.itoa s.c, Lib.itoa s.m]) hown4 rfl
  have HEND := hid hend; have HB5 := hid hb5
  clear hend hb5 hb4 hb1 hb2 hb3 hown hown1 hown2 hown3 hown4 hgrow hBW
  go_wp2_with fail
  go_ret
  exact ⟨_, rfl, HEND.out, HB5.out⟩
end Go.Proofs.YtijlfggficjamaaDoor
