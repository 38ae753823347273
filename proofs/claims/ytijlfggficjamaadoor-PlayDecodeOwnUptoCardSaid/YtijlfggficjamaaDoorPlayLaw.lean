/- The walk of the law PlayTextExact. -/
import Derived.Test.YtijlfggficjamaaDoorPlayTwin
namespace Go.Proofs.YtijlfggficjamaaDoor
set_option linter.unusedVariables false
set_option linter.unusedSimpArgs false
open Go Go.RowKit
open Go.Lib (hid)

/-- a block that holds the cells of the steps reads as the list -/
theorem stepsOf_block {w : World} {g cap : Nat} {e : TypeId} {L : List (List Value)} {rest : List Value} {xs : List StepM} (hg : w.heap[g]? = some (.cells (L.flatten ++ rest).toArray e (0, 0))) (hL : L.length = xs.length)
    (hc : xs.length ≤ cap) (hm : cap ≤ maxLen) (hR : ∀ (i : Nat) cs s, L[i]? = some cs → xs[i]? = some s → cs.length = 6 ∧ StepIs w cs.toArray s) : StepsOf w (.slice (some ⟨g, 0, none⟩) xs.length cap) xs := by
  have h6 : ∀ c ∈ L, c.length = 6 := by
    intro c hc
    obtain ⟨i, hi⟩ := List.mem_iff_getElem?.1 hc
    have hil := (List.getElem?_eq_some_iff.1 hi).1
    exact (hR i c _ hi (List.getElem?_eq_getElem (by omega))).1
  have hfl := flat_len L h6
  refine ⟨some ⟨g, 0, none⟩, cap, rfl, hc, hm, fun _ => ⟨g, 0, rfl, fun i s hi => ?_⟩⟩
  have hil := (List.getElem?_eq_some_iff.1 hi).1
  obtain ⟨cs, hcs⟩ : ∃ cs, L[i]? = some cs := ⟨_, List.getElem?_eq_getElem (by omega)⟩
  obtain ⟨hl6, hst⟩ := hR i cs s hcs hi
  refine ⟨cs.toArray, hst, fun j x hx => ?_⟩
  have hx' : cs[j]? = some x := by simpa using hx
  have hj : j < 6 := by have := (List.getElem?_eq_some_iff.1 hx').1; omega
  rw [box_cell hg, Nat.zero_add]
  rw [← flat_get L h6 i j hj cs hcs] at hx'
  simp only [List.getElem?_toArray]
  rw [List.getElem?_append_left (by omega)]
  exact hx'
theorem nilOk_block {w : World} {g n cap : Nat} {e : TypeId} {L : List (List Value)} {rest : List Value} (hg : w.heap[g]? = some (.cells (L.flatten ++ rest).toArray e (0, 0))) (hL : L.length = n)
    (h6 : ∀ c ∈ L, c.length = 6) (hR : ∀ cs ∈ L, ∀ l c, (cs[1]? = some (.slice none l c) → l = 0 ∧ c = 0) ∧ (cs[2]? = some (.slice none l c) → l = 0 ∧ c = 0)) : NilOk w (.slice (some ⟨g, 0, none⟩) n cap) := by
  intro b o n' cap' he i hi l c
  cases he
  have hfl := flat_len L h6
  obtain ⟨cs, hcs⟩ : ∃ cs, L[i]? = some cs := ⟨_, List.getElem?_eq_getElem (by omega)⟩
  have hm := List.mem_of_getElem? hcs
  have h1 : (L.flatten ++ rest)[i * 6 + 1]? = cs[1]? := by rw [List.getElem?_append_left (by omega)]; exact flat_get L h6 i 1 (by omega) cs hcs
  have h2 : (L.flatten ++ rest)[i * 6 + 2]? = cs[2]? := by rw [List.getElem?_append_left (by omega)]; exact flat_get L h6 i 2 (by omega) cs hcs
  rw [box_cell hg, box_cell hg, Nat.zero_add]
  simp only [List.getElem?_toArray, h1, h2]
  exact hR cs hm l c
theorem own_block6 {w : World} {base : Nat} {e : TypeId} {g n : Nat} {l : List Value} (h : w.ownsRow base e 6 (.slice (some ⟨g, 0, none⟩) n n) n l) : w.heap[g]? = some (.cells l.toArray e (0, 0)) := by
  obtain ⟨h1, h2⟩ := h
  rcases h2 with ⟨h0, _⟩ | ⟨g', cap, cur, hv, hb, hg, hn, hc, hs, ht⟩
  · cases h0
  · cases hv
    rw [List.take_of_length_le (by simp; omega)] at ht
    rw [hg, ← ht]
theorem Roomed.isStep {w : World} {B : Nat} {cs : List Value} {s : StepM} (h : Roomed w B cs s) (hn : s.ns.length ≤ 100000000) (hs : s.ss.length ≤ 100000000) : cs.length = 6 ∧ StepIs w cs.toArray s := by
  refine ⟨h.len, ?_⟩
  obtain ⟨g1, g2, h1, h2, h3, h4, rfl, h5, h6⟩ := h
  refine ⟨_, _, rfl, ⟨some ⟨g1, 0, none⟩, s.ns.length + 2, by rw [ints_len], by rw [ints_len]; omega, by unfold maxLen; omega, fun hne => ⟨g1, 0, rfl, fun i x hx => ?_⟩⟩, ⟨some ⟨g2, 0, none⟩, s.ss.length + 2, by rw [strs_len], by rw [strs_len]; omega, by unfold maxLen; omega, fun hne => ⟨g2, 0, rfl, fun i x hx => ?_⟩⟩⟩
  · have := h5 i x (by rw [List.getElem?_append_left (List.getElem?_eq_some_iff.1 hx).1]; exact hx)
    simpa using this
  · have := h6 i x (by rw [List.getElem?_append_left (List.getElem?_eq_some_iff.1 hx).1]; exact hx)
    simpa using this

theorem S_beq (l : List UInt8) : (S l == S l) = true := by
  show ((S l).data == (S l).data) = true
  simp
theorem S_ne (l : List UInt8) : (S l != S l) = false := by unfold bne; rw [S_beq]; rfl
theorem below_drewN {B : Nat} {w w' : World} (h : Below B w w') (n : Nat) : Below B w (w'.drewN n) := ⟨h.os, h.tape, h.output, h.size, h.block⟩
theorem bset {g : Nat} {w w' : World} (h : Below g w w') (i : Nat) (v : Value) : Below g w (w'.setCell ⟨g, i, none⟩ v) := h.setCell (Nat.le_refl g) v
theorem size_set (w : World) (a : Addr) (v : Value) : (w.setCell a v).heap.size = w.heap.size := by simp [World.setCell]
theorem grefl (g : Nat) (w : World) : w.grownBy w (some g) := ⟨rfl, rfl, rfl, Nat.le_refl _, fun _ _ _ => rfl⟩
theorem gset {g : Nat} {w w' : World} (h : w.grownBy w' (some g)) (i : Nat) (v : Value) : w.grownBy (w'.setCell ⟨g, i, none⟩ v) (some g) :=
  ⟨h.os, h.tape, h.output, by rw [size_set]; exact h.size, fun k hk hr => (heap_setCell_other _ _ _ _ (fun e => hr (by rw [e]))).trans (h.block k hk hr)⟩
theorem set6 {w : World} {g : Nat} {t : TypeId} {a0 a1 a2 a3 a4 a5 : Value} {rest : List Value} (h : w.heap[g]? = some (.cells (a0 :: a1 :: a2 :: a3 :: a4 :: a5 :: rest).toArray t (0, 0))) (b0 b1 b2 b3 b4 b5 : Value) :
    (((((((w).setCell ⟨g, 0, none⟩ (b0)).setCell ⟨g, 1, none⟩ (b1)).setCell ⟨g, 2, none⟩ (b2)).setCell ⟨g, 3, none⟩ (b3)).setCell ⟨g, 4, none⟩ (b4)).setCell ⟨g, 5, none⟩ (b5)).heap[g]? = some (.cells (b0 :: b1 :: b2 :: b3 :: b4 :: b5 :: rest).toArray t (0, 0)) ∧
    Below g w (((((((w).setCell ⟨g, 0, none⟩ (b0)).setCell ⟨g, 1, none⟩ (b1)).setCell ⟨g, 2, none⟩ (b2)).setCell ⟨g, 3, none⟩ (b3)).setCell ⟨g, 4, none⟩ (b4)).setCell ⟨g, 5, none⟩ (b5)) ∧ w.grownBy (((((((w).setCell ⟨g, 0, none⟩ (b0)).setCell ⟨g, 1, none⟩ (b1)).setCell ⟨g, 2, none⟩ (b2)).setCell ⟨g, 3, none⟩ (b3)).setCell ⟨g, 4, none⟩ (b4)).setCell ⟨g, 5, none⟩ (b5)) (some g) ∧ (((((((w).setCell ⟨g, 0, none⟩ (b0)).setCell ⟨g, 1, none⟩ (b1)).setCell ⟨g, 2, none⟩ (b2)).setCell ⟨g, 3, none⟩ (b3)).setCell ⟨g, 4, none⟩ (b4)).setCell ⟨g, 5, none⟩ (b5)).heap.size = w.heap.size := by
  refine ⟨?_, bset (bset (bset (bset (bset (bset (Below.refl g w) 0 b0) 1 b1) 2 b2) 3 b3) 4 b4) 5 b5, gset (gset (gset (gset (gset (gset (grefl g w) 0 b0) 1 b1) 2 b2) 3 b3) 4 b4) 5 b5, by simp only [size_set]⟩
  have h0 := heap_setCell_same _ g 0 _ t b0 h
  have h1 := heap_setCell_same _ g 1 _ t b1 h0
  have h2 := heap_setCell_same _ g 2 _ t b2 h1
  have h3 := heap_setCell_same _ g 3 _ t b3 h2
  have h4 := heap_setCell_same _ g 4 _ t b4 h3
  have h5 := heap_setCell_same _ g 5 _ t b5 h4
  rw [h5]
  simp only [List.setIfInBounds_toArray, List.set_cons_succ, List.set_cons_zero]
theorem _root_.Go.World.grownBy.alloc' {w w' : World} {r : Option Nat} (h : w.grownBy w' r) (o : Obj) : w.grownBy (w'.alloc o) r :=
  ⟨h.os, h.tape, h.output, by rw [World.size_alloc]; have := h.size; omega, fun k hk hr => ((below_allocW w' o).block k (Nat.lt_of_lt_of_le hk h.size)).trans (h.block k hk hr)⟩
theorem heap_alloc_new' (w : World) (o : Obj) (n : Nat) (h : w.heap.size = n) : (w.alloc o).heap[n]? = some o := by subst h; exact heap_alloc_new w o
def stepSeven : StepM := ⟨4, [7], [], 0, 0, 0⟩
theorem seven_ok : stepSeven.ok := ⟨by decide, by intro x hx; simp [stepSeven] at hx; omega, by decide, by intro x hx; simp [stepSeven] at hx, by decide, by decide, by decide⟩

set_option maxRecDepth 100000 in
set_option maxHeartbeats 4000000 in
theorem textExact_c (w : World) (v : Value) (xs : List StepM) (hv : StepsOf w v xs) (ht : Tab w) (hr : Tbl w) (hok : ∀ s ∈ xs, s.ok) (hwt : wts xs ≤ 10000000) (hlx : xs.length ≤ 10000000) (hln : ∀ s ∈ xs, s.ns.length ≤ 100000000) (hls : ∀ s ∈ xs, s.ss.length ≤ 100000000) :
    Calls Tryd.prog 3 #[v] w fun e w' => e = .returned (.bool true) ∧ Below w.heap.size w w' := by
  have HV := hid hv; have HT := hid ht; have HTB := hid hr; have HOK := hid hok; have HLN := hid hln; have HLS := hid hls
  clear hv ht hr hok hln hls
  go_enter Tryd.func3, Tryd.ntmps3
  go_wp2_with fail
  refine (roomy_c _ v xs HV.out hlx HLN.out HLS.out).mono ?_
  rintro e W1 ⟨L, rfl, hL, hR, ho, hB⟩
  have hz0 := ho.lt _ rfl
  have hblk := own_block6 ho
  have hs1 := stepsOf_block (cap := xs.length + 2) hblk hL (by omega) (by unfold maxLen; omega) (fun i cs s h1 h2 => (hR i cs s h1 h2).isStep (HLN.out s (List.mem_of_getElem? h2)) (HLS.out s (List.mem_of_getElem? h2)))
  have HR := hid hR; have HBLK := hid hblk; have HS1 := hid hs1; have HB := hid hB
  have HL := hid hL
  clear hR hblk hs1 hB ho hL
  go_wp2_with fail
  refine (playText_c _ _ xs HS1.out (HT.out.below HB.out (Nat.le_refl _)) (HTB.out.below HB.out (Nat.le_refl _)) HOK.out (by omega)).mono ?_
  rintro e W2 ⟨rfl, hb⟩
  have HB2 := hid hb; have HBB := hid (HB.out.trans (hb.mono (HB.out.size)))
  clear hb
  go_wp2_with fail
  refine (refText_c _ v xs (HV.out.below HBB.out (Nat.le_refl _)) (HT.out.below HBB.out (Nat.le_refl _)) HOK.out (by omega)).mono ?_
  rintro e W3 ⟨rfl, hb⟩
  have HB3 := hid (HB2.out.trans (hb.mono (HB2.out.size)))
  have HBB3 := hid (HBB.out.trans (hb.mono (HBB.out.size)))
  clear hb
  have hne : (S (textL xs) != S (textL xs)) = false := S_ne _
  go_wp2_with fail
  refine (sameSteps_c _ _ _ xs (HS1.out.below HB3.out (Nat.le_refl _)) (HV.out.below HBB3.out (Nat.le_refl _))).mono ?_
  rintro e W4 ⟨rfl, m4, hW4⟩
  have hBB4 : Below w.heap.size w W4 := hW4 ▸ below_drewN HBB3.out m4
  have hB4 : Below W1.heap.size W1 W4 := hW4 ▸ below_drewN HB3.out m4
  have HBB4 := hid hBB4; have HB4 := hid hB4
  clear hBB4 hB4 hW4
  go_wp2_with fail
  refine (rooms_c _ w.heap.size (w.heap.size + 1) xs L HL.out (fun i cs s h1 h2 => (HR.out i cs s h1 h2).below HB4.out) ?_ hlx HLN.out HLS.out).mono ?_
  · intro i x hx
    have := box_cell ((HB4.out.block _ hz0.2).trans HBLK.out) i
    simp only [List.getElem?_toArray] at this
    exact this.trans hx
  rintro e W6 ⟨rfl, m5, hW6⟩
  have hBB6 : Below w.heap.size w W6 := hW6 ▸ below_drewN HBB4.out m5
  have hB6 : Below W1.heap.size W1 W6 := hW6 ▸ below_drewN HB4.out m5
  have hbl6 := (hB6.block _ hz0.2).trans HBLK.out
  have HBB6 := hid hBB6; have HB6 := hid hB6; have HBL6 := hid hbl6
  clear hBB6 hB6 hW6 hbl6 hne
  by_cases h0 : xs.length = 0
  · have hz : xs = [] := List.length_eq_zero_iff.1 h0
    subst hz
    go_wp2_with fail
    go_ret
    exact ⟨rfl, HBB6.out⟩
  · have h0' : ((xs.length : Int) == 0) = false := by simp; intro h; simp [h] at h0
    have hpos : (0 : Int) < (xs.length : Int) := by omega
    obtain ⟨s0, r, hxs⟩ : ∃ s0 r, xs = s0 :: r := by
      cases xs with
      | nil => simp at h0
      | cons s0 r => exact ⟨s0, r, rfl⟩
    obtain ⟨c0, L', hLL⟩ : ∃ c0 L', L = c0 :: L' := by
      cases L with
      | nil => have := HL.out; simp at this; omega
      | cons s0 r => exact ⟨s0, r, rfl⟩
    obtain ⟨g1, g2, hg1, hg2, hg3, hg4, hc0, _, _⟩ := HR.out 0 c0 s0 (by rw [hLL]; rfl) (by rw [hxs]; rfl)
    have hbl := HBL6.out
    rw [hLL, hc0] at hbl
    simp only [List.flatten_cons, List.cons_append, List.nil_append] at hbl
    have y0 := box_cell hbl 0; have y1 := box_cell hbl 1; have y2 := box_cell hbl 2; have y3 := box_cell hbl 3; have y4 := box_cell hbl 4; have y5 := box_cell hbl 5
    have z0 := box_free hbl 0; have z1 := box_free hbl 1; have z2 := box_free hbl 2; have z3 := box_free hbl 3; have z4 := box_free hbl 4; have z5 := box_free hbl 5
    simp at y0 y1 y2 y3 y4 y5
    have hz6 : w.heap.size < W6.heap.size := lt_of_block hbl
    have HXS := hid hxs; have HLL := hid hLL; have HBL := hid hbl
    clear hxs hLL hbl hc0
    go_upto_region 9 with (fail)
    obtain ⟨hb7, hB7, hg7, hz7⟩ := set6 HBL.out (.int .i64 4) (.slice (some ⟨W6.heap.size, 0, none⟩) 1 1) (.slice none 0 0) (.int .i64 0) (.int .i64 0) (.int .i64 0)
    have hb8 := ((below_allocW (((((((W6).setCell ⟨w.heap.size, 0, none⟩ (.int .i64 4)).setCell ⟨w.heap.size, 1, none⟩ (.slice (some ⟨W6.heap.size, 0, none⟩) 1 1)).setCell ⟨w.heap.size, 2, none⟩ (.slice none 0 0)).setCell ⟨w.heap.size, 3, none⟩ (.int .i64 0)).setCell ⟨w.heap.size, 4, none⟩ (.int .i64 0)).setCell ⟨w.heap.size, 5, none⟩ (.int .i64 0)) (.cells #[.int .i64 7] 3)).block _ (by rw [hz7]; exact hz6)).trans hb7
    have hB8 := hB7.alloc (by rw [hz7]; omega) (.cells #[.int .i64 7] 3)
    have hG8 := hg7.alloc' (.cells #[.int .i64 7] 3)
    have hn8 := heap_alloc_new' (((((((W6).setCell ⟨w.heap.size, 0, none⟩ (.int .i64 4)).setCell ⟨w.heap.size, 1, none⟩ (.slice (some ⟨W6.heap.size, 0, none⟩) 1 1)).setCell ⟨w.heap.size, 2, none⟩ (.slice none 0 0)).setCell ⟨w.heap.size, 3, none⟩ (.int .i64 0)).setCell ⟨w.heap.size, 4, none⟩ (.int .i64 0)).setCell ⟨w.heap.size, 5, none⟩ (.int .i64 0)) (.cells #[.int .i64 7] 3) W6.heap.size hz7
    generalize ((((((((W6).setCell ⟨w.heap.size, 0, none⟩ (.int .i64 4)).setCell ⟨w.heap.size, 1, none⟩ (.slice (some ⟨W6.heap.size, 0, none⟩) 1 1)).setCell ⟨w.heap.size, 2, none⟩ (.slice none 0 0)).setCell ⟨w.heap.size, 3, none⟩ (.int .i64 0)).setCell ⟨w.heap.size, 4, none⟩ (.int .i64 0)).setCell ⟨w.heap.size, 5, none⟩ (.int .i64 0)).alloc (.cells #[.int .i64 7] 3)) = W7 at hb8 hB8 hG8 hn8 ⊢
    clear hb7 hB7 hg7 hz7 y0 y1 y2 y3 y4 y5 z0 z1 z2 z3 z4 z5
    have hz7 : w.heap.size < W7.heap.size := lt_of_block hb8
    have hlr : xs.length = (stepSeven :: r).length := by rw [HXS.out]; rfl
    have hbl7 : W7.heap[w.heap.size]? = some (.cells (([.int .i64 4, .slice (some ⟨W6.heap.size, 0, none⟩) 1 1, .slice none 0 0, .int .i64 0, .int .i64 0, .int .i64 0] :: L').flatten ++ markStep).toArray 32 (0, 0)) := by
      rw [hb8]; simp only [List.flatten_cons, List.cons_append, List.nil_append]
    have hlt2 : ∀ s ∈ r, s.ns.length ≤ 100000000 ∧ s.ss.length ≤ 100000000 ∧ s.ok := fun s hs => by
      have hm : s ∈ xs := by rw [HXS.out]; exact List.mem_cons_of_mem _ hs
      exact ⟨HLN.out s hm, HLS.out s hm, HOK.out s hm⟩
    have hR7 : ∀ (i : Nat) cs s, L'[i]? = some cs → r[i]? = some s → Roomed W7 (w.heap.size + 1) cs s := fun i cs s h1 h2 =>
      (((HR.out (i + 1) cs s (by rw [HLL.out]; exact h1) (by rw [HXS.out]; exact h2)).below HB6.out)).grown hG8 hG8.size
    have hlen' : L'.length = r.length := by
      have h1 := HL.out
      rw [HLL.out, HXS.out] at h1
      simpa using h1
    have hi7 : ∀ (i : Nat) cs s, ([.int .i64 4, .slice (some ⟨W6.heap.size, 0, none⟩) 1 1, .slice none 0 0, .int .i64 0, .int .i64 0, .int .i64 0] :: L')[i]? = some cs → (stepSeven :: r)[i]? = some s → cs.length = 6 ∧ StepIs W7 cs.toArray s := by
      intro i cs s h1 h2
      cases i with
      | zero =>
        simp only [List.getElem?_cons_zero, Option.some.injEq] at h1 h2
        subst h1; subst h2
        refine ⟨rfl, _, _, rfl, ⟨some ⟨W6.heap.size, 0, none⟩, 1, rfl, by decide, by unfold maxLen; omega, fun _ => ⟨_, 0, rfl, fun i x hx => ?_⟩⟩, RowOf.nil _⟩
        rw [box_cell hn8, Nat.zero_add]
        simpa [stepSeven, ints] using hx
      | succ i =>
        simp only [List.getElem?_cons_succ] at h1 h2
        have := hlt2 s (List.mem_of_getElem? h2)
        exact (hR7 i cs s h1 h2).isStep this.1 this.2.1
    have hs7 : StepsOf W7 (.slice (some ⟨w.heap.size, 0, none⟩) xs.length (xs.length + 2)) (stepSeven :: r) := by
      rw [hlr]
      exact stepsOf_block (L := [.int .i64 4, .slice (some ⟨W6.heap.size, 0, none⟩) 1 1, .slice none 0 0, .int .i64 0, .int .i64 0, .int .i64 0] :: L') hbl7 (by simp [hlen']) (by omega) (by have := hlr; unfold maxLen; omega) hi7
    have h67 : ∀ c ∈ ([.int .i64 4, .slice (some ⟨W6.heap.size, 0, none⟩) 1 1, .slice none 0 0, .int .i64 0, .int .i64 0, .int .i64 0] :: L'), c.length = 6 := by
      intro c hc
      rcases List.mem_cons.1 hc with rfl | hc
      · rfl
      · obtain ⟨i, hi⟩ := List.mem_iff_getElem?.1 hc
        have hil := (List.getElem?_eq_some_iff.1 hi).1
        exact (hR7 i c _ hi (List.getElem?_eq_getElem (by omega))).len
    have hn7 : NilOk W7 (.slice (some ⟨w.heap.size, 0, none⟩) xs.length (xs.length + 2)) := by
      refine nilOk_block (L := [.int .i64 4, .slice (some ⟨W6.heap.size, 0, none⟩) 1 1, .slice none 0 0, .int .i64 0, .int .i64 0, .int .i64 0] :: L') hbl7 (by rw [hlr]; simp [hlen']) h67 ?_
      intro cs hc l c
      rcases List.mem_cons.1 hc with rfl | hc
      · refine ⟨fun h => ?_, fun h => ?_⟩
        · simp at h
        · simp at h; exact ⟨h.1.symm, h.2.symm⟩
      · obtain ⟨i, hi⟩ := List.mem_iff_getElem?.1 hc
        have hil := (List.getElem?_eq_some_iff.1 hi).1
        obtain ⟨_, _, _, _, _, _, rfl, _, _⟩ := hR7 i cs _ hi (List.getElem?_eq_getElem (by omega))
        refine ⟨fun h => ?_, fun h => ?_⟩ <;> simp at h
    have hok7 : ∀ s ∈ (stepSeven :: r), s.ok := by
      intro s hs
      rcases List.mem_cons.1 hs with rfl | hs
      · exact seven_ok
      · exact (hlt2 s hs).2.2
    have hln7 : ∀ s ∈ (stepSeven :: r), s.ns.length ≤ 100000000 := by
      intro s hs
      rcases List.mem_cons.1 hs with rfl | hs
      · decide
      · exact (hlt2 s hs).1
    have hls7 : ∀ s ∈ (stepSeven :: r), s.ss.length ≤ 100000000 := by
      intro s hs
      rcases List.mem_cons.1 hs with rfl | hs
      · decide
      · exact (hlt2 s hs).2.1
    have hwt7 : wts (stepSeven :: r) ≤ 10000001 := by
      have h1 := hwt
      rw [HXS.out] at h1
      have h2 : stepSeven.wt = 1 := by decide
      simp only [wts, List.map_cons, List.sum_cons, h2] at h1 ⊢
      omega
    have hB7 : Below w.heap.size w W7 := HBB6.out.trans (hB8)
    have HS7 := hid hs7; have HN7 := hid hn7; have HOK7 := hid hok7; have HLN7 := hid hln7; have HLS7 := hid hls7; have HB7 := hid hB7
    have hlr' : (stepSeven :: r).length ≤ 10000000 := by omega
    clear hs7 hn7 hok7 hln7 hls7 hB7 h67 hi7 hlen' hR7 hlt2 hbl7 hlr hb8 hB8 hG8 hn8 h0' h0
    go_wp2_with fail
    refine (twin_c _ _ (stepSeven :: r) HS7.out HN7.out hlr' HLN7.out HLS7.out).mono ?_
    rintro e W8 ⟨v8, rfl, hs8, hb8⟩
    have HS8 := hid hs8; have HBB8 := hid (HB7.out.trans (hb8.mono HB7.out.size)); have HS78 := hid (HS7.out.below hb8 (Nat.le_refl _))
    clear hs8 hb8
    go_wp2_with fail
    refine (playText_c _ _ (stepSeven :: r) HS78.out (HT.out.below HBB8.out (Nat.le_refl _)) (HTB.out.below HBB8.out (Nat.le_refl _)) HOK7.out (by omega)).mono ?_
    rintro e W9 ⟨rfl, hb⟩
    have HBB9 := hid (HBB8.out.trans (hb.mono HBB8.out.size)); have HS9 := hid (HS8.out.below hb (Nat.le_refl _)); have HS79 := hid (HS78.out.below hb (Nat.le_refl _))
    clear hb
    go_wp2_with fail
    refine (refText_c _ _ (stepSeven :: r) HS9.out (HT.out.below HBB9.out (Nat.le_refl _)) HOK7.out (by omega)).mono ?_
    rintro e Wa ⟨rfl, hb⟩
    have HBBa := hid (HBB9.out.trans (hb.mono HBB9.out.size)); have HSa := hid (HS9.out.below hb (Nat.le_refl _)); have HS7a := hid (HS79.out.below hb (Nat.le_refl _))
    have heq : (S (textL (stepSeven :: r)) == S (textL (stepSeven :: r))) = true := S_beq _
    clear hb
    go_wp2_with fail
    refine (sameSteps_c _ _ _ (stepSeven :: r) HS7a.out HSa.out).mono ?_
    rintro e Wb ⟨rfl, mb, rfl⟩
    go_wp2_with fail
    go_ret
    exact ⟨rfl, below_drewN HBBa.out mb⟩
end Go.Proofs.YtijlfggficjamaaDoor
