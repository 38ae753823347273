/- The contracts of play.Text and kindredref26.Text: the walks. -/
import Derived.Test.YtijlfggficjamaaDoorPlayText
namespace Go.Proofs.YtijlfggficjamaaDoor
set_option linter.unusedVariables false
set_option linter.unusedSimpArgs false
open Go Go.RowKit
open Go.Lib (hid)

theorem kind_nat (s : StepM) (h : shown s = true) : ∃ K : Nat, s.kind = (K : Int) ∧ 1 ≤ K ∧ K ≤ 23 := by
  simp only [shown, Bool.and_eq_true, decide_eq_true_eq] at h
  exact ⟨s.kind.toNat, by omega, by omega, by omega⟩
theorem parts_any (w : World) (cs : Array Value) (s : StepM) (hsh : shown s = true) (hs : StepIs w cs s) (ht : Tab w) (hr : Tbl w) (hok : s.ok) :
    Calls Tryd.prog 20 #[.agg cs] w fun e w' => ∃ v, e = .returned v ∧ RowOf w' v (LS (partsL s)) ∧ Below w.heap.size w w' := by
  obtain ⟨K, hK, h1, h2⟩ := kind_nat s hsh
  by_cases h : K = 1
  · subst h
    exact parts_o w cs s hK hs ht hr hok.w hok.c hok.m
  · have ho : (rowOf K).o = false := by
      have : ∀ i : Fin 24, i.val ≠ 1 → (rowOf i.val).o = false := by decide
      exact this ⟨K, by omega⟩ h
    exact parts_c w cs s K hK (by omega) hs ht hr hok.ns hok.len hok.ss ho
theorem line_any (w : World) (cs : Array Value) (s : StepM) (hsh : shown s = true) (hs : StepIs w cs s) (ht : Tab w) (hok : s.ok) :
    Calls Tryd.prog 22 #[.agg cs] w fun e w' => e = .returned (.string (S (lineL s))) ∧ Below w.heap.size w w' := by
  obtain ⟨K, hK, h1, h2⟩ := kind_nat s hsh
  by_cases h : K = 1
  · subst h
    exact line_o w cs s hK hs ht hok.w hok.c hok.m
  · have ho : (refRow K).o = false := by
      have : ∀ i : Fin 24, i.val ≠ 1 → (rowOf i.val).o = false := by decide
      simp only [refRow, h, if_false]
      exact this ⟨K, by omega⟩ h
    exact line_c w cs s K hK h1 h2 hs ht hok.ns hok.len hok.ss ho

set_option maxRecDepth 100000 in
set_option maxHeartbeats 4000000 in
theorem refText_c (w : World) (v : Value) (xs : List StepM) (hv : StepsOf w v xs) (ht : Tab w) (hok : ∀ s ∈ xs, s.ok) (hwt : wts xs ≤ 1000000000) :
    Calls Tryd.prog 10 #[v] w fun e w' => e = .returned (.string (S (textL xs))) ∧ Below w.heap.size w w' := by
  obtain ⟨ad, cap, rfl, hlc, hcm, hst⟩ := hv
  unfold maxLen at hcm
  have HTAB := hid ht; have HOK := hid hok; have HST := hid hst; have HWT := hid hwt
  clear ht hok hst hwt
  have HTX := fun k => hid (text_len (xs.take k) (fun s hs => HOK.out s (List.mem_of_mem_take hs)))
  go_enter Tryd.func10, Tryd.ntmps10
  go_wp2_with fail
  go_loopw [3, 4] (fun t i wr => ∃ k : Nat, k ≤ xs.length ∧ i = .int .i64 k ∧ t = .string (S (textL (xs.take k))) ∧ Below w.heap.size w wr) (fun _ i _ => xs.length - (RowKit.intOf i).toNat)
  case atStart => exact ⟨0, Nat.zero_le _, rfl, rfl, Below.refl _ _⟩
  case round =>
    obtain ⟨k, hk, rfl, rfl, hB⟩ := hrel
    have htl : (textL (xs.take k)).length ≤ 150000000000 := by
      have h1 := (HTX k).out; have h2 := wts_take xs k; have h3 := HWT.out; omega
    by_cases hlt : k < xs.length
    · have hne : xs ≠ [] := by intro h; rw [h] at hlt; simp at hlt
      obtain ⟨b, o, rfl, hcell⟩ := HST.out hne
      obtain ⟨s, hs⟩ : ∃ s, xs[k]? = some s := ⟨_, List.getElem?_eq_getElem hlt⟩
      have hso : s.ok := HOK.out s (List.mem_of_getElem? hs)
      obtain ⟨cs, hcs, hcc⟩ := hcell k s hs
      obtain ⟨nv, sv, hst1, q0, q1, q2, q3, q4, q5, hn1, hn2⟩ := step_cells (hcs.below hB (Nat.le_refl _)) (fun j x hx => by
        have := hcc j x hx
        exact (hB.cell (p := ⟨b, o + k * 6 + j, none⟩) (World.block_lt_of_cell? w _ this)).trans this)
      have hsn := text_snoc xs k s hs
      obtain ⟨t, htt⟩ : ∃ t, t = textL (xs.take k) := ⟨_, rfl⟩
      rw [← htt] at htl hsn ⊢
      have HSN := hid hsn; have HST1 := hid hst1; have HSO := hid hso
      have hll : shown s = true → (lineL s).length ≤ 150000000000 := by
        intro hsh
        have h1 := (HTX (k + 1)).out; have h2 := wts_take xs (k + 1); have h3 := HWT.out
        rw [hsn, if_pos hsh, List.length_append] at h1
        omega
      have HLL := hid hll
      clear hcell hs hcs hcc hsn hst1 hne htt hso hll
      have HB := hid hB
      by_cases hsh : shown s = true
      · have hsh2 : 0 < s.kind ∧ s.kind < 24 := by simpa [shown] using hsh
        obtain ⟨k1, k2⟩ := hsh2
        have HSH := hid hsh
        have hl2 := HLL.out hsh
        clear hsh
        go_wp2_with fail
        refine (line_any _ _ s HSH.out HST1.out (HTAB.out.below HB.out (Nat.le_refl _)) HSO.out).mono ?_
        rintro e w1 ⟨rfl, hb1⟩
        have HB1 := hid (HB.out.trans (hb1.mono HB.out.size))
        obtain ⟨u, hu⟩ : ∃ u, u = lineL s := ⟨_, rfl⟩
        rw [← hu] at hl2 ⊢
        have HU := hid hu
        clear hb1 hB hu
        go_wp2_with fail
        exact ⟨⟨k + 1, by omega, by go_num, by rw [HSN.out, if_pos HSH.out, S_app, HU.out], HB1.out⟩, by simp [RowKit.intOf]; omega⟩
      · have HSH := hid hsh
        clear hsh
        by_cases k1 : 1 ≤ s.kind
        · have k2 : (23 : Int) < s.kind := by
            have h := HSH.out; simp only [shown, Bool.and_eq_true, decide_eq_true_eq] at h; omega
          go_wp2_with fail
          exact ⟨⟨k + 1, by omega, by go_num, by rw [HSN.out, if_neg HSH.out, List.append_nil], HB.out⟩, by simp [RowKit.intOf]; omega⟩
        · go_wp2_with fail
          exact ⟨⟨k + 1, by omega, by go_num, by rw [HSN.out, if_neg HSH.out, List.append_nil], HB.out⟩, by simp [RowKit.intOf]; omega⟩
    · have HB := hid hB
      clear hB
      go_wp2_with fail
      go_ret
      exact ⟨by rw [List.take_of_length_le (by omega)]; rfl, HB.out⟩

theorem BuilderAt_below {T e : TypeId} {B b : Nat} {p : Value} {bs : List Value} {w w' : World} (h : Lib.BuilderAt T e B b p bs w) (hb : Below w.heap.size w w') : Lib.BuilderAt T e B b p bs w' := by
  have hlt := h.lt
  obtain ⟨hB, v, hv, hown, hne⟩ := h
  exact ⟨hB, v, by rw [hb.block _ hlt]; exact hv, ownsRow_below hown hb, hne⟩
theorem IsB_below {B b : Nat} {l : List UInt8} {w w' : World} (h : IsB B b l w) (hb : Below w.heap.size w w') : IsB B b l w' := by
  rcases h with h | h
  · exact .inl (BuilderAt_below h hb)
  · exact .inr (BuilderAt_below h hb)
theorem LS_map (l : List (List UInt8)) : (l.map S).map (·.data.toList) = l := by
  have h : ((fun x : ByteArray => x.data.toList) ∘ S) = id := funext fun x => by simp [S_list]
  rw [List.map_map, h, List.map_id]
theorem accSum_ge (L : List (List UInt8)) : L.length ≤ accSum L := by
  induction L with
  | nil => exact Nat.le_refl _
  | cons x r ih => simp only [accSum, List.map_cons, List.sum_cons, List.length_cons] at *; omega
theorem parts_ge (s : StepM) : (partsL s).length ≤ 1 + (Lib.join (partsL s) [32]).length := by
  unfold partsL
  simp only
  rw [accL_join, accL_length, List.length_cons]
  have := accSum_ge (if (rowOf s.kind.toNat).o = true then [Lib.itoa s.w, Lib.itoa s.c, Lib.itoa s.m] else body s (rowOf s.kind.toNat).n (rowOf s.kind.toNat).s (timesOf (rowOf s.kind.toNat) s))
  omega

/-- strings.Join of a slice that reads as the list -/
theorem joinRow_c (w : World) (v : Value) (L : List (List UInt8)) (sep : ByteArray) (hv : RowOf w v (LS L)) (hne : L ≠ []) (hlen : (Lib.join L sep.data.toList).length ≤ 140737488355328) (hL : L.length ≤ 140737488355328) :
    Calls Tryd.prog 19 #[v, .string sep] w fun e w' => e = .returned (.string (S (Lib.join L sep.data.toList))) ∧ Below w.heap.size w w' := by
  obtain ⟨ad, cap, rfl, h1, h2, h3⟩ := hv
  obtain ⟨b, o, rfl, hc⟩ := h3 (by intro h; exact hne (by simpa [LS] using h))
  have hb : b < w.heap.size := by
    cases L with
    | nil => exact absurd rfl hne
    | cons x r => exact World.block_lt_of_cell? w _ (hc 0 (.string (S x)) rfl)
  have := s_join b o cap (L.map S) sep w (fun j x hx => hc j _ (by
    simp only [List.getElem?_map, Option.map_eq_some_iff, LS] at hx ⊢
    obtain ⟨a, ha, rfl⟩ := hx
    exact ⟨a, ha, rfl⟩)) hb (by simpa using hL) (by simpa [LS] using h1) (by rw [LS_map]; exact hlen)
  rw [LS_map, List.length_map] at this
  rw [LS_len]
  exact this

/-- the k-th step's cells, the slices in their shapes -/
theorem step_shapes {w : World} {b o k : Nat} {cs : Array Value} {s : StepM} (hs : StepIs w cs s) (hc : ∀ (j : Nat) x, cs[j]? = some x → w.cell? ⟨b, o + k * 6 + j, none⟩ = some x) :
    ∃ a1 n1 c1 a2 n2 c2, StepIs w #[.int .i64 s.kind, .slice a1 n1 c1, .slice a2 n2 c2, .int .i64 s.w, .int .i64 s.c, .int .i64 s.m] s ∧ w.cell? ⟨b, o + k * 6, none⟩ = some (.int .i64 s.kind) ∧ w.cell? ⟨b, o + k * 6 + 1, none⟩ = some (.slice a1 n1 c1) ∧ w.cell? ⟨b, o + k * 6 + 2, none⟩ = some (.slice a2 n2 c2) ∧
      w.cell? ⟨b, o + k * 6 + 3, none⟩ = some (.int .i64 s.w) ∧ w.cell? ⟨b, o + k * 6 + 4, none⟩ = some (.int .i64 s.c) ∧ w.cell? ⟨b, o + k * 6 + 5, none⟩ = some (.int .i64 s.m) := by
  obtain ⟨nv, sv, rfl, h1, h2⟩ := hs
  obtain ⟨a1, c1, rfl, r1⟩ := h1
  obtain ⟨a2, c2, rfl, r2⟩ := h2
  exact ⟨_, _, _, _, _, _, ⟨_, _, rfl, ⟨a1, c1, rfl, r1⟩, ⟨a2, c2, rfl, r2⟩⟩, hc 0 _ rfl, hc 1 _ rfl, hc 2 _ rfl, hc 3 _ rfl, hc 4 _ rfl, hc 5 _ rfl⟩

set_option maxRecDepth 100000 in
set_option maxHeartbeats 4000000 in
theorem playText_c (w : World) (v : Value) (xs : List StepM) (hv : StepsOf w v xs) (ht : Tab w) (hr : Tbl w) (hok : ∀ s ∈ xs, s.ok) (hwt : wts xs ≤ 100000000) :
    Calls Tryd.prog 9 #[v] w fun e w' => e = .returned (.string (S (textL xs))) ∧ Below w.heap.size w w' := by
  obtain ⟨ad, cap, rfl, hlc, hcm, hst⟩ := hv
  unfold maxLen at hcm
  have HTAB := hid ht; have HOK := hid hok; have HST := hid hst; have HWT := hid hwt; have HTBL := hid hr
  clear ht hok hst hwt hr
  have HTX := fun k => hid (text_len (xs.take k) (fun s hs => HOK.out s (List.mem_of_mem_take hs)))
  go_enter Tryd.func9, Tryd.ntmps9
  go_wp2_with fail
  go_loopw [8] (fun i wr => ∃ k : Nat, k ≤ xs.length ∧ i = .int .i64 k ∧ IsB w.heap.size w.heap.size (textL (xs.take k)) wr ∧ Below w.heap.size w wr) (fun i _ => xs.length - (RowKit.intOf i).toNat)
  case atStart => exact ⟨0, Nat.zero_le _, rfl, Lib.fresh_isBuilder _ _ _, below_allocW _ _⟩
  case round =>
    obtain ⟨k, hk, rfl, hI, hB⟩ := hrel
    have htl : (textL (xs.take k)).length ≤ 15000000000 := by
      have h1 := (HTX k).out; have h2 := wts_take xs k; have h3 := HWT.out; omega
    by_cases hlt : k < xs.length
    · have hne : xs ≠ [] := by intro h; rw [h] at hlt; simp at hlt
      obtain ⟨b, o, rfl, hcell⟩ := HST.out hne
      obtain ⟨s, hs⟩ : ∃ s, xs[k]? = some s := ⟨_, List.getElem?_eq_getElem hlt⟩
      have hso : s.ok := HOK.out s (List.mem_of_getElem? hs)
      obtain ⟨cs, hcs, hcc⟩ := hcell k s hs
      obtain ⟨a1, n1, c1, a2, n2, c2, hst1, q0, q1, q2, q3, q4, q5⟩ := step_shapes (hcs.below hB (Nat.le_refl _)) (fun j x hx => by
        have := hcc j x hx
        exact (hB.cell (p := ⟨b, o + k * 6 + j, none⟩) (World.block_lt_of_cell? w _ this)).trans this)
      have hsn := text_snoc xs k s hs
      obtain ⟨t, htt⟩ : ∃ t, t = textL (xs.take k) := ⟨_, rfl⟩
      rw [← htt] at htl hsn hI
      have HSN := hid hsn; have HST1 := hid hst1; have HSO := hid hso
      have hll : shown s = true → (lineL s).length ≤ 15000000000 := by
        intro hsh
        have h1 := (HTX (k + 1)).out; have h2 := wts_take xs (k + 1); have h3 := HWT.out
        rw [hsn, if_pos hsh, List.length_append] at h1
        omega
      have HLL := hid hll
      clear hcell hs hcs hcc hsn hst1 hne htt hso hll
      have HB := hid hB
      have hszr := hB.size
      have HI := hid hI
      clear hI
      by_cases hsh : shown s = true
      · have hsh2 : 0 < s.kind ∧ s.kind < 24 := by simpa [shown] using hsh
        obtain ⟨k1, k2⟩ := hsh2
        have HSH := hid hsh
        have hl2 := HLL.out hsh
        clear hsh hB
        go_wp2_with fail
        refine (parts_any _ _ s HSH.out (HST1.out.below (below_allocW _ _) (Nat.le_refl _)) ((HTAB.out.below HB.out (Nat.le_refl _)).below (below_allocW _ _) (Nat.le_refl _)) ((HTBL.out.below HB.out (Nat.le_refl _)).below (below_allocW _ _) (Nat.le_refl _)) HSO.out).mono ?_
        rintro e w1 ⟨v1, rfl, hv1, hb1⟩
        have hb1' := (below_allocW wr _).trans (hb1.mono (by simp))
        have HB1 := hid (HB.out.trans (hb1'.mono hszr))
        have HI1 := hid (IsB_below HI.out hb1')
        have HV1 := hid hv1
        have hz1 := hb1'.size
        clear hb1 hv1 hb1'
        go_wp2_with fail
        refine (joinRow_c _ _ (partsL s) ⟨#[32]⟩ HV1.out (by unfold partsL; simp) ?_ ?_).mono ?_
        · have h := HLL.out HSH.out; unfold lineL at h; rw [List.length_append] at h
          show (Lib.join (partsL s) [32]).length ≤ _
          omega
        · have h := HLL.out HSH.out; unfold lineL at h; rw [List.length_append] at h
          have := parts_ge s
          omega
        rintro e w2 ⟨rfl, hb2⟩
        have hz2 := hb2.size
        have HB2 := hid (HB1.out.trans (hb2.mono (by omega)))
        have HI2 := hid (IsB_below HI1.out hb2)
        have hjl : (Lib.join (partsL s) [32]).length ≤ 15000000000 := by
          have h := HLL.out HSH.out; unfold lineL at h; rw [List.length_append] at h; omega
        have HL := hid (show lineL s = Lib.join (partsL s) [32] ++ [10] from rfl)
        obtain ⟨u, hu⟩ : ∃ u, u = Lib.join (partsL s) [32] := ⟨_, rfl⟩
        have hu' : Lib.join (partsL s) (ByteArray.mk #[32]).data.toList = u := hu.symm
        rw [hu']
        rw [← hu] at hjl
        have HU := hid hu
        clear hb2 hu hu'
        go_wp2_with fail
        have hSS : S u ++ (⟨#[10]⟩ : ByteArray) = S (u ++ [10]) := S_app u [10]
        rw [hSS]
        refine (b_str w.heap.size w.heap.size t (S (u ++ [10])) _ HI2.out (by rw [S_size, List.length_append]; simp; omega) (by omega)).mono ?_
        rintro e w3 ⟨rfl, hi3, hb3⟩
        have HB3 := hid (HB2.out.trans hb3)
        have HI3 := hid hi3
        clear hb3 hi3
        go_wp2_with fail
        exact ⟨⟨k + 1, by omega, by go_num, by have h := HI3.out; rw [HSN.out, if_pos HSH.out, HL.out, ← HU.out]; exact h, HB3.out⟩, by simp [RowKit.intOf]; omega⟩
      · have HSH := hid hsh
        clear hsh hB
        by_cases k1 : 1 ≤ s.kind
        · have k2 : (23 : Int) < s.kind := by
            have h := HSH.out; simp only [shown, Bool.and_eq_true, decide_eq_true_eq] at h; omega
          go_wp2_with fail
          exact ⟨⟨k + 1, by omega, by go_num, by rw [HSN.out, if_neg HSH.out, List.append_nil]; exact IsB_alloc HI.out _, HB.out.alloc (by omega) _⟩, by simp [RowKit.intOf]; omega⟩
        · go_wp2_with fail
          exact ⟨⟨k + 1, by omega, by go_num, by rw [HSN.out, if_neg HSH.out, List.append_nil]; exact IsB_alloc HI.out _, HB.out.alloc (by omega) _⟩, by simp [RowKit.intOf]; omega⟩
    · have HB := hid hB; have HI := hid hI
      have hszr := hB.size
      clear hB hI
      have htk : xs.take k = xs := List.take_of_length_le (by omega)
      go_wp2_with fail
      refine (b_string _ _ _ _ HI.out hszr).mono ?_
      rintro e w1 ⟨rfl, hb1⟩
      have HB1 := hid (HB.out.trans hb1)
      clear hb1
      go_wp2_with fail
      go_ret
      exact ⟨rfl, HB1.out⟩
end Go.Proofs.YtijlfggficjamaaDoor
