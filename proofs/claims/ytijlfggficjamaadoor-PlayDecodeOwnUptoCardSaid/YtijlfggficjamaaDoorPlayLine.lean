/- The contract of kindredref26.line. -/
import Derived.Test.YtijlfggficjamaaDoorPlayRef
namespace Go.Proofs.YtijlfggficjamaaDoor
set_option linter.unusedVariables false
set_option linter.unusedSimpArgs false
open Go Go.RowKit
open Go.Lib (hid)

/-- a word, and each further one behind a blank -/
def accL (word : List UInt8) (L : List (List UInt8)) : List UInt8 := word ++ L.flatMap (fun x => 32 :: x)
theorem accL_snoc (word : List UInt8) (L : List (List UInt8)) (x : List UInt8) : accL word (L ++ [x]) = accL word L ++ [32] ++ x := by simp [accL]
theorem accL_join (word : List UInt8) (L : List (List UInt8)) : Lib.join (word :: L) [32] = accL word L := by
  rw [Lib.join_cons, accL, Lib.joinTail, List.flatMap]; rfl
theorem accL_len (word : List UInt8) (L : List (List UInt8)) (B : Nat) (h : ∀ x ∈ L, x.length ≤ B) : (accL word L).length ≤ word.length + L.length * (B + 1) := by
  induction L with
  | nil => simp [accL]
  | cons x r ih =>
    have h1 := ih (fun y hy => h y (List.mem_cons_of_mem _ hy))
    have h2 := h x List.mem_cons_self
    simp only [accL, List.flatMap_cons, List.length_append, List.length_cons, Nat.succ_mul] at *
    omega
theorem parts_elem (s : StepM) (N T k : Nat) (hN : ∀ k, -9223372036854775808 ≤ s.num k ∧ s.num k ≤ 9223372036854775807) (hW : ∀ k, (s.word k).size ≤ 1048576) :
    (∀ j, ∀ x ∈ numsOf s N k j, x.length ≤ 3145729) ∧ (∀ j, ∀ x ∈ textsOf s T k j, x.length ≤ 3145729) := by
  constructor
  · intro j x hx
    simp only [numsOf, List.mem_map] at hx
    obtain ⟨i, _, rfl⟩ := hx
    have := itoa_len _ (hN (k * N + i)).1 (hN (k * N + i)).2
    omega
  · intro j x hx
    simp only [textsOf, List.mem_map] at hx
    obtain ⟨i, _, rfl⟩ := hx
    have := esc_len (s.word (k * T + i)).data.toList
    have h2 := hW (k * T + i)
    rw [size_list] at this
    omega
theorem body_elem (s : StepM) (N T t : Nat) (hN : ∀ k, -9223372036854775808 ≤ s.num k ∧ s.num k ≤ 9223372036854775807) (hW : ∀ k, (s.word k).size ≤ 1048576) : ∀ x ∈ body s N T t, x.length ≤ 3145729 := by
  intro x hx
  simp only [body, List.mem_flatMap, grp, List.mem_append] at hx
  obtain ⟨k, _, hx | hx⟩ := hx
  · exact (parts_elem s N T k hN hW).1 _ x hx
  · exact (parts_elem s N T k hN hW).2 _ x hx
theorem acc_bd (word : List UInt8) (s : StepM) (N T k a c : Nat) (hw : word.length ≤ 7) (hN : ∀ k, -9223372036854775808 ≤ s.num k ∧ s.num k ≤ 9223372036854775807) (hW : ∀ k, (s.word k).size ≤ 1048576) (hn : N ≤ 3) (ht : T ≤ 1) (hk : k ≤ 1048576) (ha : a ≤ N) (hc : c ≤ T) :
    (accL word (body s N T k ++ numsOf s N k a ++ textsOf s T k c)).length ≤ 30000000000000 := by
  have h := accL_len word (body s N T k ++ numsOf s N k a ++ textsOf s T k c) 3145729 (by
    intro x hx
    rw [List.mem_append, List.mem_append] at hx
    rcases hx with (hx | hx) | hx
    · exact body_elem s N T k hN hW x hx
    · exact (parts_elem s N T k hN hW).1 _ x hx
    · exact (parts_elem s N T k hN hW).2 _ x hx)
  rw [List.length_append, List.length_append, body_len, nums_len, texts_len] at h
  have h2 : k * (N + T) ≤ 1048576 * 4 := Nat.mul_le_mul hk (by omega)
  omega

set_option maxRecDepth 100000 in
set_option maxHeartbeats 4000000 in
theorem line_c (w : World) (cs : Array Value) (s : StepM) (K : Nat) (hK : s.kind = (K : Int)) (hK0 : 1 ≤ K) (hK1 : K ≤ 23) (hs : StepIs w cs s) (ht : Tab w)
    (hn : ∀ x ∈ s.ns, -9223372036854775808 ≤ x ∧ x ≤ 9223372036854775807) (hl : s.ss.length ≤ 1048576) (hss : ∀ x ∈ s.ss, x.size ≤ 1048576)
    (ho : (refRow K).o = false) :
    Calls Tryd.prog 22 #[.agg cs] w fun e w' => e = .returned (.string (S (lineL s))) ∧ Below w.heap.size w w' := by
  have hK2 : K ≠ 1 := by rintro rfl; simp [refRow, rowOf, rowTab] at ho
  have hrr : refRow K = rowOf K := by simp [refRow, hK2]
  rw [hrr] at ho
  have hP : lineL s = accL (rowOf K).word (body s (rowOf K).n (rowOf K).s (timesOf (rowOf K) s)) ++ [10] := by
    unfold lineL partsL; rw [hK]; simp [ho, accL_join]
  rw [hP]
  clear hP
  obtain ⟨nv, sv, rfl, hnv, ⟨sad, scap, rfl, hs1, hs2, hs3⟩⟩ := hs
  have hst : StepIs w (s.cells nv (.slice sad (strs s.ss).length scap)) s := ⟨nv, _, rfl, hnv, ⟨sad, scap, rfl, hs1, hs2, hs3⟩⟩
  rw [strs_len] at hst hs1 ⊢
  have HST := hid hst; have HS3 := hid hs3
  clear hst hs3 hnv
  have HTAB := hid ht
  clear ht
  have HNUM := hid (s.num_bd hn)
  have HWORD := hid (s.word_bd _ hss)
  clear hn hss
  obtain ⟨hN, hT, hwl⟩ := row_small K
  have htm : timesOf (rowOf K) s ≤ 1048576 := by unfold timesOf; split <;> omega
  have HTM : Hid (timesOf (rowOf K) s = if (rowOf K).a then s.ss.length else 1) := rfl
  have HBD := fun k a c hk ha hc => hid (acc_bd (rowOf K).word s (rowOf K).n (rowOf K).s k a c hwl HNUM.out HWORD.out hN hT hk ha hc)
  have HK := hid hK; have HRR := hid hrr; have HO := hid ho
  have HST1 := hid (show s.cells nv (.slice sad s.ss.length scap) = #[.int .i64 K, nv, .slice sad s.ss.length scap, .int .i64 s.w, .int .i64 s.c, .int .i64 s.m] by unfold StepM.cells; rw [hK])
  unfold StepM.cells
  rw [hK]
  clear hK ho hrr hK2
  go_enter Tryd.func22, Tryd.ntmps22
  go_wp2_with fail
  refine (row_c K hK0 hK1 _).mono ?_
  rintro e w1 ⟨rfl, hb1⟩
  rw [HRR.out]
  unfold RowM.cells
  rw [HO.out]
  have hE0 : w1.heap[w.heap.size]? = some (.cells (s.cells nv (.slice sad s.ss.length scap)) 32 (0, 0)) := by
    rw [hb1.block _ (by rw [World.size_alloc]; omega), HST1.out]; exact heap_alloc_new w _
  have hB0 : Below w.heap.size w w1 := (below_allocW w _).trans (hb1.mono (by rw [World.size_alloc]; omega))
  have hlt : w.heap.size < w1.heap.size := by have := hb1.size; rw [World.size_alloc] at this; omega
  obtain ⟨b0, b1, b2, b3, b4, b5⟩ := Boxes.step' hE0 HK.out
  have HE0 := hid hE0
  clear hE0 hb1
  have hr0 : ∀ ra : Bool, Below (w1.heap.size + 1) (w1.alloc (.cells #[.string (S (rowOf K).word), .int .i64 (rowOf K).n, .int .i64 (rowOf K).s, .bool false, .bool ra] 77)) (w1.alloc (.cells #[.string (S (rowOf K).word), .int .i64 (rowOf K).n, .int .i64 (rowOf K).s, .bool false, .bool ra] 77)) := fun _ => Below.refl _ _
  generalize hrA : (rowOf K).a = ra at *
  clear hrA
  obtain ⟨W0, hW0⟩ : ∃ W0 : World, W0 = w1.alloc (.cells #[.string (S (rowOf K).word), .int .i64 (rowOf K).n, .int .i64 (rowOf K).s, .bool false, .bool ra] 77) := ⟨_, rfl⟩
  have hBW : Below w.heap.size w W0 := by rw [hW0]; exact hB0.alloc (by omega) _
  have hzW : W0.heap.size = w1.heap.size + 1 := by rw [hW0, World.size_alloc]
  have hE0W : W0.heap[w.heap.size]? = some (.cells (s.cells nv (.slice sad s.ss.length scap)) 32 (0, 0)) := by rw [hW0, Below.heap_alloc _ _ _ hlt]; exact HE0.out
  have hE1W : W0.heap[w1.heap.size]? = some (.cells #[.string (S (rowOf K).word), .int .i64 (rowOf K).n, .int .i64 (rowOf K).s, .bool false, .bool ra] 77 (0, 0)) := by rw [hW0]; exact heap_alloc_new w1 _
  have HBW := hid hBW; have HZW := hid hzW; have HE0W := hid hE0W; have HE1W := hid hE1W; have HW0 := hid hW0
  clear hBW hzW hE0W hE1W hW0
  have facts : ∀ wr : World, Below (w1.heap.size + 1) W0 wr → (wr.cell? ⟨w.heap.size, 0, none⟩ = some (.int .i64 K) ∧ wr.cell? ⟨w.heap.size, 1, none⟩ = some nv ∧ wr.cell? ⟨w.heap.size, 2, none⟩ = some (.slice sad s.ss.length scap) ∧ wr.cell? ⟨w.heap.size, 3, none⟩ = some (.int .i64 s.w) ∧ wr.cell? ⟨w.heap.size, 4, none⟩ = some (.int .i64 s.c) ∧ wr.cell? ⟨w.heap.size, 5, none⟩ = some (.int .i64 s.m)) ∧
      wr.cell? ⟨w1.heap.size, 1, none⟩ = some (.int .i64 (rowOf K).n) ∧ wr.cell? ⟨w1.heap.size, 2, none⟩ = some (.int .i64 (rowOf K).s) ∧ Below w.heap.size w wr ∧ w1.heap.size + 1 ≤ wr.heap.size := by
    intro wr hb
    have e0 := (hb.block w.heap.size (by omega)).trans HE0W.out
    have e1 := (hb.block w1.heap.size (by omega)).trans HE1W.out
    refine ⟨Boxes.step' e0 HK.out, ?_, ?_, HBW.out.trans (hb.mono (by omega)), by have := hb.size; rw [HZW.out] at this; exact this⟩
    · rw [Lib.cell_of_heap e1]; rfl
    · rw [Lib.cell_of_heap e1]; rfl
  have FACTS := hid facts
  clear facts hr0
  cases ra
  all_goals
    go_wp2_with fail
    go_loopw [4, 6] (fun v i wr => ∃ k : Nat, k ≤ timesOf (rowOf K) s ∧ i = .int .i64 k ∧ v = .string (S (accL (rowOf K).word (body s (rowOf K).n (rowOf K).s k))) ∧ Below (w1.heap.size + 1) W0 wr) (fun _ i _ => timesOf (rowOf K) s - (RowKit.intOf i).toNat)
    case atStart => exact ⟨0, Nat.zero_le _, rfl, by simp [accL, body], by rw [HW0.out]; exact Below.refl _ _⟩
    case round =>
      obtain ⟨k, hk, rfl, rfl, hB⟩ := hrel
      obtain ⟨wo, rfl⟩ : ∃ wo : World, wo = wr := ⟨_, rfl⟩
      obtain ⟨_, c11, c12, _, _⟩ := FACTS.out _ hB
      clear b0 b1 b2 b3 b4 b5
      by_cases hlt2 : k < timesOf (rowOf K) s
      · first
          | (have hq : (k : Int) < 1 := by have h := HTM.out; simp only [Bool.false_eq_true, if_false] at h; omega)
          | (have hq : (k : Int) < (s.ss.length : Int) := by have h := HTM.out; simp only [if_true] at h; omega)
        have hkt : k + 1 ≤ timesOf (rowOf K) s := by omega
        have hkk : k ≤ 1048576 := by omega
        have HKT := hid hkt
        clear hlt2 hkt hk
        go_wp2_with fail
        go_loopw [4, 7] (fun v i wr => ∃ a : Nat, a ≤ (rowOf K).n ∧ i = .int .i64 a ∧ v = .string (S (accL (rowOf K).word (body s (rowOf K).n (rowOf K).s k ++ numsOf s (rowOf K).n k a))) ∧ Below (w1.heap.size + 1) W0 wr) (fun _ i _ => (rowOf K).n - (RowKit.intOf i).toNat)
        case atStart => exact ⟨0, Nat.zero_le _, rfl, by simp [numsOf], hB⟩
        case round =>
          clear hB c11 c12
          obtain ⟨a, hka, rfl, rfl, hB⟩ := hrel
          obtain ⟨⟨b0, b1, b2, b3, b4, b5⟩, c11, c12, hBw, hszr⟩ := FACTS.out _ hB
          have htl := (HBD k a 0 hkk hka (Nat.zero_le _)).out
          simp only [textsOf, List.range_zero, List.map_nil, List.append_nil] at htl
          obtain ⟨t, htt⟩ : ∃ t, t = accL (rowOf K).word (body s (rowOf K).n (rowOf K).s k ++ numsOf s (rowOf K).n k a) := ⟨_, rfl⟩
          rw [← htt] at htl ⊢
          have HTT := hid htt
          clear htt
          by_cases hla : a < (rowOf K).n
          · have hp0 : 0 ≤ (k : Int) * ((rowOf K).n : Int) := by rw [← Int.natCast_mul]; exact Int.natCast_nonneg _
            have hpn : k * (rowOf K).n ≤ 3145728 := Nat.le_trans (Nat.mul_le_mul hkk hN) (by omega)
            have hp1 : (k : Int) * ((rowOf K).n : Int) ≤ 3145728 := by rw [← Int.natCast_mul]; exact Int.ofNat_le.2 hpn
            have HPN := hid hpn
            clear hpn
            have hst1 : StepIs wr #[.int .i64 K, nv, .slice sad s.ss.length scap, .int .i64 s.w, .int .i64 s.c, .int .i64 s.m] s := by
              have := HST.out.below hBw (Nat.le_refl _)
              rw [HST1.out] at this
              exact this
            have HSTR := hid hst1
            have HTABR := hid (HTAB.out.below hBw (Nat.le_refl _))
            clear hst1
            go_wp2_with fail
            refine (Number_i _ _ s _ (k * (rowOf K).n + a) (by rw [Int.natCast_add, Int.natCast_mul]) HSTR.out (by have := HPN.out; omega)).mono ?_
            rintro e w2 ⟨rfl, hb2⟩
            obtain ⟨x, hx⟩ : ∃ x, x = s.num (k * (rowOf K).n + a) := ⟨_, rfl⟩
            rw [← hx]
            have hxb := HNUM.out (k * (rowOf K).n + a)
            rw [← hx] at hxb
            have HX := hid hx
            have hil := itoa_len x hxb.1 hxb.2
            clear hx
            go_wp2_with fail
            refine (itoa_c x _ hxb.1 hxb.2 (HTABR.out.below hb2 (Nat.le_refl _))).mono ?_
            rintro e w3 ⟨rfl, hb3⟩
            have HB3 := hid ((hB.trans (hb2.mono hszr)).trans (hb3.mono (by have := hb2.size; omega)))
            clear hb2 hb3 hB b0 b1 b2 b3 b4 b5 c11 c12
            go_wp2_with fail
            refine ⟨⟨a + 1, by omega, by go_num, ?_, HB3.out⟩, by simp [RowKit.intOf]; omega⟩
            rw [nums_succ, ← List.append_assoc, accL_snoc, ← HTT.out, ← HX.out]
            simp only [S_app]
          · have hea : a = (rowOf K).n := by omega
            subst hea
            clear hka hla htl
            have HTT' := HTT
            obtain ⟨wi, rfl⟩ : ∃ wi : World, wi = wr := ⟨_, rfl⟩
            go_wp2_with fail
            go_loopw [4, 8] (fun v i wr => ∃ a : Nat, a ≤ (rowOf K).s ∧ i = .int .i64 a ∧ v = .string (S (accL (rowOf K).word (body s (rowOf K).n (rowOf K).s k ++ numsOf s (rowOf K).n k (rowOf K).n ++ textsOf s (rowOf K).s k a))) ∧ Below (w1.heap.size + 1) W0 wr) (fun _ i _ => (rowOf K).s - (RowKit.intOf i).toNat)
            case atStart => exact ⟨0, Nat.zero_le _, rfl, by rw [HTT.out]; simp [textsOf], hB⟩
            case round =>
              clear hB b0 b1 b2 b3 b4 b5 c11 c12
              obtain ⟨a, hka, rfl, rfl, hB⟩ := hrel
              obtain ⟨⟨b0, b1, b2, b3, b4, b5⟩, c11, c12, hBw', hszr'⟩ := FACTS.out _ hB
              have htl := (HBD k (rowOf K).n a hkk (Nat.le_refl _) hka).out
              obtain ⟨u, huu⟩ : ∃ u, u = accL (rowOf K).word (body s (rowOf K).n (rowOf K).s k ++ numsOf s (rowOf K).n k (rowOf K).n ++ textsOf s (rowOf K).s k a) := ⟨_, rfl⟩
              rw [← huu] at htl ⊢
              have HUU := hid huu
              clear huu
              by_cases hla : a < (rowOf K).s
              · have hp0 : 0 ≤ (k : Int) * ((rowOf K).s : Int) := by rw [← Int.natCast_mul]; exact Int.natCast_nonneg _
                have hpn : k * (rowOf K).s ≤ 3145728 := Nat.le_trans (Nat.mul_le_mul hkk hT) (by omega)
                have hp1 : (k : Int) * ((rowOf K).s : Int) ≤ 3145728 := by rw [← Int.natCast_mul]; exact Int.ofNat_le.2 hpn
                have HPN := hid hpn
                clear hpn
                have hst1 : StepIs wr #[.int .i64 K, nv, .slice sad s.ss.length scap, .int .i64 s.w, .int .i64 s.c, .int .i64 s.m] s := by
                  have := HST.out.below hBw' (Nat.le_refl _)
                  rw [HST1.out] at this
                  exact this
                have HSTR := hid hst1
                clear hst1
                go_wp2_with fail
                refine (Word_i _ _ s _ (k * (rowOf K).s + a) (by rw [Int.natCast_add, Int.natCast_mul]) HSTR.out (by have := HPN.out; omega)).mono ?_
                rintro e w2 ⟨rfl, hb2⟩
                obtain ⟨x, hx⟩ : ∃ x, x = s.word (k * (rowOf K).s + a) := ⟨_, rfl⟩
                rw [← hx]
                have hxb := HWORD.out (k * (rowOf K).s + a)
                rw [← hx] at hxb
                have HX := hid hx
                have hil := esc_len x.data.toList
                rw [size_list] at hil
                clear hx
                go_wp2_with fail
                refine (Escape_c x _ (by omega)).mono ?_
                rintro e w3 ⟨rfl, hb3⟩
                have HB3 := hid ((hB.trans (hb2.mono hszr')).trans (hb3.mono (by have := hb2.size; omega)))
                clear hb2 hb3 hB b0 b1 b2 b3 b4 b5 c11 c12
                obtain ⟨y, hy⟩ : ∃ y, y = esc x.data.toList := ⟨_, rfl⟩
                rw [← hy] at hil ⊢
                have HY := hid hy
                clear hy
                go_wp2_with fail
                refine ⟨⟨a + 1, by omega, by go_num, ?_, HB3.out⟩, by simp [RowKit.intOf]; omega⟩
                rw [texts_succ, ← List.append_assoc, accL_snoc, ← HUU.out, ← HX.out, ← HY.out]
                simp only [S_app]
              · have hea : a = (rowOf K).s := by omega
                subst hea
                clear hka hla htl
                have hq2 : timesOf (rowOf K) s - (k + 1) < timesOf (rowOf K) s - k := by have := HKT.out; omega
                have HQ2 := hid hq2
                clear hq2
                go_wp2_with fail
                refine ⟨⟨k + 1, HKT.out, by go_num, ?_, hB⟩, by have h := HQ2.out; simp [RowKit.intOf]; omega⟩
                rw [HUU.out, body_succ, grp, List.append_assoc]
      · have hek : k = timesOf (rowOf K) s := by omega
        first
          | (have hq : ¬ (k : Int) < 1 := by have h := HTM.out; simp only [Bool.false_eq_true, if_false] at h; omega)
          | (have hq : ¬ (k : Int) < (s.ss.length : Int) := by have h := HTM.out; simp only [if_true] at h; omega)
        have htl := (HBD k 0 0 (by omega) (Nat.zero_le _) (Nat.zero_le _)).out
        simp only [textsOf, numsOf, List.range_zero, List.map_nil, List.append_nil] at htl
        have hfin : S (accL (rowOf K).word (body s (rowOf K).n (rowOf K).s k)) ++ S [10] = S (accL (rowOf K).word (body s (rowOf K).n (rowOf K).s (timesOf (rowOf K) s)) ++ [10]) := by rw [S_app, hek]
        obtain ⟨t, htt⟩ : ∃ t, t = accL (rowOf K).word (body s (rowOf K).n (rowOf K).s k) := ⟨_, rfl⟩
        rw [← htt] at htl hfin ⊢
        have HFIN := hid hfin
        have HBF := hid (FACTS.out _ hB).2.2.2.1
        clear htt hfin hek hk
        go_wp2_with fail
        go_ret
        exact ⟨by rw [← HFIN.out]; rfl, HBF.out⟩
end Go.Proofs.YtijlfggficjamaaDoor
