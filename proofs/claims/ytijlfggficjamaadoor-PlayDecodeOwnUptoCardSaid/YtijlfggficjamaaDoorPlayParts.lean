/- The contract of play.parts: the words of a step. -/
import Derived.Test.YtijlfggficjamaaDoorPlayItoa
import Derived.Deep.AppendLies
import Derived.Laws.CopyOwn
namespace Go.Proofs.YtijlfggficjamaaDoor
set_option linter.unusedVariables false
set_option linter.unusedSimpArgs false
open Go Go.RowKit
open Go.Lib (hid)

/-- the program's table of steps is laid -/
def Tbl (w : World) : Prop := ∀ k, k < 24 → ∀ (j : Nat) x, (rowOf k).cells[j]? = some x → w.cell? ⟨0, k * 5 + j, none⟩ = some x
theorem Tbl.lt {w : World} (h : Tbl w) : 0 < w.heap.size := World.block_lt_of_cell? w _ (h 0 (by omega) 0 _ rfl)
theorem Tbl.below {w w' : World} (h : Tbl w) {B : Nat} (hb : Below B w w') (hB : w.heap.size ≤ B) : Tbl w' := fun k hk j x hx =>
  (hb.cell (p := ⟨0, k * 5 + j, none⟩) (Nat.lt_of_lt_of_le h.lt hB)).trans (h k hk j x hx)
def LS (l : List (List UInt8)) : List Value := l.map fun x => Value.string (S x)
theorem LS_len (l : List (List UInt8)) : (LS l).length = l.length := by simp [LS]
theorem LS_snoc (l : List (List UInt8)) (x : List UInt8) : LS l ++ [.string (S x)] = LS (l ++ [x]) := by simp [LS]
theorem infoStr : (Tryd.prog.info? 9).map (fun i => (i.zero, i.size, i.bytes)) = some (some (.string ⟨#[]⟩), 1, 16) := by kernel_rfl

/-- the two boxes that parts makes of the step and of its row -/
def Boxes (W : World) (B K : Nat) (nv sv : Value) (s : StepM) : Prop :=
  W.heap.size = B + 2 ∧ W.heap[B]? = some (.cells (StepM.cells s nv sv) 52 (0, 0)) ∧ W.heap[B + 1]? = some (.cells (rowOf K).cells.toArray 70 (0, 0))

theorem Boxes.step {W : World} {B K : Nat} {nv sv : Value} {s : StepM} (hb1 : W.heap[B]? = some (.cells (StepM.cells s nv sv) 52 (0, 0))) (hk : s.kind = (K : Int)) :
    W.cell? ⟨B, 0, none⟩ = some (.int .i64 K) ∧ W.cell? ⟨B, 1, none⟩ = some nv ∧ W.cell? ⟨B, 2, none⟩ = some sv ∧ W.cell? ⟨B, 3, none⟩ = some (.int .i64 s.w) ∧ W.cell? ⟨B, 4, none⟩ = some (.int .i64 s.c) ∧ W.cell? ⟨B, 5, none⟩ = some (.int .i64 s.m) := by
  rw [StepM.cells, hk] at hb1
  refine ⟨?_, ?_, ?_, ?_, ?_, ?_⟩ <;> (rw [Lib.cell_of_heap hb1]; rfl)
theorem Boxes.step' {W : World} {B K : Nat} {nv sv : Value} {s : StepM} {T : TypeId} (hb1 : W.heap[B]? = some (.cells (StepM.cells s nv sv) T (0, 0))) (hk : s.kind = (K : Int)) :
    W.cell? ⟨B, 0, none⟩ = some (.int .i64 K) ∧ W.cell? ⟨B, 1, none⟩ = some nv ∧ W.cell? ⟨B, 2, none⟩ = some sv ∧ W.cell? ⟨B, 3, none⟩ = some (.int .i64 s.w) ∧ W.cell? ⟨B, 4, none⟩ = some (.int .i64 s.c) ∧ W.cell? ⟨B, 5, none⟩ = some (.int .i64 s.m) := by
  rw [StepM.cells, hk] at hb1
  refine ⟨?_, ?_, ?_, ?_, ?_, ?_⟩ <;> (rw [Lib.cell_of_heap hb1]; rfl)
theorem one_new (w : World) (x : Value) (e : TypeId) : ∀ (j : Nat) u, [x][j]? = some u → (w.alloc (.cells #[x] e)).cell? ((⟨w.heap.size, 0, none⟩ : Addr).add j) = some u := by
  intro j u hj
  match j, hj with
  | 0, hj => simp at hj; subst hj; simp [Addr.add, World.cell?_alloc_at]

theorem parts_start (w : World) (C0 C1 : Array Value) (t0 t1 e : TypeId) (x : Value) :
    (((w.alloc (.cells C0 t0)).alloc (.cells C1 t1)).alloc (.cells #[x] e)).ownsRow (w.heap.size + 2) e 1 (.slice (some ⟨w.heap.size + 1 + 1, 0, none⟩) 1 1) 1 [x] ∧
    Below w.heap.size w ((w.alloc (.cells C0 t0)).alloc (.cells C1 t1)) ∧ Below (w.heap.size + 2) ((w.alloc (.cells C0 t0)).alloc (.cells C1 t1)) (((w.alloc (.cells C0 t0)).alloc (.cells C1 t1)).alloc (.cells #[x] e)) := by
  have hsz : ((w.alloc (.cells C0 t0)).alloc (.cells C1 t1)).heap.size = w.heap.size + 2 := by simp
  refine ⟨?_, ((Below.refl _ _).alloc (Nat.le_refl _) _).alloc (by simp) _, (Below.refl _ _).alloc (by rw [hsz]; exact Nat.le_refl _) _⟩
  have := World.ownsRow_lit (base := w.heap.size + 2) (e := e) (size := 1) ((w.alloc (.cells C0 t0)).alloc (.cells C1 t1)) #[x] 1 (by rw [hsz]; exact Nat.le_refl _) (by unfold maxLen; omega) rfl
  rw [hsz] at this
  exact this

theorem rowOf_owns {w1 : World} {base : Nat} {v : Value} {n : Nat} {L : List (List UInt8)} (h : w1.ownsRow base 9 1 v n (LS L)) (hn : n = L.length) : RowOf w1 v (LS L) := by
  subst hn
  rcases h.2 with ⟨rfl, h0⟩ | ⟨g, cap, cur, rfl, hg, hh, h1, h2, h3, h4⟩
  · have : L = [] := List.length_eq_zero_iff.1 h0
    subst this
    exact RowOf.nil _
  · refine ⟨some ⟨g, 0, none⟩, cap, by rw [LS_len], by rw [LS_len]; exact h1, h2, fun _ => ⟨g, 0, rfl, fun i x hx => ?_⟩⟩
    have hi : i < L.length := by
      rcases Nat.lt_or_ge i (LS L).length with h' | h'
      · rwa [LS_len] at h'
      · rw [List.getElem?_eq_none h'] at hx; cases hx
    have := h.cellAt i (by omega)
    rw [Nat.zero_add, this, hx]
theorem parts_end {w W0 w1 : World} {v : Value} {n : Nat} {L : List (List UInt8)} (h : w1.ownsRow (w.heap.size + 2) 9 1 v n (LS L)) (hB0 : Below w.heap.size w W0) (hb : Below (w.heap.size + 2) W0 w1) (hn : n = L.length) :
    RowOf w1 v (LS L) ∧ Below w.heap.size w w1 :=
  ⟨rowOf_owns h hn, hB0.trans (hb.mono (by omega))⟩

set_option maxRecDepth 100000 in
set_option maxHeartbeats 4000000 in
theorem parts_c (w : World) (cs : Array Value) (s : StepM) (K : Nat) (hK : s.kind = (K : Int)) (hK1 : K < 24) (hs : StepIs w cs s) (ht : Tab w) (hr : Tbl w)
    (hn : ∀ x ∈ s.ns, -9223372036854775808 ≤ x ∧ x ≤ 9223372036854775807) (hl : s.ss.length ≤ 1048576) (hss : ∀ x ∈ s.ss, x.size ≤ 1048576)
    (ho : (rowOf K).o = false) :
    Calls Tryd.prog 20 #[.agg cs] w fun e w' => ∃ v, e = .returned v ∧ RowOf w' v (LS (partsL s)) ∧ Below w.heap.size w w' := by
  have hP : partsL s = (rowOf K).word :: body s (rowOf K).n (rowOf K).s (timesOf (rowOf K) s) := by
    unfold partsL; rw [hK]; simp [ho]
  rw [hP]
  clear hP
  obtain ⟨nv, sv, rfl, hnv, ⟨sad, scap, rfl, hs1, hs2, hs3⟩⟩ := hs
  have hst : StepIs w (s.cells nv (.slice sad (strs s.ss).length scap)) s := ⟨nv, _, rfl, hnv, ⟨sad, scap, rfl, hs1, hs2, hs3⟩⟩
  rw [strs_len] at hst hs1 ⊢
  have HST := hid hst; have HS3 := hid hs3
  clear hst hs3 hnv
  obtain ⟨i0, hi, hz0, hz1, hz2⟩ := info_parts infoStr
  have hgl := hr.lt
  have HTAB := hid ht
  clear ht
  have r0 := hr K hK1 0 _ rfl
  have r1 := hr K hK1 1 _ rfl
  have r2 := hr K hK1 2 _ rfl
  have r3 := hr K hK1 3 _ rfl
  have r4 := hr K hK1 4 _ rfl
  simp only [RowM.cells, Nat.add_zero] at r0 r1 r2 r3 r4
  rw [ho] at r3
  have HNUM := hid (s.num_bd hn)
  have HWORD := hid (s.word_bd _ hss)
  clear hr hn hss
  obtain ⟨hN, hT, _⟩ := row_small K
  have htm : timesOf (rowOf K) s ≤ 1048576 := by unfold timesOf; split <;> omega
  have HTM : Hid (timesOf (rowOf K) s = if (rowOf K).a then s.ss.length else 1) := rfl
  have HK := hid hK
  have hbox : ∀ C0 : Array Value, C0 = StepM.cells s nv (.slice sad s.ss.length scap) → Boxes ((w.alloc (.cells C0 52)).alloc (.cells #[.string (S (rowOf K).word), .int .i64 (rowOf K).n, .int .i64 (rowOf K).s, .bool false, .bool (rowOf K).a] 70)) w.heap.size K nv (.slice sad s.ss.length scap) s := by
    rintro C0 rfl
    refine ⟨by simp, heap_alloc2_old _ _ _, ?_⟩
    rw [heap_alloc2_new]
    simp [RowM.cells, ho]
  have HBOX := hid hbox
  clear hbox
  unfold StepM.cells
  rw [hK]
  clear hK ho
  generalize hrA : (rowOf K).a = ra at *
  clear hrA
  cases ra
  all_goals
    go_enter Tryd.func20, Tryd.ntmps20
    go_wp2_with fail
    go_loopw [4, 44] (fun v i wr => ∃ k : Nat, k ≤ timesOf (rowOf K) s ∧ i = .int .i64 k ∧ wr.ownsRow (w.heap.size + 2) 9 1 v (1 + k * ((rowOf K).n + (rowOf K).s)) (LS ((rowOf K).word :: body s (rowOf K).n (rowOf K).s k)) ∧
        ∃ W0, Boxes W0 w.heap.size K nv (.slice sad s.ss.length scap) s ∧ Below w.heap.size w W0 ∧ Below (w.heap.size + 2) W0 wr) (fun _ i _ => timesOf (rowOf K) s - (RowKit.intOf i).toNat)
    case atStart =>
      exact ⟨0, Nat.zero_le _, rfl, by rw [Nat.zero_mul, Nat.add_zero]; exact (parts_start _ _ _ _ _ _ _).1, _, HBOX.out #[.int .i64 K, nv, .slice sad s.ss.length scap, .int .i64 s.w, .int .i64 s.c, .int .i64 s.m] (by unfold StepM.cells; rw [HK.out]), (parts_start _ _ _ _ _ 9 (.bool true)).2.1, (parts_start _ _ _ _ _ _ _).2.2⟩
    case round =>
      obtain ⟨k, hk, rfl, hown, W0, ⟨hz, hb0, hb1⟩, hB0, hB⟩ := hrel
      obtain ⟨wo, rfl⟩ : ∃ wo : World, wo = wr := ⟨_, rfl⟩
      have hsz := hB.size
      rw [hz] at hsz
      have e0 : wo.heap[w.heap.size]? = _ := (hB.block _ (by omega)).trans hb0
      have e1 : wo.heap[w.heap.size + 1]? = _ := (hB.block _ (by omega)).trans hb1
      have c11 : wo.cell? ⟨w.heap.size + 1, 1, none⟩ = some (.int .i64 (rowOf K).n) := by rw [Lib.cell_of_heap e1]; rfl
      have c12 : wo.cell? ⟨w.heap.size + 1, 2, none⟩ = some (.int .i64 (rowOf K).s) := by rw [Lib.cell_of_heap e1]; rfl
      have HB0 := hid hb0; have HB1 := hid hb1; have HE0 := hid e0; have HE1 := hid e1; have HZ := hid hz
      clear hb0 hb1 e0 e1 hz
      by_cases hlt : k < timesOf (rowOf K) s
      · first
          | (have hq : (k : Int) < 1 := by have h := HTM.out; simp only [Bool.false_eq_true, if_false] at h; omega)
          | (have hq : (k : Int) < (s.ss.length : Int) := by have h := HTM.out; simp only [if_true] at h; omega)
        clear hlt
        go_wp2_with fail
        go_loopw [4, 49] (fun v i wr => ∃ a : Nat, a ≤ (rowOf K).n ∧ i = .int .i64 a ∧ wr.ownsRow (w.heap.size + 2) 9 1 v (1 + k * ((rowOf K).n + (rowOf K).s) + a) (LS ((rowOf K).word :: body s (rowOf K).n (rowOf K).s k ++ numsOf s (rowOf K).n k a)) ∧ Below (w.heap.size + 2) W0 wr) (fun _ i _ => (rowOf K).n - (RowKit.intOf i).toNat)
        case atStart => exact ⟨0, Nat.zero_le _, rfl, by simpa [numsOf] using hown, hB⟩
        case round =>
          obtain ⟨a, hka, rfl, hown1, hB1⟩ := hrel
          have hsz1 := hB1.size
          rw [HZ.out] at hsz1
          have E0 : wr.heap[w.heap.size]? = _ := (hB1.block _ (by omega)).trans HB0.out
          have E1 : wr.heap[w.heap.size + 1]? = _ := (hB1.block _ (by omega)).trans HB1.out
          obtain ⟨b0, b1, b2, b3, b4, b5⟩ := Boxes.step E0 HK.out
          have c11 : wr.cell? ⟨w.heap.size + 1, 1, none⟩ = some (.int .i64 (rowOf K).n) := by rw [Lib.cell_of_heap E1]; rfl
          have c12 : wr.cell? ⟨w.heap.size + 1, 2, none⟩ = some (.int .i64 (rowOf K).s) := by rw [Lib.cell_of_heap E1]; rfl
          clear E0 E1
          by_cases hla : a < (rowOf K).n
          · have hp0 : 0 ≤ (k : Int) * ((rowOf K).n : Int) := by rw [← Int.natCast_mul]; exact Int.natCast_nonneg _
            have hpn : k * (rowOf K).n ≤ 3145728 := Nat.le_trans (Nat.mul_le_mul (Nat.le_of_lt_succ (by omega : k < 1048576 + 1)) hN) (by omega)
            have hp1 : (k : Int) * ((rowOf K).n : Int) ≤ 3145728 := by rw [← Int.natCast_mul]; exact Int.ofNat_le.2 hpn
            have HPN := hid hpn
            clear hpn
            have hst1 : StepIs wr #[.int .i64 K, nv, .slice sad s.ss.length scap, .int .i64 s.w, .int .i64 s.c, .int .i64 s.m] s := by
              have := HST.out.below (hB0.trans (hB1.mono (by omega))) (Nat.le_refl _)
              rw [StepM.cells, HK.out] at this
              exact this
            have HST1 := hid hst1
            have HTAB1 := hid (HTAB.out.below (hB0.trans (hB1.mono (by omega))) (Nat.le_refl _))
            clear hst1
            go_wp2_with fail
            refine (n_i _ _ s _ (k * (rowOf K).n + a) (by rw [Int.natCast_add, Int.natCast_mul]) HST1.out (by have := HPN.out; omega)).mono ?_
            rintro e w1 ⟨rfl, hb1⟩
            obtain ⟨x, hx⟩ : ∃ x, x = s.num (k * (rowOf K).n + a) := ⟨_, rfl⟩
            rw [← hx]
            have hxb := HNUM.out (k * (rowOf K).n + a)
            rw [← hx] at hxb
            have HX := hid hx
            clear hx
            go_wp2_with fail
            refine (itoa_c x _ hxb.1 hxb.2 (HTAB1.out.below hb1 (Nat.le_refl _))).mono ?_
            rintro e w2 ⟨rfl, hb2⟩
            have hbb := hB1.trans (hb1.mono (by omega))
            have hown2 := ownsRow_below hown1 hb1
            have hz2' := hb1.size
            have hown3 := ownsRow_below hown2 hb2
            have hb3 := hbb.trans (hb2.mono (by omega))
            have hz3 := hb2.size
            clear hbb hown2 hown1 hown hb1 hb2 hB1 b0 b1 b2 b3 b4 b5 c11 c12
            have hlen : 1 + k * ((rowOf K).n + (rowOf K).s) + a ≤ 8388608 := by
              have : k * ((rowOf K).n + (rowOf K).s) ≤ 1048576 * 4 := Nat.mul_le_mul (by omega) (by omega)
              omega
            have HLEN := hid hlen
            clear hlen
            go_wp2_with (at_builtin; refine wpList_append_own _ rfl _ _ 28 rfl (w.heap.size + 2) 9 i0 (.string ⟨#[]⟩) 1 16 Tryd.underlying28 hi hz0 hz1 hz2 rfl (by decide) _ _ _ rfl (hown3.alloc _) ⟨w2.heap.size, 0, none⟩ 1 1 [.string (S (Lib.itoa x))] rfl rfl (one_new _ _ _) (by intro u hu; simp at hu; subst hu; rfl) (by have := HLEN.out; unfold maxLen; omega) (by have := HLEN.out; omega) (by rw [World.size_alloc]; omega) ?_)
            intro v' w3 hown4 hgrow _
            have hbA := (hb3.alloc (by omega) (.cells #[.string (S (Lib.itoa x))] 9)).grown hgrow (by rw [World.size_alloc]; omega) (fun k hk => (hown3.lt k hk).1)
            have HBA := hid hbA; have HOA := hid hown4
            clear hbA hown4 hgrow hown3 hb3
            go_wp2_with fail
            refine ⟨⟨a + 1, by omega, by go_num, ?_, HBA.out⟩, by simp [RowKit.intOf]; omega⟩
            have := HOA.out
            rw [LS_snoc, HX.out, List.cons_append, List.append_assoc, ← nums_succ] at this
            exact this
          · have hea : a = (rowOf K).n := by omega
            subst hea
            have C11 := hid c11
            clear hka hla hown hB hsz1
            obtain ⟨wi, rfl⟩ : ∃ wi : World, wi = wr := ⟨_, rfl⟩
            go_wp2_with fail
            go_loopw [4, 67] (fun v i wr => ∃ a : Nat, a ≤ (rowOf K).s ∧ i = .int .i64 a ∧ wr.ownsRow (w.heap.size + 2) 9 1 v (1 + k * ((rowOf K).n + (rowOf K).s) + (rowOf K).n + a) (LS ((rowOf K).word :: body s (rowOf K).n (rowOf K).s k ++ numsOf s (rowOf K).n k (rowOf K).n ++ textsOf s (rowOf K).s k a)) ∧ Below (w.heap.size + 2) W0 wr) (fun _ i _ => (rowOf K).s - (RowKit.intOf i).toNat)
            case atStart => exact ⟨0, Nat.zero_le _, rfl, by simpa [textsOf] using hown1, hB1⟩
            case round =>
              clear hown1 hB1 b0 b1 b2 b3 b4 b5 c11 c12
              obtain ⟨a, hka, rfl, hown1, hB1⟩ := hrel
              have hsz1 := hB1.size
              rw [HZ.out] at hsz1
              have E0 : wr.heap[w.heap.size]? = _ := (hB1.block _ (by omega)).trans HB0.out
              have E1 : wr.heap[w.heap.size + 1]? = _ := (hB1.block _ (by omega)).trans HB1.out
              obtain ⟨b0, b1, b2, b3, b4, b5⟩ := Boxes.step E0 HK.out
              have c12 : wr.cell? ⟨w.heap.size + 1, 2, none⟩ = some (.int .i64 (rowOf K).s) := by rw [Lib.cell_of_heap E1]; rfl
              clear E0 E1
              by_cases hla : a < (rowOf K).s
              · have hp0 : 0 ≤ (k : Int) * ((rowOf K).s : Int) := by rw [← Int.natCast_mul]; exact Int.natCast_nonneg _
                have hpn : k * (rowOf K).s ≤ 3145728 := Nat.le_trans (Nat.mul_le_mul (Nat.le_of_lt_succ (by omega : k < 1048576 + 1)) hT) (by omega)
                have hp1 : (k : Int) * ((rowOf K).s : Int) ≤ 3145728 := by rw [← Int.natCast_mul]; exact Int.ofNat_le.2 hpn
                have HPN := hid hpn
                clear hpn
                have hst1 : StepIs wr #[.int .i64 K, nv, .slice sad s.ss.length scap, .int .i64 s.w, .int .i64 s.c, .int .i64 s.m] s := by
                  have := HST.out.below (hB0.trans (hB1.mono (by omega))) (Nat.le_refl _)
                  rw [StepM.cells, HK.out] at this
                  exact this
                have HST1 := hid hst1
                clear hst1
                go_wp2_with fail
                refine (s_i _ _ s _ (k * (rowOf K).s + a) (by rw [Int.natCast_add, Int.natCast_mul]) HST1.out (by have := HPN.out; omega)).mono ?_
                rintro e w1 ⟨rfl, hb1⟩
                obtain ⟨x, hx⟩ : ∃ x, x = s.word (k * (rowOf K).s + a) := ⟨_, rfl⟩
                rw [← hx]
                have hxb := HWORD.out (k * (rowOf K).s + a)
                rw [← hx] at hxb
                have HX := hid hx
                clear hx
                go_wp2_with fail
                refine (escaped_c x _ (by omega)).mono ?_
                rintro e w2 ⟨rfl, hb2⟩
                have hbb := hB1.trans (hb1.mono (by omega))
                have hown2 := ownsRow_below hown1 hb1
                have hz2' := hb1.size
                have hown3 := ownsRow_below hown2 hb2
                have hb3 := hbb.trans (hb2.mono (by omega))
                have hz3 := hb2.size
                clear hbb hown2 hown1 hb1 hb2 hB1 b0 b1 b2 b3 b4 b5 c12
                have hlen : 1 + k * ((rowOf K).n + (rowOf K).s) + (rowOf K).n + a ≤ 8388608 := by
                  have : k * ((rowOf K).n + (rowOf K).s) ≤ 1048576 * 4 := Nat.mul_le_mul (by omega) (by omega)
                  omega
                have HLEN := hid hlen
                clear hlen
                go_wp2_with (at_builtin; refine wpList_append_own _ rfl _ _ 28 rfl (w.heap.size + 2) 9 i0 (.string ⟨#[]⟩) 1 16 Tryd.underlying28 hi hz0 hz1 hz2 rfl (by decide) _ _ _ rfl (hown3.alloc _) ⟨w2.heap.size, 0, none⟩ 1 1 [.string (S (esc x.data.toList))] rfl rfl (one_new _ _ _) (by intro u hu; simp at hu; subst hu; rfl) (by have := HLEN.out; unfold maxLen; omega) (by have := HLEN.out; omega) (by rw [World.size_alloc]; omega) ?_)
                intro v' w3 hown4 hgrow _
                have hbA := (hb3.alloc (by omega) (.cells #[.string (S (esc x.data.toList))] 9)).grown hgrow (by rw [World.size_alloc]; omega) (fun k hk => (hown3.lt k hk).1)
                have HBA := hid hbA; have HOA := hid hown4
                clear hbA hown4 hgrow hown3 hb3
                go_wp2_with fail
                refine ⟨⟨a + 1, by omega, by go_num, ?_, HBA.out⟩, by simp [RowKit.intOf]; omega⟩
                have := HOA.out
                rw [LS_snoc, HX.out] at this
                rw [texts_succ]
                rw [← Nat.add_assoc]
                simpa using this
              · have hea : a = (rowOf K).s := by omega
                subst hea
                clear hka hla
                have hkt : k + 1 ≤ timesOf (rowOf K) s := by have h := HTM.out; first | (simp only [Bool.false_eq_true, if_false] at h; omega) | (simp only [if_true] at h; omega)
                have hq2 : timesOf (rowOf K) s - (k + 1) < timesOf (rowOf K) s - k := by omega
                have HKT := hid hkt; have HQ2 := hid hq2
                clear hkt hq2
                go_wp2_with fail
                refine ⟨⟨k + 1, HKT.out, by go_num, ?_, W0, ⟨HZ.out, HB0.out, HB1.out⟩, hB0, hB1⟩, by have h := HQ2.out; simp [RowKit.intOf]; omega⟩
                rw [body_succ, Nat.succ_mul, grp]
                simpa [Nat.add_assoc] using hown1
      · have hek : k = timesOf (rowOf K) s := by omega
        first
          | (have hq : ¬ (k : Int) < 1 := by have h := HTM.out; simp only [Bool.false_eq_true, if_false] at h; omega)
          | (have hq : ¬ (k : Int) < (s.ss.length : Int) := by have h := HTM.out; simp only [if_true] at h; omega)
        have hend := parts_end hown hB0 hB (by simp [body_len]; omega)
        rw [hek] at hend
        have HEND := hid hend
        clear hend hown hB hek
        go_wp2_with fail
        go_ret
        exact ⟨_, rfl, HEND.out.1, HEND.out.2⟩
end Go.Proofs.YtijlfggficjamaaDoor
