/- Toward the contract of play.read: the table as one object, the world's facts, strconv.Atoi. -/
import Derived.Test.YtijlfggficjamaaDoorDecRef
import Derived.Laws.Rows
namespace Go.Proofs.YtijlfggficjamaaDoor
set_option linter.unusedVariables false
set_option linter.unusedSimpArgs false
open Go Go.RowKit
open Go.Lib (hid)

def allCells : Array Value := (rowTab.flatMap RowM.cells).toArray
def RowM.val (r : RowM) : Value := .agg #[.string (S r.word), .int .i64 r.n, .int .i64 r.s, .bool r.o, .bool r.a]
theorem idx_row : ∀ (k : Nat), k < 24 → ∀ W : World, (Instr.index 71 (.agg allCells) (.int .i64 k)).run Tryd.prog W = .ok (rowOf k).val W := by
  intro k hk W
  rcases (show k = 0 ∨ k = 1 ∨ k = 2 ∨ k = 3 ∨ k = 4 ∨ k = 5 ∨ k = 6 ∨ k = 7 ∨ k = 8 ∨ k = 9 ∨ k = 10 ∨ k = 11 ∨ k = 12 ∨ k = 13 ∨ k = 14 ∨ k = 15 ∨ k = 16 ∨ k = 17 ∨ k = 18 ∨ k = 19 ∨ k = 20 ∨ k = 21 ∨ k = 22 ∨ k = 23 by omega) with rfl | rfl | rfl | rfl | rfl | rfl | rfl | rfl | rfl | rfl | rfl | rfl | rfl | rfl | rfl | rfl | rfl | rfl | rfl | rfl | rfl | rfl | rfl | rfl
  all_goals kernel_rfl
/-- the variables that the readers look at -/
structure DEnv (w : World) : Prop where
  tab : Tab w
  tbl : Tbl w
  obj : ∃ t fr, w.heap[0]? = some (.cells allCells t fr)
  max : MaxOk w
  syn : ∃ tp p, w.var? Tryd.prog "strconv.ErrSyntax" = some #[.iface tp p]
  rng : ∃ tp p, w.var? Tryd.prog "strconv.ErrRange" = some #[.iface tp p]
theorem synG : Tryd.prog.globalNamed "strconv.ErrSyntax" = some 2 := by kernel_rfl
theorem rngG : Tryd.prog.globalNamed "strconv.ErrRange" = some 3 := by kernel_rfl
theorem var_lt {w : World} {n : String} {g : Nat} {cs : Array Value} (hg : Tryd.prog.globalNamed n = some g) (h : w.var? Tryd.prog n = some cs) : g < w.heap.size := by
  unfold World.var? at h
  rw [hg] at h
  simp only [Option.bind_some] at h
  rcases Nat.lt_or_ge g w.heap.size with h' | h'
  · exact h'
  · rw [Array.getElem?_eq_none h'] at h; simp at h
theorem DEnv.below {w w' : World} {B : Nat} (h : DEnv w) (hb : Below B w w') (hB : w.heap.size ≤ B) : DEnv w' := by
  obtain ⟨h1, h2, ⟨t, fr, h3⟩, h4, ⟨a, b, h5⟩, ⟨c, d, h6⟩⟩ := h
  exact ⟨h1.below hb hB, h2.below hb hB, ⟨t, fr, (hb.block _ (Nat.lt_of_lt_of_le (lt_of_block h3) hB)).trans h3⟩, h4.below hb hB,
    ⟨a, b, var?_below hb synG (Nat.lt_of_lt_of_le (var_lt synG h5) hB) h5⟩, ⟨c, d, var?_below hb rngG (Nat.lt_of_lt_of_le (var_lt rngG h6) hB) h6⟩⟩
theorem DEnv.st {w w' : World} {M : Frag} (h : DEnv w) (hS : St w w' M) : DEnv w' := h.below hS.below (Nat.le_refl _)
theorem atoi_yes {x : List UInt8} {v : Int} (h : Lib.atoiAll x = .ok v) (w : World) (hs : x.length ≤ 1000000000) :
    Calls Tryd.prog 46 #[.string (S x)] w fun e w' => e = .returned (.tuple #[.int .i64 v, .nilIface]) ∧ Below w.heap.size w w' := by
  refine (Tryd.strconv_Atoi_ok (S x) (by rw [S_size]; omega) v (by rw [S_list]; exact h) w).mono fun e w' ⟨he, hw⟩ => ⟨he, ?_⟩
  rcases hw with rfl | ⟨t, rfl⟩
  · exact Below.refl _ _
  · have h0 : Below w.heap.size w (w.drew.alloc (.cells (Lib.bytesCells w 5 t) 5)) := ((Below.refl _ _).drew).alloc (Nat.le_refl _) _
    have key : ∀ (W : World) (n : Nat), Below w.heap.size w W → Below w.heap.size w (W.freeze ⟨w.heap.size, n, none⟩ 1) := fun W n hW => by
      unfold World.freeze
      rw [if_neg (by decide)]
      refine ⟨hW.os, hW.tape, hW.output, by simpa using hW.size, fun k hk => ?_⟩
      simp only [Array.getElem?_modify]
      rw [if_neg (by omega)]
      exact hW.block k hk
    exact key _ _ h0
theorem atoi_no {x : List UInt8} (h : ∀ v, Lib.atoiAll x ≠ .ok v) (w : World) (hs : x.length ≤ 1000000000) (he : DEnv w) :
    Calls Tryd.prog 46 #[.string (S x)] w fun e w' => ∃ n N, e = .returned (.tuple #[.int .i64 n, .iface 103 (.pointer (some ⟨N, 0, none⟩))]) ∧ Below w.heap.size w w' := by
  rcases hx : Lib.atoiAll x with v | _ | _
  · exact absurd hx (h v)
  · obtain ⟨tp, p, hv⟩ := he.syn
    exact (Tryd.strconv_Atoi_syntax_var (S x) (by rw [S_size]; omega) (by rw [S_list]; exact hx) tp p w hv).mono fun e w' ⟨N, h1, _, _, h4⟩ => ⟨_, N, h1, h4⟩
  · obtain ⟨tp, p, hv⟩ := he.rng
    exact (Tryd.strconv_Atoi_range_var (S x) (by rw [S_size]; omega) (by rw [S_list]; exact hx) tp p w hv).mono fun e w' ⟨N, h1, _, _, h4⟩ => ⟨_, N, h1, h4⟩
theorem S_ne' (x : List UInt8) : (S x != S x) = false := by unfold bne; rw [S_beq']; simp
theorem S_neq {a b : List UInt8} (h : a ≠ b) : (S a != S b) = true := by unfold bne; rw [S_beq']; simp [h]
theorem atoi_rng {w : List UInt8} {x : Int} (hx : Lib.atoiAll w = .ok x) : -9223372036854775808 ≤ x ∧ x ≤ 9223372036854775807 := by
  cases w with
  | nil => cases hx
  | cons c r =>
    unfold Lib.atoiAll at hx
    simp only at hx
    split at hx
    · cases hx
    · cases hx
    · rename_i u hu
      by_cases c45 : c.toNat = 45
      · simp only [c45, not_true, false_and, if_false, true_and, if_true] at hx
        split at hx
        · cases hx
        · injection hx with hx; omega
      · simp only [c45, not_false_eq_true, true_and, if_false, false_and] at hx
        split at hx
        · cases hx
        · injection hx with hx; omega
/-- list[1:] -/
theorem cut_tail (w : World) (b0 o0 m cap : Nat) (l : List Value) (hm : l.length = m) (h1 : m + 1 ≤ cap) (h2 : cap ≤ maxLen) (hc : ∀ (i : Nat) x, l[i]? = some x → w.cell? ⟨b0, o0 + (i + 1), none⟩ = some x) :
    ∃ a1 c1, (∀ W : World, (Instr.slice 28 (.slice (some ⟨b0, o0, none⟩) (m + 1) cap) (some (.int .i64 1)) none none).run Tryd.prog W = .ok (.slice a1 m c1) W) ∧ RowOf w (.slice a1 m c1) l := by
  obtain ⟨i0, hi, hz0, hz1, hz2⟩ := info_parts infoStr
  have e1 : ((m + 1 : Nat) : Int) = (m : Int) + 1 := by omega
  by_cases hcap : cap = 1
  · subst hcap
    have hm0 : m = 0 := by omega
    subst hm0
    have hl : l = [] := List.length_eq_zero_iff.1 hm
    subst hl
    refine ⟨some ⟨b0, o0, none⟩, 0, fun W => ?_, ⟨_, _, rfl, Nat.le_refl _, by unfold maxLen; omega, fun h => absurd rfl h⟩⟩
    simp [Instr.slice, Instr.sliceBounds, run_underlying Tryd.underlying28, go_sem, sizeOf, typeInfo, hi, hz1]
  · refine ⟨some ⟨b0, o0 + 1, none⟩, cap - 1, fun W => ?_, ⟨some ⟨b0, o0 + 1, none⟩, cap - 1, by rw [hm], by omega, by omega, fun _ => ⟨b0, o0 + 1, rfl, fun i x hx => ?_⟩⟩⟩
    · have h0 : (1 : Int) ≤ (m : Int) + 1 := by omega
      have h3 : 1 ≤ m + 1 := by omega
      have h4 : 1 ≤ cap := by omega
      have h5 : (m : Int) + 1 ≤ (cap : Int) := by omega
      simp [Instr.slice, Instr.sliceBounds, run_underlying Tryd.underlying28, go_sem, sizeOf, typeInfo, hi, hz1, h0, h1, h3, h4, h5, hcap]
    · rw [Nat.add_assoc, Nat.add_comm 1 i]; exact hc i x hx
end Go.Proofs.YtijlfggficjamaaDoor
