/- Slices that read as lists; the k-th number and text of a step. -/
import Derived.Test.YtijlfggficjamaaDoorPlayEsc2
namespace Go.Proofs.YtijlfggficjamaaDoor
set_option linter.unusedVariables false
set_option linter.unusedSimpArgs false
open Go Go.RowKit
open Go.Lib (hid)

/-- the slice v, of one-cell elements, reads as vals -/
def RowOf (w : World) (v : Value) (vals : List Value) : Prop :=
  ∃ ad cap, v = .slice ad vals.length cap ∧ vals.length ≤ cap ∧ cap ≤ maxLen ∧
    (vals ≠ [] → ∃ b o, ad = some ⟨b, o, none⟩ ∧ ∀ (i : Nat) x, vals[i]? = some x → w.cell? ⟨b, o + i, none⟩ = some x)
theorem RowOf.nil (w : World) : RowOf w (.slice none 0 0) [] := ⟨none, 0, rfl, Nat.le_refl _, by unfold maxLen; omega, fun h => absurd rfl h⟩
theorem RowOf.below {w w' : World} {v : Value} {vals : List Value} {B : Nat} (h : RowOf w v vals) (hb : Below B w w') (hB : w.heap.size ≤ B) : RowOf w' v vals := by
  obtain ⟨ad, cap, rfl, h1, h2, h3⟩ := h
  refine ⟨ad, cap, rfl, h1, h2, fun hne => ?_⟩
  obtain ⟨b, o, e, hc⟩ := h3 hne
  refine ⟨b, o, e, fun i x hx => ?_⟩
  have := hc i x hx
  rw [hb.cell (p := ⟨b, o + i, none⟩) (Nat.lt_of_lt_of_le (World.block_lt_of_cell? w _ this) hB)]
  exact this
def ints (ns : List Int) : List Value := ns.map (Value.int .i64)
def strs (ss : List ByteArray) : List Value := ss.map Value.string
theorem ints_len (ns : List Int) : (ints ns).length = ns.length := by simp [ints]
theorem strs_len (ss : List ByteArray) : (strs ss).length = ss.length := by simp [strs]
theorem ints_get (ns : List Int) (i : Nat) (h : i < ns.length) : (ints ns)[i]? = some (.int .i64 (ns.getD i 0)) := by
  simp [ints, List.getElem?_map, List.getD_eq_getElem?_getD, h]
theorem strs_get (ss : List ByteArray) (i : Nat) (h : i < ss.length) : (strs ss)[i]? = some (.string (ss.getD i ByteArray.empty)) := by
  simp [strs, List.getElem?_map, List.getD_eq_getElem?_getD, h]

/-- a step, as data -/
structure StepM where
  kind : Int
  ns : List Int
  ss : List ByteArray
  w : Int
  c : Int
  m : Int
def StepM.cells (s : StepM) (nv sv : Value) : Array Value := #[.int .i64 s.kind, nv, sv, .int .i64 s.w, .int .i64 s.c, .int .i64 s.m]
/-- the struct's cells read as the step -/
def StepIs (w : World) (cs : Array Value) (s : StepM) : Prop := ∃ nv sv, cs = s.cells nv sv ∧ RowOf w nv (ints s.ns) ∧ RowOf w sv (strs s.ss)
theorem StepIs.below {w w' : World} {cs : Array Value} {s : StepM} {B : Nat} (h : StepIs w cs s) (hb : Below B w w') (hB : w.heap.size ≤ B) : StepIs w' cs s := by
  obtain ⟨nv, sv, rfl, h1, h2⟩ := h
  exact ⟨nv, sv, rfl, h1.below hb hB, h2.below hb hB⟩
def StepM.num (s : StepM) (k : Nat) : Int := s.ns.getD k 0
def StepM.word (s : StepM) (k : Nat) : ByteArray := s.ss.getD k ByteArray.empty
theorem getD_ge {α : Type} (l : List α) (k : Nat) (d : α) (h : l.length ≤ k) : l.getD k d = d := by
  simp [List.getD_eq_getElem?_getD, List.getElem?_eq_none h]

set_option maxRecDepth 100000 in
set_option maxHeartbeats 1000000 in
theorem n_c (w : World) (cs : Array Value) (s : StepM) (k : Nat) (hs : StepIs w cs s) (hk : (k : Int) ≤ 9223372036854775807) :
    Calls Tryd.prog 36 #[.agg cs, .int .i64 k] w fun e w' => e = .returned (.int .i64 (s.num k)) ∧ Below w.heap.size w w' := by
  obtain ⟨nv, sv, rfl, ⟨ad, cap, rfl, h1, h2, h3⟩, h4⟩ := hs
  unfold StepM.cells
  rw [ints_len] at h1 ⊢
  unfold maxLen at h2
  by_cases hlt : k < s.ns.length
  · obtain ⟨b, o, rfl, hc⟩ := h3 (by intro h; have := ints_len s.ns; rw [h] at this; simp at this; omega)
    have c1 := hc k _ (ints_get _ _ hlt)
    have hb : b < w.heap.size := World.block_lt_of_cell? w _ c1
    have hne : ¬ b = w.heap.size := by omega
    unfold StepM.num
    obtain ⟨x, hx⟩ : ∃ x, x = s.ns.getD k 0 := ⟨_, rfl⟩
    rw [← hx] at c1 ⊢
    clear hc h3 hx
    go_enter Tryd.func36, Tryd.ntmps36
    go_wp2_with fail
    go_ret
    exact ⟨rfl, (Below.refl _ _).alloc (Nat.le_refl _) _⟩
  · unfold StepM.num
    rw [getD_ge _ _ _ (by omega)]
    go_enter Tryd.func36, Tryd.ntmps36
    go_wp2_with fail
    go_ret
    exact ⟨rfl, (Below.refl _ _).alloc (Nat.le_refl _) _⟩

set_option maxRecDepth 100000 in
set_option maxHeartbeats 1000000 in
theorem Number_c (w : World) (cs : Array Value) (s : StepM) (k : Nat) (hs : StepIs w cs s) (hk : (k : Int) ≤ 9223372036854775807) :
    Calls Tryd.prog 40 #[.agg cs, .int .i64 k] w fun e w' => e = .returned (.int .i64 (s.num k)) ∧ Below w.heap.size w w' := by
  obtain ⟨nv, sv, rfl, ⟨ad, cap, rfl, h1, h2, h3⟩, h4⟩ := hs
  unfold StepM.cells
  rw [ints_len] at h1 ⊢
  unfold maxLen at h2
  by_cases hlt : k < s.ns.length
  · obtain ⟨b, o, rfl, hc⟩ := h3 (by intro h; have := ints_len s.ns; rw [h] at this; simp at this; omega)
    have c1 := hc k _ (ints_get _ _ hlt)
    have hb : b < w.heap.size := World.block_lt_of_cell? w _ c1
    unfold StepM.num
    obtain ⟨x, hx⟩ : ∃ x, x = s.ns.getD k 0 := ⟨_, rfl⟩
    rw [← hx] at c1 ⊢
    clear hc h3 hx
    go_enter Tryd.func40, Tryd.ntmps40
    go_wp2_with fail
    go_ret
    exact ⟨rfl, (Below.refl _ _).alloc (Nat.le_refl _) _⟩
  · unfold StepM.num
    rw [getD_ge _ _ _ (by omega)]
    go_enter Tryd.func40, Tryd.ntmps40
    go_wp2_with fail
    go_ret
    exact ⟨rfl, (Below.refl _ _).alloc (Nat.le_refl _) _⟩

set_option maxRecDepth 100000 in
set_option maxHeartbeats 1000000 in
theorem s_c (w : World) (cs : Array Value) (s : StepM) (k : Nat) (hs : StepIs w cs s) (hk : (k : Int) ≤ 9223372036854775807) :
    Calls Tryd.prog 38 #[.agg cs, .int .i64 k] w fun e w' => e = .returned (.string (s.word k)) ∧ Below w.heap.size w w' := by
  obtain ⟨nv, sv, rfl, h4, ⟨ad, cap, rfl, h1, h2, h3⟩⟩ := hs
  unfold StepM.cells
  rw [strs_len] at h1 ⊢
  unfold maxLen at h2
  by_cases hlt : k < s.ss.length
  · obtain ⟨b, o, rfl, hc⟩ := h3 (by intro h; have := strs_len s.ss; rw [h] at this; simp at this; omega)
    have c1 := hc k _ (strs_get _ _ hlt)
    have hb : b < w.heap.size := World.block_lt_of_cell? w _ c1
    unfold StepM.word
    obtain ⟨x, hx⟩ : ∃ x, x = s.ss.getD k ByteArray.empty := ⟨_, rfl⟩
    rw [← hx] at c1 ⊢
    clear hc h3 hx
    go_enter Tryd.func38, Tryd.ntmps38
    go_wp2_with fail
    go_ret
    exact ⟨rfl, (Below.refl _ _).alloc (Nat.le_refl _) _⟩
  · unfold StepM.word
    rw [getD_ge _ _ _ (by omega)]
    go_enter Tryd.func38, Tryd.ntmps38
    go_wp2_with fail
    go_ret
    exact ⟨rfl, (Below.refl _ _).alloc (Nat.le_refl _) _⟩

set_option maxRecDepth 100000 in
set_option maxHeartbeats 1000000 in
theorem Word_c (w : World) (cs : Array Value) (s : StepM) (k : Nat) (hs : StepIs w cs s) (hk : (k : Int) ≤ 9223372036854775807) :
    Calls Tryd.prog 42 #[.agg cs, .int .i64 k] w fun e w' => e = .returned (.string (s.word k)) ∧ Below w.heap.size w w' := by
  obtain ⟨nv, sv, rfl, h4, ⟨ad, cap, rfl, h1, h2, h3⟩⟩ := hs
  unfold StepM.cells
  rw [strs_len] at h1 ⊢
  unfold maxLen at h2
  by_cases hlt : k < s.ss.length
  · obtain ⟨b, o, rfl, hc⟩ := h3 (by intro h; have := strs_len s.ss; rw [h] at this; simp at this; omega)
    have c1 := hc k _ (strs_get _ _ hlt)
    have hb : b < w.heap.size := World.block_lt_of_cell? w _ c1
    unfold StepM.word
    obtain ⟨x, hx⟩ : ∃ x, x = s.ss.getD k ByteArray.empty := ⟨_, rfl⟩
    rw [← hx] at c1 ⊢
    clear hc h3 hx
    go_enter Tryd.func42, Tryd.ntmps42
    go_wp2_with fail
    go_ret
    exact ⟨rfl, (Below.refl _ _).alloc (Nat.le_refl _) _⟩
  · unfold StepM.word
    rw [getD_ge _ _ _ (by omega)]
    go_enter Tryd.func42, Tryd.ntmps42
    go_wp2_with fail
    go_ret
    exact ⟨rfl, (Below.refl _ _).alloc (Nat.le_refl _) _⟩
theorem n_i (w : World) (cs : Array Value) (s : StepM) (i : Int) (k : Nat) (e : i = (k : Int)) (hs : StepIs w cs s) (hk : (k : Int) ≤ 9223372036854775807) :
    Calls Tryd.prog 36 #[.agg cs, .int .i64 i] w fun e w' => e = .returned (.int .i64 (s.num k)) ∧ Below w.heap.size w w' := by
  subst e
  exact n_c w cs s k hs hk
theorem Number_i (w : World) (cs : Array Value) (s : StepM) (i : Int) (k : Nat) (e : i = (k : Int)) (hs : StepIs w cs s) (hk : (k : Int) ≤ 9223372036854775807) :
    Calls Tryd.prog 40 #[.agg cs, .int .i64 i] w fun e w' => e = .returned (.int .i64 (s.num k)) ∧ Below w.heap.size w w' := by
  subst e
  exact Number_c w cs s k hs hk
theorem s_i (w : World) (cs : Array Value) (s : StepM) (i : Int) (k : Nat) (e : i = (k : Int)) (hs : StepIs w cs s) (hk : (k : Int) ≤ 9223372036854775807) :
    Calls Tryd.prog 38 #[.agg cs, .int .i64 i] w fun e w' => e = .returned (.string (s.word k)) ∧ Below w.heap.size w w' := by
  subst e
  exact s_c w cs s k hs hk
theorem Word_i (w : World) (cs : Array Value) (s : StepM) (i : Int) (k : Nat) (e : i = (k : Int)) (hs : StepIs w cs s) (hk : (k : Int) ≤ 9223372036854775807) :
    Calls Tryd.prog 42 #[.agg cs, .int .i64 i] w fun e w' => e = .returned (.string (s.word k)) ∧ Below w.heap.size w w' := by
  subst e
  exact Word_c w cs s k hs hk
end Go.Proofs.YtijlfggficjamaaDoor
