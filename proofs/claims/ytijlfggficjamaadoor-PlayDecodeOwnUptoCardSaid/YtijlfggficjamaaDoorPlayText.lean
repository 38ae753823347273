/- The contracts of play.Text and kindredref26.Text. -/
import Derived.Test.YtijlfggficjamaaDoorPlayLine2
namespace Go.Proofs.YtijlfggficjamaaDoor
set_option linter.unusedVariables false
set_option linter.unusedSimpArgs false
open Go Go.RowKit
open Go.Lib (hid)

/-! ### plain: how long a line is -/
def sizeSum (l : List ByteArray) : Nat := (l.map (·.size)).sum
theorem sizeSum_app (a b : List ByteArray) : sizeSum (a ++ b) = sizeSum a + sizeSum b := by simp [sizeSum]
def StepM.wt (s : StepM) : Nat := 1 + s.ss.length + sizeSum s.ss
theorem words_sum (s : StepM) (t : Nat) : ((List.range t).map fun k => (s.word k).size).sum ≤ sizeSum s.ss := by
  have h : ∀ t, ((List.range t).map fun k => (s.word k).size).sum = sizeSum (s.ss.take t) := by
    intro t
    induction t with
    | zero => simp [sizeSum]
    | succ t ih =>
      rw [List.range_succ, List.map_append, List.sum_append, ih]
      rcases Nat.lt_or_ge t s.ss.length with h | h
      · rw [List.take_succ_eq_append_getElem h, sizeSum_app]
        have e : s.word t = s.ss[t] := by simp [StepM.word, List.getD_eq_getElem?_getD, h]
        simp only [List.map_cons, List.map_nil, List.sum_cons, List.sum_nil, e, sizeSum]
      · rw [List.take_of_length_le h, List.take_of_length_le (by omega)]
        simp [StepM.word, List.getD_eq_getElem?_getD, h]
  rw [h]
  have : sizeSum s.ss = sizeSum (s.ss.take t) + sizeSum (s.ss.drop t) := by
    conv => lhs; rw [← List.take_append_drop t s.ss]
    rw [sizeSum, List.map_append, List.sum_append]; rfl
  omega
def accSum (L : List (List UInt8)) : Nat := (L.map fun x => x.length + 1).sum
theorem accL_length (word : List UInt8) (L : List (List UInt8)) : (accL word L).length = word.length + accSum L := by
  induction L with
  | nil => simp [accL, accSum]
  | cons x r ih => simp only [accL, accSum, List.flatMap_cons, List.length_append, List.length_cons, List.map_cons, List.sum_cons] at *; omega
theorem accSum_app (a b : List (List UInt8)) : accSum (a ++ b) = accSum a + accSum b := by simp [accSum]
theorem nums_sum (s : StepM) (N k j : Nat) (hN : ∀ k, -9223372036854775808 ≤ s.num k ∧ s.num k ≤ 9223372036854775807) : accSum (numsOf s N k j) ≤ 21 * j := by
  induction j with
  | zero => simp [numsOf, accSum]
  | succ j ih =>
    rw [nums_succ, accSum_app]
    have := itoa_len _ (hN (k * N + j)).1 (hN (k * N + j)).2
    simp [accSum] at *; omega
theorem texts_one (s : StepM) (k : Nat) : accSum (textsOf s 1 k 1) ≤ 3 * (s.word k).size + 2 := by
  have := esc_len (s.word k).data.toList
  rw [size_list] at this
  simp [textsOf, accSum]; omega
theorem body_sum (s : StepM) (N T t : Nat) (hN : ∀ k, -9223372036854775808 ≤ s.num k ∧ s.num k ≤ 9223372036854775807) (hn : N ≤ 3) (ht : T ≤ 1) :
    accSum (body s N T t) ≤ 65 * t + 3 * ((List.range t).map fun k => (s.word k).size).sum := by
  induction t with
  | zero => simp [body, accSum]
  | succ t ih =>
    rw [body_succ, accSum_app, grp, accSum_app, List.range_succ, List.map_append, List.sum_append]
    have h1 := nums_sum s N t N hN
    have h2 : accSum (textsOf s T t T) ≤ 3 * (s.word t).size + 2 := by
      rcases Nat.lt_or_ge 0 T with h | h
      · obtain rfl : T = 1 := by omega
        exact texts_one s t
      · obtain rfl : T = 0 := by omega
        simp [textsOf, accSum]
    simp
    omega
/-- a step within the bounds of its types, and not too great -/
structure StepM.ok (s : StepM) : Prop where
  kind : -9223372036854775808 ≤ s.kind ∧ s.kind ≤ 9223372036854775807
  ns : ∀ x ∈ s.ns, -9223372036854775808 ≤ x ∧ x ≤ 9223372036854775807
  len : s.ss.length ≤ 1048576
  ss : ∀ x ∈ s.ss, x.size ≤ 1048576
  w : -9223372036854775808 ≤ s.w ∧ s.w ≤ 9223372036854775807
  c : -9223372036854775808 ≤ s.c ∧ s.c ≤ 9223372036854775807
  m : -9223372036854775808 ≤ s.m ∧ s.m ≤ 9223372036854775807
theorem line_len (s : StepM) (h : s.ok) : (lineL s).length ≤ 150 * s.wt := by
  have hN := s.num_bd h.ns
  obtain ⟨h1, h2, h3⟩ := row_small s.kind.toNat
  unfold lineL partsL
  simp only
  rw [List.length_append, accL_join, accL_length]
  unfold StepM.wt
  split
  · have i1 := itoa_len _ h.w.1 h.w.2
    have i2 := itoa_len _ h.c.1 h.c.2
    have i3 := itoa_len _ h.m.1 h.m.2
    simp [accSum]; omega
  · have hb := body_sum s (rowOf s.kind.toNat).n (rowOf s.kind.toNat).s (timesOf (rowOf s.kind.toNat) s) hN h1 h2
    have hw := words_sum s (timesOf (rowOf s.kind.toNat) s)
    have ht : timesOf (rowOf s.kind.toNat) s ≤ s.ss.length + 1 := by unfold timesOf; split <;> omega
    simp
    omega
def wts (l : List StepM) : Nat := (l.map StepM.wt).sum
theorem text_len (l : List StepM) (h : ∀ s ∈ l, s.ok) : (textL l).length ≤ 150 * wts l := by
  induction l with
  | nil => simp [textL, wts]
  | cons s r ih =>
    have h1 := ih (fun x hx => h x (List.mem_cons_of_mem _ hx))
    have h2 := line_len s (h s List.mem_cons_self)
    simp only [textL, wts, List.filter_cons, List.map_cons, List.sum_cons] at *
    split
    · rw [List.flatMap_cons, List.length_append]; omega
    · omega
theorem wts_take (l : List StepM) (k : Nat) : wts (l.take k) ≤ wts l := by
  have : wts l = wts (l.take k) + wts (l.drop k) := by
    conv => lhs; rw [← List.take_append_drop k l]
    rw [wts, List.map_append, List.sum_append]; rfl
  omega
theorem text_snoc (l : List StepM) (k : Nat) (s : StepM) (h : l[k]? = some s) : textL (l.take (k + 1)) = textL (l.take k) ++ if shown s then lineL s else [] := by
  obtain ⟨hk, hs⟩ := List.getElem?_eq_some_iff.1 h
  rw [List.take_succ_eq_append_getElem hk, hs]
  simp only [textL, List.filter_append, List.flatMap_append]
  congr 1
  by_cases hsh : shown s = true
  · simp [hsh]
  · simp [hsh]

/-- a slice of steps reads as the list -/
def StepsOf (w : World) (v : Value) (xs : List StepM) : Prop :=
  ∃ ad cap, v = .slice ad xs.length cap ∧ xs.length ≤ cap ∧ cap ≤ maxLen ∧
    (xs ≠ [] → ∃ b o, ad = some ⟨b, o, none⟩ ∧ ∀ (i : Nat) s, xs[i]? = some s → ∃ cs, StepIs w cs s ∧ ∀ (j : Nat) x, cs[j]? = some x → w.cell? ⟨b, o + i * 6 + j, none⟩ = some x)
theorem StepsOf.below {w w' : World} {v : Value} {xs : List StepM} {B : Nat} (h : StepsOf w v xs) (hb : Below B w w') (hB : w.heap.size ≤ B) : StepsOf w' v xs := by
  obtain ⟨ad, cap, rfl, h1, h2, h3⟩ := h
  refine ⟨ad, cap, rfl, h1, h2, fun hne => ?_⟩
  obtain ⟨b, o, e, hc⟩ := h3 hne
  refine ⟨b, o, e, fun i s hs => ?_⟩
  obtain ⟨cs, hcs, hcell⟩ := hc i s hs
  refine ⟨cs, hcs.below hb hB, fun j x hx => ?_⟩
  have := hcell j x hx
  rw [hb.cell (p := ⟨b, o + i * 6 + j, none⟩) (Nat.lt_of_lt_of_le (World.block_lt_of_cell? w _ this) hB)]
  exact this
/-- the k-th step's cells -/
theorem step_cells {w : World} {b o k : Nat} {cs : Array Value} {s : StepM} (hs : StepIs w cs s) (hc : ∀ (j : Nat) x, cs[j]? = some x → w.cell? ⟨b, o + k * 6 + j, none⟩ = some x) :
    ∃ nv sv, StepIs w #[.int .i64 s.kind, nv, sv, .int .i64 s.w, .int .i64 s.c, .int .i64 s.m] s ∧ w.cell? ⟨b, o + k * 6, none⟩ = some (.int .i64 s.kind) ∧ w.cell? ⟨b, o + k * 6 + 1, none⟩ = some nv ∧ w.cell? ⟨b, o + k * 6 + 2, none⟩ = some sv ∧
      w.cell? ⟨b, o + k * 6 + 3, none⟩ = some (.int .i64 s.w) ∧ w.cell? ⟨b, o + k * 6 + 4, none⟩ = some (.int .i64 s.c) ∧ w.cell? ⟨b, o + k * 6 + 5, none⟩ = some (.int .i64 s.m) ∧ nv.oneCell' = true ∧ sv.oneCell' = true := by
  obtain ⟨nv, sv, rfl, h1, h2⟩ := hs
  obtain ⟨a1, c1, rfl, r1⟩ := h1
  obtain ⟨a2, c2, rfl, r2⟩ := h2
  exact ⟨_, _, ⟨_, _, rfl, ⟨a1, c1, rfl, r1⟩, ⟨a2, c2, rfl, r2⟩⟩, hc 0 _ rfl, hc 1 _ rfl, hc 2 _ rfl, hc 3 _ rfl, hc 4 _ rfl, hc 5 _ rfl, rfl, rfl⟩
end Go.Proofs.YtijlfggficjamaaDoor
