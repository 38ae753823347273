/- slices.Sort of a row that is the call's own; rows of rows that grow. -/
import Derived.Test.YtgohdcegplbkjaaGuJoin
import Derived.Sort.OwnSortedInts
import Derived.OwnWalk
namespace Go.Proofs.Ytgohdcegplbkjaa
set_option linter.unusedVariables false
set_option linter.unusedSimpArgs false
open Go Go.RowKit
open Go.Lib (hid)

def sortM (l : List Int) : List Int := l.mergeSort fun x y => decide (x ≤ y)
theorem sortM_perm (l : List Int) : (sortM l).Perm l := List.mergeSort_perm _ _
theorem sortM_rising {l : List Int} (h : l.Nodup) : (sortM l).Pairwise (· < ·) := by
  have h1 : (sortM l).Pairwise (fun x y => decide (x ≤ y) = true) := List.pairwise_mergeSort (fun a b c h1 h2 => by simp only [decide_eq_true_eq] at *; omega) (fun a b => by simp; omega) l
  have h2 : (sortM l).Nodup := (sortM_perm l).nodup_iff.2 h
  exact (h1.and h2).imp fun {a b} ⟨h3, h4⟩ => by simp only [decide_eq_true_eq] at h3; omega
theorem sort_c (W0 w : World) (M F : Frag) (v : Value) (l : List Int) (hR : Rw 3 1 v l.length (ints l) F) (hS : St W0 w (F ++ M)) (hne : l ≠ []) (hn : l.length ≤ 1000000000) :
    Calls Try.prog 17 #[v] w fun e w' => e = .returned (.tuple #[]) ∧ ∃ F', Rw 3 1 v l.length (ints (sortM l)) F' ∧ St W0 w' (F' ++ M) := by
  have hp : 0 < l.length := List.length_pos_iff.2 hne
  obtain ⟨h1, h2⟩ := hR
  rcases h2 with ⟨rfl, h0, rfl⟩ | ⟨g, cap, cur, rfl, rfl, hn', hc, hs, ht⟩
  · omega
  · have hb : w.heap[g]? = some (.cells cur 3 (0, 0)) := hS.get
    rw [Nat.mul_one] at ht hs
    have hl : (sortM l).length = l.length := (sortM_perm l).length_eq
    refine (Try.slices_Sort_int g 0 cap l w (holds_of_blockI hb (by simpa [ints] using ht)) hS.hlt (by omega)).mono ?_
    rintro e w' ⟨rfl, n, os, rfl⟩
    refine ⟨rfl, [(g, .cells (Go.Sort.putCells (Value.int .i64) 0 (sortM l).toArray cur) 3 (0, 0))], ⟨by simp [ints, hl], .inr ⟨g, cap, _, rfl, rfl, hn', hc, by simp [Go.Sort.putCells, hs], ?_⟩⟩, ?_⟩
    · rw [Nat.mul_one, ← hl]
      have := take_putCellsI cur (sortM l) (by rw [hl, hs]; omega)
      simpa [ints] using this
    · exact hS.put (grownBy_sortedI _) (heap_sortedI _ hb)
theorem info_ints : (Try.prog.info? 22).map (fun i => (i.zero, i.size, i.bytes)) = some (some (.slice none 0 0), 1, 24) := by kernel_rfl
def noRow : Row := ⟨[], .slice none 0 0, []⟩
theorem frags_none (n : Nat) : frags (List.replicate n noRow) = [] := by
  induction n with
  | zero => rfl
  | succ n ih => rw [List.replicate_succ, frags_cons, ih]; rfl
theorem vals_none (n : Nat) : vals (List.replicate n noRow) = List.replicate n (.slice none 0 0) := by simp [vals, noRow]
theorem made_none (n : Nat) : (madeCells (Value.slice none 0 0).cells n).toList = List.replicate n (.slice none 0 0) := by
  apply List.ext_getElem?
  intro i
  by_cases h : i < n
  · simp [madeCells, Value.cells, List.getElem?_replicate, Nat.mod_one, h]
  · simp [madeCells, Value.cells, List.getElem?_replicate, Nat.mod_one, h]
/-- the members so far -/
def memK (ids : List Int) (R : Nat → Nat) (k r : Nat) : List Int := ((List.range k).filter fun i => R i = r).map (idAt ids)
theorem memK_yes {ids : List Int} {R : Nat → Nat} {k r : Nat} (h : R k = r) : memK ids R (k + 1) r = memK ids R k r ++ [idAt ids k] := by
  simp [memK, List.range_succ, List.filter_append, h]
theorem memK_no {ids : List Int} {R : Nat → Nat} {k r : Nat} (h : R k ≠ r) : memK ids R (k + 1) r = memK ids R k r := by
  simp [memK, List.range_succ, List.filter_append, h]
theorem memK_len (ids : List Int) (R : Nat → Nat) (k r : Nat) : (memK ids R k r).length ≤ k := by
  unfold memK
  rw [List.length_map]
  exact Nat.le_trans (List.length_filter_le _ _) (by simp)
theorem memR_eq (ids : List Int) (R : Nat → Nat) (r : Nat) : memR ids R r = memK ids R ids.length r := rfl
theorem memK_nodup {ids : List Int} (hnd : ids.Nodup) (R : Nat → Nat) (r : Nat) : (memR ids R r).Nodup := by
  unfold memR
  show List.Pairwise (· ≠ ·) _
  rw [List.pairwise_map]
  have h0 : List.Pairwise (· ≠ ·) ((List.range ids.length).filter fun i => R i = r) := (List.nodup_range (n := ids.length)).sublist List.filter_sublist
  refine h0.imp_of_mem ?_
  intro a b ha hb hne e
  have h1 := List.mem_range.1 (List.mem_filter.1 ha).1
  have h2 := List.mem_range.1 (List.mem_filter.1 hb).1
  exact hne (idAt_inj hnd h1 h2 e)
end Go.Proofs.Ytgohdcegplbkjaa
