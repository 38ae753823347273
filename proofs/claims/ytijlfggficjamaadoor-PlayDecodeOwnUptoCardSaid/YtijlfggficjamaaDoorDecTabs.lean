/- What the readers look at, out of the rows' condition: DEnv. -/
import Derived.Test.YtijlfggficjamaaDoorDecLaw
import Derived.Test.YtijlfggficjamaaDoorPlayTabs
import Derived.LaidLaws
import Derived.Shelf.Vars
namespace Go.Proofs.YtijlfggficjamaaDoor
set_option linter.unusedVariables false
set_option linter.unusedSimpArgs false
open Go Go.RowKit Go.ChangeShapes Go.WideShapes Go.ChangeAt Go.Deep
open Go.Lib (hid)

set_option maxRecDepth 20000 in
theorem all_at : ∀ (k : Nat), k < 24 → ∀ (j : Nat), j < 5 → allCells[k * 5 + j]? = (rowOf k).cells[j]? := by
  intro k hk j hj
  rcases (show k = 0 ∨ k = 1 ∨ k = 2 ∨ k = 3 ∨ k = 4 ∨ k = 5 ∨ k = 6 ∨ k = 7 ∨ k = 8 ∨ k = 9 ∨ k = 10 ∨ k = 11 ∨ k = 12 ∨ k = 13 ∨ k = 14 ∨ k = 15 ∨ k = 16 ∨ k = 17 ∨ k = 18 ∨ k = 19 ∨ k = 20 ∨ k = 21 ∨ k = 22 ∨ k = 23 by omega) with rfl | rfl | rfl | rfl | rfl | rfl | rfl | rfl | rfl | rfl | rfl | rfl | rfl | rfl | rfl | rfl | rfl | rfl | rfl | rfl | rfl | rfl | rfl | rfl <;>
    rcases (show j = 0 ∨ j = 1 ∨ j = 2 ∨ j = 3 ∨ j = 4 by omega) with rfl | rfl | rfl | rfl | rfl <;> rfl
theorem all_size : allCells.size = 120 := by kernel_rfl
theorem obj_of {W : World} {l : List (String × DataW Unit)} (h : laidMet Tryd.prog l W) (hm : ("kindred/play.rows", Rows.laid_kindred_play_rows) ∈ l) : ∃ t fr, W.heap[0]? = some (.cells allCells t fr) := by
  have ht := tbl_of h hm
  obtain ⟨ps, hl, _⟩ := h
  obtain ⟨g, t, cs, fuel, p, h1, h2, h3, h4⟩ := laid_mem hl hm
  obtain rfl := Option.some.inj (tblG.symm.trans h1)
  obtain rfl := Option.some.inj ((show (Tryd.prog.globals[0]?).map (·.type) = some 71 by kernel_rfl).symm.trans h2)
  obtain ⟨xs, m, rfl, hx, hl1, hxl, hi⟩ := DataW.trod_array Tryd.underlying71 h4
  rw [show Tryd.prog.cellsOf 71 = 120 by kernel_rfl] at hl1
  have hcs : cs = allCells := by
    apply Array.ext_getElem?
    intro i
    by_cases hi : i < 120
    · have h5 := all_at (i / 5) (by omega) (i % 5) (by omega)
      rw [show i / 5 * 5 + i % 5 = i by omega] at h5
      have hil : i < allCells.size := by rw [all_size]; exact hi
      rw [Array.getElem?_eq_getElem hil] at h5
      have h6 := ht (i / 5) (by omega) (i % 5) _ h5.symm
      rw [show i / 5 * 5 + i % 5 = i by omega] at h6
      rw [← World.var?_cell tblG h3 i, h6, Array.getElem?_eq_getElem hil]
    · have : cs.size = 120 := by simpa using hl1
      rw [Array.getElem?_eq_none (by omega), Array.getElem?_eq_none (by rw [all_size]; omega)]
  unfold World.var? at h3
  rw [tblG] at h3
  simp only [Option.bind_some] at h3
  split at h3
  · rename_i c e fr hh
    cases h3
    exact ⟨e, fr, by rw [hh, hcs]⟩
  · cases h3
theorem err_of {W : World} {l : List (String × DataW Unit)} {name nm : String} {d : DataW Unit} {g : Nat} (h : laidMet Tryd.prog l W) (hm : (name, .iface nm d) ∈ l) (hg : Tryd.prog.globalNamed name = some g) (hty : (Tryd.prog.globals[g]?).map (·.type) = some 46) :
    ∃ tp p, W.var? Tryd.prog name = some #[.iface tp p] := by
  obtain ⟨ps, hl, _⟩ := h
  obtain ⟨g', t, cs, fuel, p, h1, h2, h3, h4⟩ := laid_mem hl hm
  obtain rfl := Option.some.inj (hg.symm.trans h1)
  obtain rfl := Option.some.inj (hty.symm.trans h2)
  obtain ⟨_, u, v, hcs, _⟩ := iface_of_trod Tryd.underlying46 h4
  refine ⟨u, v, ?_⟩
  rw [h3]
  congr 1
  exact Array.toList_inj.1 (by rw [hcs])
theorem max_of {W : World} (h : W.ShapedOpen Tryd.prog) : MaxOk W :=
  Go.Proofs.cell_of_shapedOpen_int (zero := #[.int .i64 0]) (t := 3) h (of_decide_eq_true (by kernel_rfl)) (by kernel_rfl) rfl (by kernel_rfl) (by kernel_rfl) Tryd.underlying3
theorem bulk_string {H : Type} (bytes : List UInt8) : Rows.uptoBulk (DataW.lit (H := H) (.string bytes)) = bytes.length + 1 := by simp [Rows.uptoBulk]
theorem denv_of {W : World} {l : List (String × DataW Unit)} (h : laidMet Tryd.prog l W) (hsh : W.ShapedOpen Tryd.prog) (m1 : ("internal/strconv.uint64pow10", Rows.laid_internal_strconv_uint64pow10) ∈ l) (m2 : ("kindred/play.rows", Rows.laid_kindred_play_rows) ∈ l)
    (m3 : ("strconv.ErrSyntax", Rows.laid_strconv_ErrSyntax) ∈ l) (m4 : ("strconv.ErrRange", Rows.laid_strconv_ErrRange) ∈ l) : DEnv W :=
  ⟨tab_of h m1, tbl_of h m2, obj_of h m2, max_of hsh, err_of h m3 synG (by kernel_rfl), err_of h m4 rngG (by kernel_rfl)⟩
end Go.Proofs.YtijlfggficjamaaDoor
