/- The tables that the rows list, out of the rows' condition: Tab (powers of ten), Tbl (the rows of steps). -/
import Derived.Test.YtijlfggficjamaaDoorPlayOpen
import Derived.Lib.LaidTab
namespace Go.Proofs.YtijlfggficjamaaDoor
set_option linter.unusedVariables false
set_option linter.unusedSimpArgs false
open Go Go.RowKit Go.ChangeShapes Go.WideShapes Go.ChangeAt Go.Deep
open Go.Lib (hid)

theorem laid_mem {P : Program} {W : World} {name : String} {d : DataW Unit} : ∀ {l : List (String × DataW Unit)} {ps : List MemPlace}, DataW.LaidVars P W l ps → (name, d) ∈ l →
    ∃ g t cs fuel p, P.globalNamed name = some g ∧ (P.globals[g]?).map (·.type) = some t ∧ W.var? P name = some cs ∧ DataW.trod (fun _ => ()) P W 0 (fun _ => true) false fuel t cs.toList = some (d, p)
  | [], _, _, h => by cases h
  | (n, d') :: r, ps, ⟨g, t, cs, fuel, p, q, h1, h2, h3, h4, h5, _⟩, h => by
    rcases List.mem_cons.1 h with e | h
    · cases e; exact ⟨g, t, cs, fuel, p, h1, h2, h3, h4⟩
    · exact laid_mem h5 h
theorem tab_of {W : World} {l : List (String × DataW Unit)} (h : laidMet Tryd.prog l W) (hm : ("internal/strconv.uint64pow10", Rows.laid_internal_strconv_uint64pow10) ∈ l) : Tab W := by
  obtain ⟨ps, hl, _⟩ := h
  obtain ⟨g, t, cs, fuel, p, h1, h2, h3, h4⟩ := laid_mem hl hm
  obtain rfl := Option.some.inj (tabG.symm.trans h1)
  obtain rfl := Option.some.inj ((show (Tryd.prog.globals[4]?).map (·.type) = some 123 by kernel_rfl).symm.trans h2)
  unfold Tab Lib.TabIs
  rw [h3]
  have := Lib.cells_of_tab (n := 20) (k := .u64) (zs := Lib.pow10Tab) (e := 107) Tryd.underlying123 Tryd.underlying107 (by kernel_rfl) (by kernel_rfl) h4
  rw [← this]
def rowData {H : Type} (r : RowM) : DataW H := .agg [.lit (.string r.word), .lit (.int .i64 r.n), .lit (.int .i64 r.s), .lit (.bool r.o), .lit (.bool r.a)]
theorem rows_data {H : Type} : (Rows.laid_kindred_play_rows : DataW H) = .agg (rowTab.map rowData) := rfl
theorem tblG : Tryd.prog.globalNamed "kindred/play.rows" = some 0 := by kernel_rfl
set_option maxRecDepth 20000 in
theorem tbl_of {W : World} {l : List (String × DataW Unit)} (h : laidMet Tryd.prog l W) (hm : ("kindred/play.rows", Rows.laid_kindred_play_rows) ∈ l) : Tbl W := by
  obtain ⟨ps, hl, _⟩ := h
  obtain ⟨g, t, cs, fuel, p, h1, h2, h3, h4⟩ := laid_mem hl hm
  obtain rfl := Option.some.inj (tblG.symm.trans h1)
  obtain rfl := Option.some.inj ((show (Tryd.prog.globals[0]?).map (·.type) = some 71 by kernel_rfl).symm.trans h2)
  obtain ⟨xs, m, rfl, hx, hl1, hxl, hi⟩ := DataW.trod_array Tryd.underlying71 h4
  rw [rows_data] at hx
  simp only [Prod.mk.injEq, DataW.agg.injEq] at hx
  have hc5 : Tryd.prog.cellsOf 70 = 5 := by kernel_rfl
  rw [hc5] at hi
  rw [show Tryd.prog.cellsOf 71 = 120 by kernel_rfl] at hl1
  intro k hk j x hj
  have hik := hi k hk
  obtain ⟨y, hy⟩ : ∃ y, xs[k]? = some y := ⟨_, List.getElem?_eq_getElem (by omega)⟩
  rw [hy] at hik
  have hyd : y.1 = rowData (rowOf k) := by
    have h1 : (xs.map (·.1))[k]? = some y.1 := by simp [hy]
    rw [← hx.1, List.getElem?_map] at h1
    have h2 : rowTab[k]? = some (rowOf k) := by
      have : k < rowTab.length := by simpa [rowTab] using hk
      rw [List.getElem?_eq_getElem this, rowOf, List.getD_eq_getElem?_getD, List.getElem?_eq_getElem this]; rfl
    rw [h2] at h1
    simpa using h1.symm
  obtain ⟨d, q⟩ := y
  subst hyd
  obtain ⟨ys, n, rfl, hxx, hl5, hyl, hf⟩ := DataW.trod_struct Tryd.underlying70 hik
  match ys, hyl with
  | [y0, y1, y2, y3, y4], _ =>
    have f0 := hf 0 _ rfl
    have f1 := hf 1 _ rfl
    have f2 := hf 2 _ rfl
    have f3 := hf 3 _ rfl
    have f4 := hf 4 _ rfl
    simp only [show Tryd.prog.cellsOf 3 = 1 by kernel_rfl, show Tryd.prog.cellsOf 9 = 1 by kernel_rfl, show Tryd.prog.cellsOf 4 = 1 by kernel_rfl, List.getElem?_cons_zero, List.getElem?_cons_succ] at f0 f1 f2 f3 f4
    obtain ⟨s0, e0, rfl, _⟩ := DataW.trod_string Tryd.underlying9 f0
    obtain ⟨n1, e1, rfl, _⟩ := DataW.trod_int Tryd.underlying3 f1
    obtain ⟨n2, e2, rfl, _⟩ := DataW.trod_int Tryd.underlying3 f2
    obtain ⟨b3, e3, rfl⟩ := DataW.trod_bool Tryd.underlying4 f3
    obtain ⟨b4, e4, rfl⟩ := DataW.trod_bool Tryd.underlying4 f4
    simp only [Prod.mk.injEq, rowData, DataW.agg.injEq, List.map_cons, List.map_nil, List.cons.injEq, DataW.lit.injEq, Lit.string.injEq, Lit.int.injEq, Lit.bool.injEq, true_and, and_true] at hxx
    obtain ⟨⟨g0, g1, g2, g3, g4⟩, _⟩ := hxx
    have key : ∀ (j : Nat) v, ((((cs.toList.drop (k * 5)).take 5).drop j).take 1) = [v] → cs[k * 5 + j]? = some v := by
      intro j v h
      have h' := congrArg (·[0]?) h
      simp only [List.getElem?_take, List.getElem?_drop, List.getElem?_cons_zero] at h'
      split at h'
      · split at h'
        · rw [← h', Array.getElem?_toList]; congr 1
        · cases h'
      · cases h'
    have hcell : ∀ i v, cs[i]? = some v → W.cell? ⟨0, i, none⟩ = some v := fun i v hv => by
      have := World.var?_cell tblG h3 i
      rw [this]; exact hv
    refine hcell _ _ ?_
    have hj5 : j < 5 := by have := (List.getElem?_eq_some_iff.1 hj).1; simpa [RowM.cells] using this
    have hs0 : s0 = S (rowOf k).word := by unfold S; rw [g0]
    rcases (show j = 0 ∨ j = 1 ∨ j = 2 ∨ j = 3 ∨ j = 4 by omega) with rfl | rfl | rfl | rfl | rfl
    · rw [key 0 _ e0, hs0]; simpa [RowM.cells] using hj
    · rw [key 1 _ e1, ← g1]; simpa [RowM.cells] using hj
    · rw [key 2 _ e2, ← g2]; simpa [RowM.cells] using hj
    · rw [key 3 _ e3, ← g3]; simpa [RowM.cells] using hj
    · rw [key 4 _ e4, ← g4]; simpa [RowM.cells] using hj
end Go.Proofs.YtijlfggficjamaaDoor
