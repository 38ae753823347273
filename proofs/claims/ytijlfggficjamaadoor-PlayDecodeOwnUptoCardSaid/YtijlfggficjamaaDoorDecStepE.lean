/- The contract of kindredref26.StepOf: no such kind, or a wrong count of words. -/
import Derived.Test.YtijlfggficjamaaDoorDecStep
import Derived.Deep.RegionLaw
import Derived.Deep.DeepCutAuto
import Derived.Deep.CutRange
import Derived.StillTailTactics
namespace Go.Proofs.YtijlfggficjamaaDoor
set_option linter.unusedVariables false
set_option linter.unusedSimpArgs false
open Go Go.RowKit
open Go.Lib (hid)

set_option maxRecDepth 100000 in
set_option maxHeartbeats 4000000 in
theorem StepOf_zero (w : World) (v0 : Value) (w0 : List UInt8) (rest : List (List UInt8)) (hv : RowOf w v0 (LS (w0 :: rest))) (hlen : rest.length ≤ 1000000000) (hbs : ∀ x ∈ rest, x.length ≤ 1000000000) (ht : Tab w) (hK : kindOfS w0 = 0) :
    Calls Tryd.prog 30 #[v0] w (StepPost (w0 :: rest) w) := by
  obtain ⟨ad, cap, rfl, h1, h2, h3⟩ := hv
  obtain ⟨b0, o0, rfl, hc⟩ := h3 (by simp [LS])
  rw [LS_len, List.length_cons] at h1 ⊢
  unfold maxLen at h2
  have c0 : w.cell? ⟨b0, o0, none⟩ = some (.string (S w0)) := by have := hc 0 _ rfl; simpa using this
  have hlb : b0 < w.heap.size := World.block_lt_of_cell? w _ c0
  have HC := hid hc; have HBS := hid hbs; have HT := hid ht
  clear h3 hc hbs ht
  have hpos : (0 : Int) < (((rest.length + 1 : Nat) : Int)) := by omega
  obtain ⟨i0, hi, hz0, hz1, hz2⟩ := info_parts infoStr
  obtain ⟨i1, hi1, hy0, hy1, hy2⟩ := info_parts infoInt'
  go_enter Tryd.func30, Tryd.ntmps30
  go_wp2_with fail
  refine (kindOf_c w0 _).mono ?_
  rintro e W2 ⟨rfl, hb⟩
  have hS2 := ((St.refl w).alloc (.cells zStep 32)).callB hb
  clear hb
  obtain ⟨b2, hb2⟩ : ∃ b2, b2 = w.heap.size := ⟨_, rfl⟩
  rw [← hb2] at hS2 ⊢
  have HB2 := hid hb2
  clear hb2
  have HF : Hid (readS (w0 :: rest) = .no 270) := hid (read_kind rest hK)
  have hK1 : ((kindOfS w0 : Int) == 0) = true := by rw [hK]; rfl
  have HK := hid hK
  clear hK
  have hE := hS2
  have y0 := hE.cellH 0; have y1 := hE.cellH 1; have y2 := hE.cellH 2; have y3 := hE.cellH 3; have y4 := hE.cellH 4; have y5 := hE.cellH 5
  simp only [zStep, List.getElem?_toArray, List.getElem?_cons_zero, List.getElem?_cons_succ] at y0 y1 y2 y3 y4 y5
  have z0 := hE.freeH 0; have z1 := hE.freeH 1; have z2 := hE.freeH 2; have z3 := hE.freeH 3; have z4 := hE.freeH 4; have z5 := hE.freeH 5
  go_wp2_with fail
  refine (hE.set6 _ _ _ _ _ _).nameB ?_
  clear y0 y1 y2 y3 y4 y5 z0 z1 z2 z3 z4 z5
  clear hE
  intro We hSe
  have y0 := hSe.cellH 0; have y1 := hSe.cellH 1; have y2 := hSe.cellH 2; have y3 := hSe.cellH 3; have y4 := hSe.cellH 4; have y5 := hSe.cellH 5
  simp only [zStep, List.getElem?_toArray, List.getElem?_cons_zero, List.getElem?_cons_succ] at y0 y1 y2 y3 y4 y5
  refine bodyPost_ret (v := .tuple #[.agg zStep, .int .i64 270]) (by simp [results, Tryd.results30, go_sem, y0, y1, y2, y3, y4, y5, zStep]) rfl ?_
  exact spost_no HF.out rfl hSe.toSt0
set_option maxRecDepth 100000 in
set_option maxHeartbeats 4000000 in
theorem StepOf_cntC (w : World) (v0 : Value) (w0 : List UInt8) (rest : List (List UInt8)) (hv : RowOf w v0 (LS (w0 :: rest))) (hlen : rest.length ≤ 1000000000) (hbs : ∀ x ∈ rest, x.length ≤ 1000000000) (ht : Tab w) (hK : kindOfS w0 = 1) (hcnt : ¬ (rest.length = 3)) :
    Calls Tryd.prog 30 #[v0] w (StepPost (w0 :: rest) w) := by
  obtain ⟨ad, cap, rfl, h1, h2, h3⟩ := hv
  obtain ⟨b0, o0, rfl, hc⟩ := h3 (by simp [LS])
  rw [LS_len, List.length_cons] at h1 ⊢
  unfold maxLen at h2
  have c0 : w.cell? ⟨b0, o0, none⟩ = some (.string (S w0)) := by have := hc 0 _ rfl; simpa using this
  have hlb : b0 < w.heap.size := World.block_lt_of_cell? w _ c0
  have HC := hid hc; have HBS := hid hbs; have HT := hid ht
  clear h3 hc hbs ht
  have hpos : (0 : Int) < (((rest.length + 1 : Nat) : Int)) := by omega
  obtain ⟨i0, hi, hz0, hz1, hz2⟩ := info_parts infoStr
  obtain ⟨i1, hi1, hy0, hy1, hy2⟩ := info_parts infoInt'
  go_enter Tryd.func30, Tryd.ntmps30
  go_wp2_with fail
  refine (kindOf_c w0 _).mono ?_
  rintro e W2 ⟨rfl, hb⟩
  have hS2 := ((St.refl w).alloc (.cells zStep 32)).callB hb
  clear hb
  obtain ⟨b2, hb2⟩ : ∃ b2, b2 = w.heap.size := ⟨_, rfl⟩
  rw [← hb2] at hS2 ⊢
  have HB2 := hid hb2
  clear hb2
  have HK : Hid (1 = kindOfS w0) := hid hK.symm
  rw [hK]
  clear hK
  obtain ⟨wd, hwd⟩ : ∃ wd, wd = (rowOf 1).word := ⟨_, rfl⟩
  have HR : Hid (rowOf 1 = ⟨wd, 3, 0, true, false⟩) := hid (by rw [hwd]; rfl)
  clear hwd
  go_wp2_with fail
  refine (row_at 1 wd 3 0 0 true false HR.out rfl (by omega) (by omega) _).mono ?_
  rintro e W3 ⟨rfl, hb⟩
  have hS4 := (hS2.callB hb).alloc (.cells #[.string (S wd), .int .i64 0, .int .i64 0, .bool true, .bool false] 77)
  clear hb hS2
  have HF : Hid (readS (w0 :: rest) = .no 270) := hid (read_count (r := ⟨wd, 3, 0, true, false⟩) HK.out HR.out (.inl ⟨rfl, by show rest.length ≠ 3 + 0; omega⟩))
  have hc1 : ((rest.length : Int) != 3) = true := bne_iff_ne.2 (by omega)
  clear hcnt
  have hE := hS4.swap
  have y0 := hE.cellH 0; have y1 := hE.cellH 1; have y2 := hE.cellH 2; have y3 := hE.cellH 3; have y4 := hE.cellH 4; have y5 := hE.cellH 5
  simp only [zStep, List.getElem?_toArray, List.getElem?_cons_zero, List.getElem?_cons_succ] at y0 y1 y2 y3 y4 y5
  have z0 := hE.freeH 0; have z1 := hE.freeH 1; have z2 := hE.freeH 2; have z3 := hE.freeH 3; have z4 := hE.freeH 4; have z5 := hE.freeH 5
  go_wp2_with fail
  refine (hE.set6 _ _ _ _ _ _).nameB ?_
  clear y0 y1 y2 y3 y4 y5 z0 z1 z2 z3 z4 z5
  clear hE
  intro We hSe
  have y0 := hSe.cellH 0; have y1 := hSe.cellH 1; have y2 := hSe.cellH 2; have y3 := hSe.cellH 3; have y4 := hSe.cellH 4; have y5 := hSe.cellH 5
  simp only [zStep, List.getElem?_toArray, List.getElem?_cons_zero, List.getElem?_cons_succ] at y0 y1 y2 y3 y4 y5
  refine bodyPost_ret (v := .tuple #[.agg zStep, .int .i64 270]) (by simp [results, Tryd.results30, go_sem, y0, y1, y2, y3, y4, y5, zStep]) rfl ?_
  exact spost_no HF.out rfl hSe.toSt0
set_option maxRecDepth 100000 in
set_option maxHeartbeats 4000000 in
theorem StepOf_cntM (w : World) (v0 : Value) (w0 : List UInt8) (rest : List (List UInt8)) (hv : RowOf w v0 (LS (w0 :: rest))) (hlen : rest.length ≤ 1000000000) (hbs : ∀ x ∈ rest, x.length ≤ 1000000000) (ht : Tab w) (hK : kindOfS w0 = 13) (hcnt : ¬ (rest.length % 3 = 0)) :
    Calls Tryd.prog 30 #[v0] w (StepPost (w0 :: rest) w) := by
  obtain ⟨ad, cap, rfl, h1, h2, h3⟩ := hv
  obtain ⟨b0, o0, rfl, hc⟩ := h3 (by simp [LS])
  rw [LS_len, List.length_cons] at h1 ⊢
  unfold maxLen at h2
  have c0 : w.cell? ⟨b0, o0, none⟩ = some (.string (S w0)) := by have := hc 0 _ rfl; simpa using this
  have hlb : b0 < w.heap.size := World.block_lt_of_cell? w _ c0
  have HC := hid hc; have HBS := hid hbs; have HT := hid ht
  clear h3 hc hbs ht
  have hpos : (0 : Int) < (((rest.length + 1 : Nat) : Int)) := by omega
  obtain ⟨i0, hi, hz0, hz1, hz2⟩ := info_parts infoStr
  obtain ⟨i1, hi1, hy0, hy1, hy2⟩ := info_parts infoInt'
  go_enter Tryd.func30, Tryd.ntmps30
  go_wp2_with fail
  refine (kindOf_c w0 _).mono ?_
  rintro e W2 ⟨rfl, hb⟩
  have hS2 := ((St.refl w).alloc (.cells zStep 32)).callB hb
  clear hb
  obtain ⟨b2, hb2⟩ : ∃ b2, b2 = w.heap.size := ⟨_, rfl⟩
  rw [← hb2] at hS2 ⊢
  have HB2 := hid hb2
  clear hb2
  have HK : Hid (13 = kindOfS w0) := hid hK.symm
  rw [hK]
  clear hK
  obtain ⟨wd, hwd⟩ : ∃ wd, wd = (rowOf 13).word := ⟨_, rfl⟩
  have HR : Hid (rowOf 13 = ⟨wd, 2, 1, false, true⟩) := hid (by rw [hwd]; rfl)
  clear hwd
  go_wp2_with fail
  refine (row_at 13 wd 2 1 2 false true HR.out rfl (by omega) (by omega) _).mono ?_
  rintro e W3 ⟨rfl, hb⟩
  have hS4 := (hS2.callB hb).alloc (.cells #[.string (S wd), .int .i64 2, .int .i64 1, .bool false, .bool true] 77)
  clear hb hS2
  have HF : Hid (readS (w0 :: rest) = .no 270) := hid (read_count (r := ⟨wd, 2, 1, false, true⟩) HK.out HR.out (.inr ⟨rfl, by show ¬ (rest.length % (2 + 1) = 0); omega⟩))
  have hc1 : ((rest.length : Int) % 3 != 0) = true := bne_iff_ne.2 (by omega)
  have hc0 : (0 : Int) ≤ (rest.length : Int) := by omega
  clear hcnt
  have hE := hS4.swap
  have y0 := hE.cellH 0; have y1 := hE.cellH 1; have y2 := hE.cellH 2; have y3 := hE.cellH 3; have y4 := hE.cellH 4; have y5 := hE.cellH 5
  simp only [zStep, List.getElem?_toArray, List.getElem?_cons_zero, List.getElem?_cons_succ] at y0 y1 y2 y3 y4 y5
  have z0 := hE.freeH 0; have z1 := hE.freeH 1; have z2 := hE.freeH 2; have z3 := hE.freeH 3; have z4 := hE.freeH 4; have z5 := hE.freeH 5
  go_wp2_with fail
  refine (hE.set6 _ _ _ _ _ _).nameB ?_
  clear y0 y1 y2 y3 y4 y5 z0 z1 z2 z3 z4 z5
  clear hE
  intro We hSe
  have y0 := hSe.cellH 0; have y1 := hSe.cellH 1; have y2 := hSe.cellH 2; have y3 := hSe.cellH 3; have y4 := hSe.cellH 4; have y5 := hSe.cellH 5
  simp only [zStep, List.getElem?_toArray, List.getElem?_cons_zero, List.getElem?_cons_succ] at y0 y1 y2 y3 y4 y5
  refine bodyPost_ret (v := .tuple #[.agg zStep, .int .i64 270]) (by simp [results, Tryd.results30, go_sem, y0, y1, y2, y3, y4, y5, zStep]) rfl ?_
  exact spost_no HF.out rfl hSe.toSt0
set_option maxRecDepth 100000 in
set_option maxHeartbeats 4000000 in
theorem StepOf_cntP (w : World) (v0 : Value) (w0 : List UInt8) (rest : List (List UInt8)) (hv : RowOf w v0 (LS (w0 :: rest))) (hlen : rest.length ≤ 1000000000) (hbs : ∀ x ∈ rest, x.length ≤ 1000000000) (ht : Tab w) (K : Nat) (hK : K = kindOfS w0) (hK0 : K ≠ 0) (hK1' : K ≠ 1) (hK2 : K ≤ 23) (wd : List UInt8) (rn rs : Nat) (hR : rowOf K = ⟨wd, rn, rs, false, false⟩) (hrn : rn ≤ 3) (hrs : rs ≤ 1) (hcnt : ¬ (rest.length = rn + rs)) :
    Calls Tryd.prog 30 #[v0] w (StepPost (w0 :: rest) w) := by
  obtain ⟨ad, cap, rfl, h1, h2, h3⟩ := hv
  obtain ⟨b0, o0, rfl, hc⟩ := h3 (by simp [LS])
  rw [LS_len, List.length_cons] at h1 ⊢
  unfold maxLen at h2
  have c0 : w.cell? ⟨b0, o0, none⟩ = some (.string (S w0)) := by have := hc 0 _ rfl; simpa using this
  have hlb : b0 < w.heap.size := World.block_lt_of_cell? w _ c0
  have HC := hid hc; have HBS := hid hbs; have HT := hid ht
  clear h3 hc hbs ht
  have hpos : (0 : Int) < (((rest.length + 1 : Nat) : Int)) := by omega
  obtain ⟨i0, hi, hz0, hz1, hz2⟩ := info_parts infoStr
  obtain ⟨i1, hi1, hy0, hy1, hy2⟩ := info_parts infoInt'
  go_enter Tryd.func30, Tryd.ntmps30
  go_wp2_with fail
  refine (kindOf_c w0 _).mono ?_
  rintro e W2 ⟨rfl, hb⟩
  have hS2 := ((St.refl w).alloc (.cells zStep 32)).callB hb
  clear hb
  obtain ⟨b2, hb2⟩ : ∃ b2, b2 = w.heap.size := ⟨_, rfl⟩
  rw [← hb2] at hS2 ⊢
  have HB2 := hid hb2
  clear hb2
  rw [← hK]
  have hK1 : ((K : Int) == 0) = false := beq_eq_false_iff_ne.2 (by omega)
  have HK := hid hK
  have HR := hid hR
  clear hK hR
  go_wp2_with fail
  refine (row_at K wd rn rs rn false false HR.out (by rw [refRow, if_neg hK1', HR.out]) (by omega) (by omega) _).mono ?_
  rintro e W3 ⟨rfl, hb⟩
  have hS4 := (hS2.callB hb).alloc (.cells #[.string (S wd), .int .i64 rn, .int .i64 rs, .bool false, .bool false] 77)
  clear hb hS2
  have HF : Hid (readS (w0 :: rest) = .no 270) := hid (read_count (r := ⟨wd, rn, rs, false, false⟩) HK.out HR.out (.inl ⟨rfl, hcnt⟩))
  have hc1 : ((rest.length : Int) != (rn : Int) + (rs : Int)) = true := bne_iff_ne.2 (by omega)
  clear hcnt
  have hE := hS4.swap
  have y0 := hE.cellH 0; have y1 := hE.cellH 1; have y2 := hE.cellH 2; have y3 := hE.cellH 3; have y4 := hE.cellH 4; have y5 := hE.cellH 5
  simp only [zStep, List.getElem?_toArray, List.getElem?_cons_zero, List.getElem?_cons_succ] at y0 y1 y2 y3 y4 y5
  have z0 := hE.freeH 0; have z1 := hE.freeH 1; have z2 := hE.freeH 2; have z3 := hE.freeH 3; have z4 := hE.freeH 4; have z5 := hE.freeH 5
  go_wp2_with fail
  refine (hE.set6 _ _ _ _ _ _).nameB ?_
  clear y0 y1 y2 y3 y4 y5 z0 z1 z2 z3 z4 z5
  clear hE
  intro We hSe
  have y0 := hSe.cellH 0; have y1 := hSe.cellH 1; have y2 := hSe.cellH 2; have y3 := hSe.cellH 3; have y4 := hSe.cellH 4; have y5 := hSe.cellH 5
  simp only [zStep, List.getElem?_toArray, List.getElem?_cons_zero, List.getElem?_cons_succ] at y0 y1 y2 y3 y4 y5
  refine bodyPost_ret (v := .tuple #[.agg zStep, .int .i64 270]) (by simp [results, Tryd.results30, go_sem, y0, y1, y2, y3, y4, y5, zStep]) rfl ?_
  exact spost_no HF.out rfl hSe.toSt0
end Go.Proofs.YtijlfggficjamaaDoor
