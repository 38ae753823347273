/- The contract of play.read: no such kind, or a wrong count of words. -/
import Derived.Test.YtijlfggficjamaaDoorDecRead
import Derived.Deep.RegionLaw
import Derived.Deep.DeepCutAuto
import Derived.Deep.CutRange
import Derived.StillTailTactics
import Derived.Deep.QuietTactic
import Derived.BigQuiet
import Derived.BigRegion
import Derived.RegionTactic
namespace Go.Proofs.YtijlfggficjamaaDoor
set_option linter.unusedVariables false
set_option linter.unusedSimpArgs false
open Go Go.RowKit
open Go.Lib (hid)

set_option maxRecDepth 100000 in
set_option maxHeartbeats 4000000 in
theorem Read_zero (w : World) (v0 : Value) (w0 : List UInt8) (rest : List (List UInt8)) (hv : RowOf w v0 (LS (w0 :: rest))) (hlen : rest.length ≤ 1000000000) (hbs : ∀ x ∈ rest, x.length ≤ 1000000000) (he : DEnv w) (hK : kindOfS w0 = 0) :
    Calls Tryd.prog 27 #[v0] w (StepPost (w0 :: rest) w) := by
  obtain ⟨ad, cap, rfl, h1, h2, h3⟩ := hv
  obtain ⟨b0, o0, rfl, hc⟩ := h3 (by simp [LS])
  rw [LS_len, List.length_cons] at h1 ⊢
  have hcut := cut_tail w b0 o0 rest.length cap (LS rest) (LS_len rest) h1 h2 (fun i x hx => hc (i + 1) x hx)
  unfold maxLen at h2
  have c0 : w.cell? ⟨b0, o0, none⟩ = some (.string (S w0)) := by have := hc 0 _ rfl; simpa using this
  have hlb : b0 < w.heap.size := World.block_lt_of_cell? w _ c0
  have HCUT := hid hcut; have HBS := hid hbs; have HE := hid he; have HC0 := hid c0
  clear h3 hc hbs he hcut c0
  have hpos : (0 : Int) < (((rest.length + 1 : Nat) : Int)) := by omega
  obtain ⟨i0, hi, hz0, hz1, hz2⟩ := info_parts infoStr
  obtain ⟨i1, hi1, hy0, hy1, hy2⟩ := info_parts infoInt'
  have HKZ := hid hK
  clear hK
  go_enter Tryd.func27, Tryd.ntmps27
  go_upto_region 2 with (fail)
  have hS1 := (St.refl w).alloc (.cells zStep 32)
  obtain ⟨b2, hb2⟩ : ∃ b2, b2 = w.heap.size := ⟨_, rfl⟩
  rw [← hb2] at hS1 ⊢
  clear hb2
  refine hS1.nameC ?_
  clear hS1
  intro W1 hS1
  obtain ⟨tg, fg, hobj⟩ := (HE.out.st hS1).obj
  go_wp2_with (refine wpList_load_row (by rfl) _ _ (by rfl) 0 (by rfl) tg allCells fg _ hobj Tryd.underlying71 (by rfl) (by kernel_rfl) ?_)
  clear hobj
  obtain ⟨AC, hAC⟩ : ∃ AC, AC = allCells := ⟨_, rfl⟩
  rw [← hAC]
  have HAC := hid hAC
  clear hAC
  go_loopw [4, 16] (fun kv i wr => ∃ k : Nat, k ≤ 24 ∧ i = .int .i64 k ∧ kv = .int .i64 (kindK k w0) ∧ St w wr [(b2, .cells zStep 32 (0, 0))]) (fun _ i _ => 24 - (intOf i).toNat)
  case atStart => exact ⟨0, by omega, rfl, rfl, hS1⟩
  case round =>
    clear hS1
    obtain ⟨k, hk, rfl, rfl, hS⟩ := hrel
    by_cases hlt : k < 24
    · have hlt' : (k : Int) < 24 := by omega
      have hix : ∀ W : World, (Instr.index 71 (.agg AC) (.int .i64 k)).run Tryd.prog W = .ok (.agg #[.string (S (rowOf k).word), .int .i64 (rowOf k).n, .int .i64 (rowOf k).s, .bool (rowOf k).o, .bool (rowOf k).a]) W := fun W => by rw [HAC.out]; exact idx_row k hlt W
      have hb0 : b0 < wr.heap.size := Nat.lt_of_lt_of_le hlb hS.sz
      have c0 := hS.old HC0.out
      have hS2 := hid (hS.alloc (.cells #[.string (S (rowOf k).word), .int .i64 (rowOf k).n, .int .i64 (rowOf k).s, .bool (rowOf k).o, .bool (rowOf k).a] 70)).tail
      clear hS
      by_cases hk0 : k = 0
      · subst hk0
        have hix0 : ∀ W : World, (Instr.index 71 (.agg AC) (.int .i64 0)).run Tryd.prog W = .ok (.agg #[.string (S (rowOf 0).word), .int .i64 (rowOf 0).n, .int .i64 (rowOf 0).s, .bool (rowOf 0).o, .bool (rowOf 0).a]) W := hix
        have HKS : Hid (kindK 1 w0 = kindK 0 w0) := hid (by rw [kindK_succ, if_neg (by omega)])
        go_wp2_with fail
        go_quiet (fail)
        go_wp2_with fail
        exact ⟨⟨1, by omega, by go_num, by rw [HKS.out], by first | exact hS2.out | exact hS2.out.drewN _⟩, by simp [intOf]⟩
      · have hkp : (0 : Int) < (k : Int) := by omega
        have hkn : 0 < k := by omega
        have hkd : decide (0 < k) = true := decide_eq_true hkn
        clear hk0
        by_cases hw : (rowOf k).word = w0
        · have HKS : Hid (kindK (k + 1) w0 = k) := hid (by rw [kindK_succ, if_pos ⟨hkn, hw⟩])
          have he1 : (S (rowOf k).word == S w0) = true := by rw [hw]; exact (S_beq' _ _).trans (by simp)
          have he2 : ((rowOf k).word == w0) = true := by simp [hw]
          clear hw
          go_wp2_with fail
          go_quiet (fail)
          go_wp2_with fail
          exact ⟨⟨k + 1, by omega, by go_num, by rw [HKS.out], by first | exact hS2.out | exact hS2.out.drewN _⟩, by simp [intOf]; omega⟩
        · have HKS : Hid (kindK (k + 1) w0 = kindK k w0) := hid (by rw [kindK_succ, if_neg (fun h => hw h.2)])
          have he1 : (S (rowOf k).word == S w0) = false := by rw [S_beq']; simp [hw]
          have he2 : ((rowOf k).word == w0) = false := by simp [hw]
          clear hw
          go_wp2_with fail
          go_quiet (fail)
          go_wp2_with fail
          exact ⟨⟨k + 1, by omega, by go_num, by rw [HKS.out], by first | exact hS2.out | exact hS2.out.drewN _⟩, by simp [intOf]; omega⟩
    · have hk24 : k = 24 := by omega
      subst hk24
      rw [show kindK 24 w0 = kindOfS w0 from rfl]
      clear hlt hk
      have HF : Hid (readS (w0 :: rest) = .no 270) := hid (read_kind rest HKZ.out)
      have hK1 : ((kindOfS w0 : Int) == 0) = true := by rw [HKZ.out]; rfl
      have hE := hS
      have y0 := hE.cellH 0; have y1 := hE.cellH 1; have y2 := hE.cellH 2; have y3 := hE.cellH 3; have y4 := hE.cellH 4; have y5 := hE.cellH 5
      simp only [zStep, List.getElem?_toArray, List.getElem?_cons_zero, List.getElem?_cons_succ] at y0 y1 y2 y3 y4 y5
      have z0 := hE.freeH 0; have z1 := hE.freeH 1; have z2 := hE.freeH 2; have z3 := hE.freeH 3; have z4 := hE.freeH 4; have z5 := hE.freeH 5
      go_wp2_with fail
      refine (hE.set6 _ _ _ _ _ _).nameB ?_
      clear y0 y1 y2 y3 y4 y5 z0 z1 z2 z3 z4 z5
      clear hE
      intro We hSe
      have y0 := hSe.cellH 0; have y1 := hSe.cellH 1; have y2 := hSe.cellH 2; have y3 := hSe.cellH 3; have y4 := hSe.cellH 4; have y5 := hSe.cellH 5
      simp only [zStep, List.getElem?_toArray, List.getElem?_cons_zero, List.getElem?_cons_succ] at y0 y1 y2 y3 y4 y5
      refine bodyPost_ret (v := .tuple #[.agg zStep, .int .i64 270]) (by simp [results, Tryd.results27, go_sem, y0, y1, y2, y3, y4, y5, zStep]) rfl ?_
      exact spost_no HF.out rfl hSe.toSt0
set_option maxRecDepth 100000 in
set_option maxHeartbeats 4000000 in
theorem Read_cntC (w : World) (v0 : Value) (w0 : List UInt8) (rest : List (List UInt8)) (hv : RowOf w v0 (LS (w0 :: rest))) (hlen : rest.length ≤ 1000000000) (hbs : ∀ x ∈ rest, x.length ≤ 1000000000) (he : DEnv w) (hK : kindOfS w0 = 1) (hcnt : ¬ (rest.length = 3)) :
    Calls Tryd.prog 27 #[v0] w (StepPost (w0 :: rest) w) := by
  obtain ⟨ad, cap, rfl, h1, h2, h3⟩ := hv
  obtain ⟨b0, o0, rfl, hc⟩ := h3 (by simp [LS])
  rw [LS_len, List.length_cons] at h1 ⊢
  have hcut := cut_tail w b0 o0 rest.length cap (LS rest) (LS_len rest) h1 h2 (fun i x hx => hc (i + 1) x hx)
  unfold maxLen at h2
  have c0 : w.cell? ⟨b0, o0, none⟩ = some (.string (S w0)) := by have := hc 0 _ rfl; simpa using this
  have hlb : b0 < w.heap.size := World.block_lt_of_cell? w _ c0
  have HCUT := hid hcut; have HBS := hid hbs; have HE := hid he; have HC0 := hid c0
  clear h3 hc hbs he hcut c0
  have hpos : (0 : Int) < (((rest.length + 1 : Nat) : Int)) := by omega
  obtain ⟨i0, hi, hz0, hz1, hz2⟩ := info_parts infoStr
  obtain ⟨i1, hi1, hy0, hy1, hy2⟩ := info_parts infoInt'
  have HK : Hid (1 = kindOfS w0) := hid hK.symm
  clear hK
  obtain ⟨wd, hwd⟩ : ∃ wd, wd = (rowOf 1).word := ⟨_, rfl⟩
  have HR : Hid (rowOf 1 = ⟨wd, 3, 0, true, false⟩) := hid (by rw [hwd]; rfl)
  clear hwd
  have HCN := hid hcnt
  clear hcnt
  go_enter Tryd.func27, Tryd.ntmps27
  go_upto_region 2 with (fail)
  have hS1 := (St.refl w).alloc (.cells zStep 32)
  obtain ⟨b2, hb2⟩ : ∃ b2, b2 = w.heap.size := ⟨_, rfl⟩
  rw [← hb2] at hS1 ⊢
  clear hb2
  refine hS1.nameC ?_
  clear hS1
  intro W1 hS1
  obtain ⟨tg, fg, hobj⟩ := (HE.out.st hS1).obj
  go_wp2_with (refine wpList_load_row (by rfl) _ _ (by rfl) 0 (by rfl) tg allCells fg _ hobj Tryd.underlying71 (by rfl) (by kernel_rfl) ?_)
  clear hobj
  obtain ⟨AC, hAC⟩ : ∃ AC, AC = allCells := ⟨_, rfl⟩
  rw [← hAC]
  have HAC := hid hAC
  clear hAC
  go_loopw [4, 16] (fun kv i wr => ∃ k : Nat, k ≤ 24 ∧ i = .int .i64 k ∧ kv = .int .i64 (kindK k w0) ∧ St w wr [(b2, .cells zStep 32 (0, 0))]) (fun _ i _ => 24 - (intOf i).toNat)
  case atStart => exact ⟨0, by omega, rfl, rfl, hS1⟩
  case round =>
    clear hS1
    obtain ⟨k, hk, rfl, rfl, hS⟩ := hrel
    by_cases hlt : k < 24
    · have hlt' : (k : Int) < 24 := by omega
      have hix : ∀ W : World, (Instr.index 71 (.agg AC) (.int .i64 k)).run Tryd.prog W = .ok (.agg #[.string (S (rowOf k).word), .int .i64 (rowOf k).n, .int .i64 (rowOf k).s, .bool (rowOf k).o, .bool (rowOf k).a]) W := fun W => by rw [HAC.out]; exact idx_row k hlt W
      have hb0 : b0 < wr.heap.size := Nat.lt_of_lt_of_le hlb hS.sz
      have c0 := hS.old HC0.out
      have hS2 := hid (hS.alloc (.cells #[.string (S (rowOf k).word), .int .i64 (rowOf k).n, .int .i64 (rowOf k).s, .bool (rowOf k).o, .bool (rowOf k).a] 70)).tail
      clear hS
      by_cases hk0 : k = 0
      · subst hk0
        have hix0 : ∀ W : World, (Instr.index 71 (.agg AC) (.int .i64 0)).run Tryd.prog W = .ok (.agg #[.string (S (rowOf 0).word), .int .i64 (rowOf 0).n, .int .i64 (rowOf 0).s, .bool (rowOf 0).o, .bool (rowOf 0).a]) W := hix
        have HKS : Hid (kindK 1 w0 = kindK 0 w0) := hid (by rw [kindK_succ, if_neg (by omega)])
        go_wp2_with fail
        go_quiet (fail)
        go_wp2_with fail
        exact ⟨⟨1, by omega, by go_num, by rw [HKS.out], by first | exact hS2.out | exact hS2.out.drewN _⟩, by simp [intOf]⟩
      · have hkp : (0 : Int) < (k : Int) := by omega
        have hkn : 0 < k := by omega
        have hkd : decide (0 < k) = true := decide_eq_true hkn
        clear hk0
        by_cases hw : (rowOf k).word = w0
        · have HKS : Hid (kindK (k + 1) w0 = k) := hid (by rw [kindK_succ, if_pos ⟨hkn, hw⟩])
          have he1 : (S (rowOf k).word == S w0) = true := by rw [hw]; exact (S_beq' _ _).trans (by simp)
          have he2 : ((rowOf k).word == w0) = true := by simp [hw]
          clear hw
          go_wp2_with fail
          go_quiet (fail)
          go_wp2_with fail
          exact ⟨⟨k + 1, by omega, by go_num, by rw [HKS.out], by first | exact hS2.out | exact hS2.out.drewN _⟩, by simp [intOf]; omega⟩
        · have HKS : Hid (kindK (k + 1) w0 = kindK k w0) := hid (by rw [kindK_succ, if_neg (fun h => hw h.2)])
          have he1 : (S (rowOf k).word == S w0) = false := by rw [S_beq']; simp [hw]
          have he2 : ((rowOf k).word == w0) = false := by simp [hw]
          clear hw
          go_wp2_with fail
          go_quiet (fail)
          go_wp2_with fail
          exact ⟨⟨k + 1, by omega, by go_num, by rw [HKS.out], by first | exact hS2.out | exact hS2.out.drewN _⟩, by simp [intOf]; omega⟩
    · have hk24 : k = 24 := by omega
      subst hk24
      rw [show kindK 24 w0 = kindOfS w0 from rfl]
      clear hlt hk
      rw [← HK.out]
      have htb := fun j x h => hS.old (HE.out.tbl 1 (by omega) j x h)
      rw [HR.out] at htb
      have t0 : wr.cell? ⟨0, 5, none⟩ = some (.string (S wd)) := htb 0 _ rfl
      have t1 : wr.cell? ⟨0, 6, none⟩ = some (.int .i64 3) := htb 1 _ rfl
      have t2 : wr.cell? ⟨0, 7, none⟩ = some (.int .i64 0) := htb 2 _ rfl
      have t3 : wr.cell? ⟨0, 8, none⟩ = some (.bool true) := htb 3 _ rfl
      have t4 : wr.cell? ⟨0, 9, none⟩ = some (.bool false) := htb 4 _ rfl
      clear htb
      obtain ⟨a1, cc1, hsl, hv1⟩ := HCUT.out
      have HV1 := hid hv1
      clear hv1
      go_upto_region 10 with (fail)
      have nn0 := World.new_ne wr ⟨0, 5, none⟩ t0
      have nn1 := World.new_ne wr ⟨0, 6, none⟩ t1
      have nn2 := World.new_ne wr ⟨0, 7, none⟩ t2
      have nn3 := World.new_ne wr ⟨0, 8, none⟩ t3
      have nn4 := World.new_ne wr ⟨0, 9, none⟩ t4
      go_region_held3 (fun w' => w'.cell? ⟨0, 5, none⟩ = some (.string (S wd)) ∧ w'.cell? ⟨0, 6, none⟩ = some (.int .i64 3) ∧ w'.cell? ⟨0, 7, none⟩ = some (.int .i64 0) ∧ w'.cell? ⟨0, 8, none⟩ = some (.bool true) ∧ w'.cell? ⟨0, 9, none⟩ = some (.bool false))
        (first | exact ⟨t0, t1, t2, t3, t4⟩ | go_keep) (fail)
      clear nn0 nn1 nn2 nn3 nn4
      go_upto_region 11 with (fail)
      first | refine ((hS.alloc (.cells #[.string (S wd), .int .i64 3, .int .i64 0, .bool true, .bool false] 70)).drew).nameC ?_ | refine (hS.alloc (.cells #[.string (S wd), .int .i64 3, .int .i64 0, .bool true, .bool false] 70)).nameC ?_
      obtain ⟨br, hbr⟩ : ∃ br, br = wr.heap.size := ⟨_, rfl⟩
      rw [← hbr]
      clear hbr t0 t1 t2 t3 t4
      intro W4 hS4
      have rr1 := hS4.rd List.mem_cons_self (i := 1) rfl; have rr2 := hS4.rd List.mem_cons_self (i := 2) rfl; have rr4 := hS4.rd List.mem_cons_self (i := 4) rfl
      have HF : Hid (readS (w0 :: rest) = .no 270) := hid (read_count (r := ⟨wd, 3, 0, true, false⟩) HK.out HR.out (.inl ⟨rfl, by show rest.length ≠ 3 + 0; have := HCN.out; omega⟩))
      have hc1 : ((rest.length : Int) != 3) = true := bne_iff_ne.2 (by have := HCN.out; omega)
      have hE := hS4.swap
      have y0 := hE.cellH 0; have y1 := hE.cellH 1; have y2 := hE.cellH 2; have y3 := hE.cellH 3; have y4 := hE.cellH 4; have y5 := hE.cellH 5
      simp only [zStep, List.getElem?_toArray, List.getElem?_cons_zero, List.getElem?_cons_succ] at y0 y1 y2 y3 y4 y5
      have z0 := hE.freeH 0; have z1 := hE.freeH 1; have z2 := hE.freeH 2; have z3 := hE.freeH 3; have z4 := hE.freeH 4; have z5 := hE.freeH 5
      go_wp2_with fail
      refine (hE.set6 _ _ _ _ _ _).nameB ?_
      clear y0 y1 y2 y3 y4 y5 z0 z1 z2 z3 z4 z5
      clear hE
      intro We hSe
      have y0 := hSe.cellH 0; have y1 := hSe.cellH 1; have y2 := hSe.cellH 2; have y3 := hSe.cellH 3; have y4 := hSe.cellH 4; have y5 := hSe.cellH 5
      simp only [zStep, List.getElem?_toArray, List.getElem?_cons_zero, List.getElem?_cons_succ] at y0 y1 y2 y3 y4 y5
      refine bodyPost_ret (v := .tuple #[.agg zStep, .int .i64 270]) (by simp [results, Tryd.results27, go_sem, y0, y1, y2, y3, y4, y5, zStep]) rfl ?_
      exact spost_no HF.out rfl hSe.toSt0
set_option maxRecDepth 100000 in
set_option maxHeartbeats 4000000 in
theorem Read_cntM (w : World) (v0 : Value) (w0 : List UInt8) (rest : List (List UInt8)) (hv : RowOf w v0 (LS (w0 :: rest))) (hlen : rest.length ≤ 1000000000) (hbs : ∀ x ∈ rest, x.length ≤ 1000000000) (he : DEnv w) (hK : kindOfS w0 = 13) (hcnt : ¬ (rest.length % 3 = 0)) :
    Calls Tryd.prog 27 #[v0] w (StepPost (w0 :: rest) w) := by
  obtain ⟨ad, cap, rfl, h1, h2, h3⟩ := hv
  obtain ⟨b0, o0, rfl, hc⟩ := h3 (by simp [LS])
  rw [LS_len, List.length_cons] at h1 ⊢
  have hcut := cut_tail w b0 o0 rest.length cap (LS rest) (LS_len rest) h1 h2 (fun i x hx => hc (i + 1) x hx)
  unfold maxLen at h2
  have c0 : w.cell? ⟨b0, o0, none⟩ = some (.string (S w0)) := by have := hc 0 _ rfl; simpa using this
  have hlb : b0 < w.heap.size := World.block_lt_of_cell? w _ c0
  have HCUT := hid hcut; have HBS := hid hbs; have HE := hid he; have HC0 := hid c0
  clear h3 hc hbs he hcut c0
  have hpos : (0 : Int) < (((rest.length + 1 : Nat) : Int)) := by omega
  obtain ⟨i0, hi, hz0, hz1, hz2⟩ := info_parts infoStr
  obtain ⟨i1, hi1, hy0, hy1, hy2⟩ := info_parts infoInt'
  have HK : Hid (13 = kindOfS w0) := hid hK.symm
  clear hK
  obtain ⟨wd, hwd⟩ : ∃ wd, wd = (rowOf 13).word := ⟨_, rfl⟩
  have HR : Hid (rowOf 13 = ⟨wd, 2, 1, false, true⟩) := hid (by rw [hwd]; rfl)
  clear hwd
  have HCN := hid hcnt
  clear hcnt
  go_enter Tryd.func27, Tryd.ntmps27
  go_upto_region 2 with (fail)
  have hS1 := (St.refl w).alloc (.cells zStep 32)
  obtain ⟨b2, hb2⟩ : ∃ b2, b2 = w.heap.size := ⟨_, rfl⟩
  rw [← hb2] at hS1 ⊢
  clear hb2
  refine hS1.nameC ?_
  clear hS1
  intro W1 hS1
  obtain ⟨tg, fg, hobj⟩ := (HE.out.st hS1).obj
  go_wp2_with (refine wpList_load_row (by rfl) _ _ (by rfl) 0 (by rfl) tg allCells fg _ hobj Tryd.underlying71 (by rfl) (by kernel_rfl) ?_)
  clear hobj
  obtain ⟨AC, hAC⟩ : ∃ AC, AC = allCells := ⟨_, rfl⟩
  rw [← hAC]
  have HAC := hid hAC
  clear hAC
  go_loopw [4, 16] (fun kv i wr => ∃ k : Nat, k ≤ 24 ∧ i = .int .i64 k ∧ kv = .int .i64 (kindK k w0) ∧ St w wr [(b2, .cells zStep 32 (0, 0))]) (fun _ i _ => 24 - (intOf i).toNat)
  case atStart => exact ⟨0, by omega, rfl, rfl, hS1⟩
  case round =>
    clear hS1
    obtain ⟨k, hk, rfl, rfl, hS⟩ := hrel
    by_cases hlt : k < 24
    · have hlt' : (k : Int) < 24 := by omega
      have hix : ∀ W : World, (Instr.index 71 (.agg AC) (.int .i64 k)).run Tryd.prog W = .ok (.agg #[.string (S (rowOf k).word), .int .i64 (rowOf k).n, .int .i64 (rowOf k).s, .bool (rowOf k).o, .bool (rowOf k).a]) W := fun W => by rw [HAC.out]; exact idx_row k hlt W
      have hb0 : b0 < wr.heap.size := Nat.lt_of_lt_of_le hlb hS.sz
      have c0 := hS.old HC0.out
      have hS2 := hid (hS.alloc (.cells #[.string (S (rowOf k).word), .int .i64 (rowOf k).n, .int .i64 (rowOf k).s, .bool (rowOf k).o, .bool (rowOf k).a] 70)).tail
      clear hS
      by_cases hk0 : k = 0
      · subst hk0
        have hix0 : ∀ W : World, (Instr.index 71 (.agg AC) (.int .i64 0)).run Tryd.prog W = .ok (.agg #[.string (S (rowOf 0).word), .int .i64 (rowOf 0).n, .int .i64 (rowOf 0).s, .bool (rowOf 0).o, .bool (rowOf 0).a]) W := hix
        have HKS : Hid (kindK 1 w0 = kindK 0 w0) := hid (by rw [kindK_succ, if_neg (by omega)])
        go_wp2_with fail
        go_quiet (fail)
        go_wp2_with fail
        exact ⟨⟨1, by omega, by go_num, by rw [HKS.out], by first | exact hS2.out | exact hS2.out.drewN _⟩, by simp [intOf]⟩
      · have hkp : (0 : Int) < (k : Int) := by omega
        have hkn : 0 < k := by omega
        have hkd : decide (0 < k) = true := decide_eq_true hkn
        clear hk0
        by_cases hw : (rowOf k).word = w0
        · have HKS : Hid (kindK (k + 1) w0 = k) := hid (by rw [kindK_succ, if_pos ⟨hkn, hw⟩])
          have he1 : (S (rowOf k).word == S w0) = true := by rw [hw]; exact (S_beq' _ _).trans (by simp)
          have he2 : ((rowOf k).word == w0) = true := by simp [hw]
          clear hw
          go_wp2_with fail
          go_quiet (fail)
          go_wp2_with fail
          exact ⟨⟨k + 1, by omega, by go_num, by rw [HKS.out], by first | exact hS2.out | exact hS2.out.drewN _⟩, by simp [intOf]; omega⟩
        · have HKS : Hid (kindK (k + 1) w0 = kindK k w0) := hid (by rw [kindK_succ, if_neg (fun h => hw h.2)])
          have he1 : (S (rowOf k).word == S w0) = false := by rw [S_beq']; simp [hw]
          have he2 : ((rowOf k).word == w0) = false := by simp [hw]
          clear hw
          go_wp2_with fail
          go_quiet (fail)
          go_wp2_with fail
          exact ⟨⟨k + 1, by omega, by go_num, by rw [HKS.out], by first | exact hS2.out | exact hS2.out.drewN _⟩, by simp [intOf]; omega⟩
    · have hk24 : k = 24 := by omega
      subst hk24
      rw [show kindK 24 w0 = kindOfS w0 from rfl]
      clear hlt hk
      rw [← HK.out]
      have htb := fun j x h => hS.old (HE.out.tbl 13 (by omega) j x h)
      rw [HR.out] at htb
      have t0 : wr.cell? ⟨0, 65, none⟩ = some (.string (S wd)) := htb 0 _ rfl
      have t1 : wr.cell? ⟨0, 66, none⟩ = some (.int .i64 2) := htb 1 _ rfl
      have t2 : wr.cell? ⟨0, 67, none⟩ = some (.int .i64 1) := htb 2 _ rfl
      have t3 : wr.cell? ⟨0, 68, none⟩ = some (.bool false) := htb 3 _ rfl
      have t4 : wr.cell? ⟨0, 69, none⟩ = some (.bool true) := htb 4 _ rfl
      clear htb
      obtain ⟨a1, cc1, hsl, hv1⟩ := HCUT.out
      have HV1 := hid hv1
      clear hv1
      go_upto_region 10 with (fail)
      have nn0 := World.new_ne wr ⟨0, 65, none⟩ t0
      have nn1 := World.new_ne wr ⟨0, 66, none⟩ t1
      have nn2 := World.new_ne wr ⟨0, 67, none⟩ t2
      have nn3 := World.new_ne wr ⟨0, 68, none⟩ t3
      have nn4 := World.new_ne wr ⟨0, 69, none⟩ t4
      go_region_held3 (fun w' => w'.cell? ⟨0, 65, none⟩ = some (.string (S wd)) ∧ w'.cell? ⟨0, 66, none⟩ = some (.int .i64 2) ∧ w'.cell? ⟨0, 67, none⟩ = some (.int .i64 1) ∧ w'.cell? ⟨0, 68, none⟩ = some (.bool false) ∧ w'.cell? ⟨0, 69, none⟩ = some (.bool true))
        (first | exact ⟨t0, t1, t2, t3, t4⟩ | go_keep) (fail)
      clear nn0 nn1 nn2 nn3 nn4
      go_upto_region 11 with (fail)
      first | refine ((hS.alloc (.cells #[.string (S wd), .int .i64 2, .int .i64 1, .bool false, .bool true] 70)).drew).nameC ?_ | refine (hS.alloc (.cells #[.string (S wd), .int .i64 2, .int .i64 1, .bool false, .bool true] 70)).nameC ?_
      obtain ⟨br, hbr⟩ : ∃ br, br = wr.heap.size := ⟨_, rfl⟩
      rw [← hbr]
      clear hbr t0 t1 t2 t3 t4
      intro W4 hS4
      have rr1 := hS4.rd List.mem_cons_self (i := 1) rfl; have rr2 := hS4.rd List.mem_cons_self (i := 2) rfl; have rr4 := hS4.rd List.mem_cons_self (i := 4) rfl
      have HF : Hid (readS (w0 :: rest) = .no 270) := hid (read_count (r := ⟨wd, 2, 1, false, true⟩) HK.out HR.out (.inr ⟨rfl, by show ¬ (rest.length % (2 + 1) = 0); have := HCN.out; omega⟩))
      have hc1 : ((rest.length : Int) % 3 != 0) = true := bne_iff_ne.2 (by have := HCN.out; omega)
      have hc0 : (0 : Int) ≤ (rest.length : Int) := by omega
      have hE := hS4.swap
      have y0 := hE.cellH 0; have y1 := hE.cellH 1; have y2 := hE.cellH 2; have y3 := hE.cellH 3; have y4 := hE.cellH 4; have y5 := hE.cellH 5
      simp only [zStep, List.getElem?_toArray, List.getElem?_cons_zero, List.getElem?_cons_succ] at y0 y1 y2 y3 y4 y5
      have z0 := hE.freeH 0; have z1 := hE.freeH 1; have z2 := hE.freeH 2; have z3 := hE.freeH 3; have z4 := hE.freeH 4; have z5 := hE.freeH 5
      go_wp2_with fail
      refine (hE.set6 _ _ _ _ _ _).nameB ?_
      clear y0 y1 y2 y3 y4 y5 z0 z1 z2 z3 z4 z5
      clear hE
      intro We hSe
      have y0 := hSe.cellH 0; have y1 := hSe.cellH 1; have y2 := hSe.cellH 2; have y3 := hSe.cellH 3; have y4 := hSe.cellH 4; have y5 := hSe.cellH 5
      simp only [zStep, List.getElem?_toArray, List.getElem?_cons_zero, List.getElem?_cons_succ] at y0 y1 y2 y3 y4 y5
      refine bodyPost_ret (v := .tuple #[.agg zStep, .int .i64 270]) (by simp [results, Tryd.results27, go_sem, y0, y1, y2, y3, y4, y5, zStep]) rfl ?_
      exact spost_no HF.out rfl hSe.toSt0
set_option maxRecDepth 100000 in
set_option maxHeartbeats 4000000 in
theorem Read_cntP (w : World) (v0 : Value) (w0 : List UInt8) (rest : List (List UInt8)) (hv : RowOf w v0 (LS (w0 :: rest))) (hlen : rest.length ≤ 1000000000) (hbs : ∀ x ∈ rest, x.length ≤ 1000000000) (he : DEnv w) (K : Nat) (hK : K = kindOfS w0) (hK0 : K ≠ 0) (hK1' : K ≠ 1) (hK2 : K ≤ 23) (wd : List UInt8) (rn rs : Nat) (hR : rowOf K = ⟨wd, rn, rs, false, false⟩) (hrn : rn ≤ 3) (hrs : rs ≤ 1) (hcnt : ¬ (rest.length = rn + rs)) :
    Calls Tryd.prog 27 #[v0] w (StepPost (w0 :: rest) w) := by
  obtain ⟨ad, cap, rfl, h1, h2, h3⟩ := hv
  obtain ⟨b0, o0, rfl, hc⟩ := h3 (by simp [LS])
  rw [LS_len, List.length_cons] at h1 ⊢
  have hcut := cut_tail w b0 o0 rest.length cap (LS rest) (LS_len rest) h1 h2 (fun i x hx => hc (i + 1) x hx)
  unfold maxLen at h2
  have c0 : w.cell? ⟨b0, o0, none⟩ = some (.string (S w0)) := by have := hc 0 _ rfl; simpa using this
  have hlb : b0 < w.heap.size := World.block_lt_of_cell? w _ c0
  have HCUT := hid hcut; have HBS := hid hbs; have HE := hid he; have HC0 := hid c0
  clear h3 hc hbs he hcut c0
  have hpos : (0 : Int) < (((rest.length + 1 : Nat) : Int)) := by omega
  obtain ⟨i0, hi, hz0, hz1, hz2⟩ := info_parts infoStr
  obtain ⟨i1, hi1, hy0, hy1, hy2⟩ := info_parts infoInt'
  have HK := hid hK; have HR := hid hR
  clear hK hR
  have HCN := hid hcnt
  clear hcnt
  go_enter Tryd.func27, Tryd.ntmps27
  go_upto_region 2 with (fail)
  have hS1 := (St.refl w).alloc (.cells zStep 32)
  obtain ⟨b2, hb2⟩ : ∃ b2, b2 = w.heap.size := ⟨_, rfl⟩
  rw [← hb2] at hS1 ⊢
  clear hb2
  refine hS1.nameC ?_
  clear hS1
  intro W1 hS1
  obtain ⟨tg, fg, hobj⟩ := (HE.out.st hS1).obj
  go_wp2_with (refine wpList_load_row (by rfl) _ _ (by rfl) 0 (by rfl) tg allCells fg _ hobj Tryd.underlying71 (by rfl) (by kernel_rfl) ?_)
  clear hobj
  obtain ⟨AC, hAC⟩ : ∃ AC, AC = allCells := ⟨_, rfl⟩
  rw [← hAC]
  have HAC := hid hAC
  clear hAC
  go_loopw [4, 16] (fun kv i wr => ∃ k : Nat, k ≤ 24 ∧ i = .int .i64 k ∧ kv = .int .i64 (kindK k w0) ∧ St w wr [(b2, .cells zStep 32 (0, 0))]) (fun _ i _ => 24 - (intOf i).toNat)
  case atStart => exact ⟨0, by omega, rfl, rfl, hS1⟩
  case round =>
    clear hS1
    obtain ⟨k, hk, rfl, rfl, hS⟩ := hrel
    by_cases hlt : k < 24
    · have hlt' : (k : Int) < 24 := by omega
      have hix : ∀ W : World, (Instr.index 71 (.agg AC) (.int .i64 k)).run Tryd.prog W = .ok (.agg #[.string (S (rowOf k).word), .int .i64 (rowOf k).n, .int .i64 (rowOf k).s, .bool (rowOf k).o, .bool (rowOf k).a]) W := fun W => by rw [HAC.out]; exact idx_row k hlt W
      have hb0 : b0 < wr.heap.size := Nat.lt_of_lt_of_le hlb hS.sz
      have c0 := hS.old HC0.out
      have hS2 := hid (hS.alloc (.cells #[.string (S (rowOf k).word), .int .i64 (rowOf k).n, .int .i64 (rowOf k).s, .bool (rowOf k).o, .bool (rowOf k).a] 70)).tail
      clear hS
      by_cases hk0 : k = 0
      · subst hk0
        have hix0 : ∀ W : World, (Instr.index 71 (.agg AC) (.int .i64 0)).run Tryd.prog W = .ok (.agg #[.string (S (rowOf 0).word), .int .i64 (rowOf 0).n, .int .i64 (rowOf 0).s, .bool (rowOf 0).o, .bool (rowOf 0).a]) W := hix
        have HKS : Hid (kindK 1 w0 = kindK 0 w0) := hid (by rw [kindK_succ, if_neg (by omega)])
        go_wp2_with fail
        go_quiet (fail)
        go_wp2_with fail
        exact ⟨⟨1, by omega, by go_num, by rw [HKS.out], by first | exact hS2.out | exact hS2.out.drewN _⟩, by simp [intOf]⟩
      · have hkp : (0 : Int) < (k : Int) := by omega
        have hkn : 0 < k := by omega
        have hkd : decide (0 < k) = true := decide_eq_true hkn
        clear hk0
        by_cases hw : (rowOf k).word = w0
        · have HKS : Hid (kindK (k + 1) w0 = k) := hid (by rw [kindK_succ, if_pos ⟨hkn, hw⟩])
          have he1 : (S (rowOf k).word == S w0) = true := by rw [hw]; exact (S_beq' _ _).trans (by simp)
          have he2 : ((rowOf k).word == w0) = true := by simp [hw]
          clear hw
          go_wp2_with fail
          go_quiet (fail)
          go_wp2_with fail
          exact ⟨⟨k + 1, by omega, by go_num, by rw [HKS.out], by first | exact hS2.out | exact hS2.out.drewN _⟩, by simp [intOf]; omega⟩
        · have HKS : Hid (kindK (k + 1) w0 = kindK k w0) := hid (by rw [kindK_succ, if_neg (fun h => hw h.2)])
          have he1 : (S (rowOf k).word == S w0) = false := by rw [S_beq']; simp [hw]
          have he2 : ((rowOf k).word == w0) = false := by simp [hw]
          clear hw
          go_wp2_with fail
          go_quiet (fail)
          go_wp2_with fail
          exact ⟨⟨k + 1, by omega, by go_num, by rw [HKS.out], by first | exact hS2.out | exact hS2.out.drewN _⟩, by simp [intOf]; omega⟩
    · have hk24 : k = 24 := by omega
      subst hk24
      rw [show kindK 24 w0 = kindOfS w0 from rfl]
      clear hlt hk
      rw [← HK.out]
      have hK1 : ((K : Int) == 0) = false := beq_eq_false_iff_ne.2 (by omega)
      have hK24 : (K : Int) < 24 := by omega
      have htb := fun j x h => hS.old (HE.out.tbl K (by omega) j x h)
      rw [HR.out] at htb
      have t0 : wr.cell? ⟨0, K * 5, none⟩ = some (.string (S wd)) := htb 0 _ rfl
      have t1 : wr.cell? ⟨0, K * 5 + 1, none⟩ = some (.int .i64 rn) := htb 1 _ rfl
      have t2 : wr.cell? ⟨0, K * 5 + 2, none⟩ = some (.int .i64 rs) := htb 2 _ rfl
      have t3 : wr.cell? ⟨0, K * 5 + 3, none⟩ = some (.bool false) := htb 3 _ rfl
      have t4 : wr.cell? ⟨0, K * 5 + 4, none⟩ = some (.bool false) := htb 4 _ rfl
      clear htb
      obtain ⟨a1, cc1, hsl, hv1⟩ := HCUT.out
      have HV1 := hid hv1
      clear hv1
      go_upto_region 10 with (fail)
      have nn0 := World.new_ne wr ⟨0, K * 5, none⟩ t0
      have nn1 := World.new_ne wr ⟨0, K * 5 + 1, none⟩ t1
      have nn2 := World.new_ne wr ⟨0, K * 5 + 2, none⟩ t2
      have nn3 := World.new_ne wr ⟨0, K * 5 + 3, none⟩ t3
      have nn4 := World.new_ne wr ⟨0, K * 5 + 4, none⟩ t4
      go_region_held3 (fun w' => w'.cell? ⟨0, K * 5, none⟩ = some (.string (S wd)) ∧ w'.cell? ⟨0, K * 5 + 1, none⟩ = some (.int .i64 rn) ∧ w'.cell? ⟨0, K * 5 + 2, none⟩ = some (.int .i64 rs) ∧ w'.cell? ⟨0, K * 5 + 3, none⟩ = some (.bool false) ∧ w'.cell? ⟨0, K * 5 + 4, none⟩ = some (.bool false))
        (first | exact ⟨t0, t1, t2, t3, t4⟩ | go_keep) (fail)
      clear nn0 nn1 nn2 nn3 nn4
      go_upto_region 11 with (fail)
      first | refine ((hS.alloc (.cells #[.string (S wd), .int .i64 rn, .int .i64 rs, .bool false, .bool false] 70)).drew).nameC ?_ | refine (hS.alloc (.cells #[.string (S wd), .int .i64 rn, .int .i64 rs, .bool false, .bool false] 70)).nameC ?_
      obtain ⟨br, hbr⟩ : ∃ br, br = wr.heap.size := ⟨_, rfl⟩
      rw [← hbr]
      clear hbr t0 t1 t2 t3 t4
      intro W4 hS4
      have rr1 := hS4.rd List.mem_cons_self (i := 1) rfl; have rr2 := hS4.rd List.mem_cons_self (i := 2) rfl; have rr4 := hS4.rd List.mem_cons_self (i := 4) rfl
      have HF : Hid (readS (w0 :: rest) = .no 270) := hid (read_count (r := ⟨wd, rn, rs, false, false⟩) HK.out HR.out (.inl ⟨rfl, HCN.out⟩))
      have hc1 : ((rest.length : Int) != (rn : Int) + (rs : Int)) = true := bne_iff_ne.2 (by have := HCN.out; omega)
      have hE := hS4.swap
      have y0 := hE.cellH 0; have y1 := hE.cellH 1; have y2 := hE.cellH 2; have y3 := hE.cellH 3; have y4 := hE.cellH 4; have y5 := hE.cellH 5
      simp only [zStep, List.getElem?_toArray, List.getElem?_cons_zero, List.getElem?_cons_succ] at y0 y1 y2 y3 y4 y5
      have z0 := hE.freeH 0; have z1 := hE.freeH 1; have z2 := hE.freeH 2; have z3 := hE.freeH 3; have z4 := hE.freeH 4; have z5 := hE.freeH 5
      go_wp2_with fail
      refine (hE.set6 _ _ _ _ _ _).nameB ?_
      clear y0 y1 y2 y3 y4 y5 z0 z1 z2 z3 z4 z5
      clear hE
      intro We hSe
      have y0 := hSe.cellH 0; have y1 := hSe.cellH 1; have y2 := hSe.cellH 2; have y3 := hSe.cellH 3; have y4 := hSe.cellH 4; have y5 := hSe.cellH 5
      simp only [zStep, List.getElem?_toArray, List.getElem?_cons_zero, List.getElem?_cons_succ] at y0 y1 y2 y3 y4 y5
      refine bodyPost_ret (v := .tuple #[.agg zStep, .int .i64 270]) (by simp [results, Tryd.results27, go_sem, y0, y1, y2, y3, y4, y5, zStep]) rfl ?_
      exact spost_no HF.out rfl hSe.toSt0
end Go.Proofs.YtijlfggficjamaaDoor
