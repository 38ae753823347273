/- The contract of play.read: create. -/
import Derived.Test.YtijlfggficjamaaDoorDecRead
import Derived.Deep.RegionLaw
import Derived.Deep.DeepCutAuto
import Derived.Deep.CutRange
import Derived.StillTailTactics
import Derived.Deep.QuietTactic
import Derived.BigQuiet
import Derived.BigRegion
import Derived.RegionTactic
namespace Go.Proofs.YtijlfggficjamaaDoor
set_option linter.unusedVariables false
set_option linter.unusedSimpArgs false
open Go Go.RowKit
open Go.Lib (hid)

set_option maxRecDepth 100000 in
set_option maxHeartbeats 4000000 in
theorem Read_okC (w : World) (v0 : Value) (w0 : List UInt8) (rest : List (List UInt8)) (hv : RowOf w v0 (LS (w0 :: rest))) (hlen : rest.length ≤ 1000000000) (hbs : ∀ x ∈ rest, x.length ≤ 1000000000) (he : DEnv w) (hK : kindOfS w0 = 1) (hcnt : rest.length = 3) :
    Calls Tryd.prog 27 #[v0] w (StepPost (w0 :: rest) w) := by
  obtain ⟨ad, cap, rfl, h1, h2, h3⟩ := hv
  obtain ⟨b0, o0, rfl, hc⟩ := h3 (by simp [LS])
  rw [LS_len, List.length_cons] at h1 ⊢
  have hcut := cut_tail w b0 o0 rest.length cap (LS rest) (LS_len rest) h1 h2 (fun i x hx => hc (i + 1) x hx)
  unfold maxLen at h2
  have c0 : w.cell? ⟨b0, o0, none⟩ = some (.string (S w0)) := by have := hc 0 _ rfl; simpa using this
  have hlb : b0 < w.heap.size := World.block_lt_of_cell? w _ c0
  have HCUT := hid hcut; have HBS := hid hbs; have HE := hid he; have HC0 := hid c0
  clear h3 hc hbs he hcut c0
  have hpos : (0 : Int) < (((rest.length + 1 : Nat) : Int)) := by omega
  obtain ⟨i0, hi, hz0, hz1, hz2⟩ := info_parts infoStr
  obtain ⟨i1, hi1, hy0, hy1, hy2⟩ := info_parts infoInt'
  have HK : Hid (1 = kindOfS w0) := hid hK.symm
  clear hK
  obtain ⟨wd, hwd⟩ : ∃ wd, wd = (rowOf 1).word := ⟨_, rfl⟩
  have HR : Hid (rowOf 1 = ⟨wd, 3, 0, true, false⟩) := hid (by rw [hwd]; rfl)
  clear hwd
  have HCnt := hid hcnt
  clear hcnt
  go_enter Tryd.func27, Tryd.ntmps27
  go_upto_region 2 with (fail)
  have hS1 := (St.refl w).alloc (.cells zStep 32)
  obtain ⟨b2, hb2⟩ : ∃ b2, b2 = w.heap.size := ⟨_, rfl⟩
  rw [← hb2] at hS1 ⊢
  clear hb2
  refine hS1.nameC ?_
  clear hS1
  intro W1 hS1
  obtain ⟨tg, fg, hobj⟩ := (HE.out.st hS1).obj
  go_wp2_with (refine wpList_load_row (by rfl) _ _ (by rfl) 0 (by rfl) tg allCells fg _ hobj Tryd.underlying71 (by rfl) (by kernel_rfl) ?_)
  clear hobj
  obtain ⟨AC, hAC⟩ : ∃ AC, AC = allCells := ⟨_, rfl⟩
  rw [← hAC]
  have HAC := hid hAC
  clear hAC
  go_loopw [4, 16] (fun kv i wr => ∃ k : Nat, k ≤ 24 ∧ i = .int .i64 k ∧ kv = .int .i64 (kindK k w0) ∧ St w wr [(b2, .cells zStep 32 (0, 0))]) (fun _ i _ => 24 - (intOf i).toNat)
  case atStart => exact ⟨0, by omega, rfl, rfl, hS1⟩
  case round =>
    clear hS1
    obtain ⟨k, hk, rfl, rfl, hS⟩ := hrel
    by_cases hlt : k < 24
    · have hlt' : (k : Int) < 24 := by omega
      have hix : ∀ W : World, (Instr.index 71 (.agg AC) (.int .i64 k)).run Tryd.prog W = .ok (.agg #[.string (S (rowOf k).word), .int .i64 (rowOf k).n, .int .i64 (rowOf k).s, .bool (rowOf k).o, .bool (rowOf k).a]) W := fun W => by rw [HAC.out]; exact idx_row k hlt W
      have hb0 : b0 < wr.heap.size := Nat.lt_of_lt_of_le hlb hS.sz
      have c0 := hS.old HC0.out
      have hS2 := hid (hS.alloc (.cells #[.string (S (rowOf k).word), .int .i64 (rowOf k).n, .int .i64 (rowOf k).s, .bool (rowOf k).o, .bool (rowOf k).a] 70)).tail
      clear hS
      by_cases hk0 : k = 0
      · subst hk0
        have hix0 : ∀ W : World, (Instr.index 71 (.agg AC) (.int .i64 0)).run Tryd.prog W = .ok (.agg #[.string (S (rowOf 0).word), .int .i64 (rowOf 0).n, .int .i64 (rowOf 0).s, .bool (rowOf 0).o, .bool (rowOf 0).a]) W := hix
        have HKS : Hid (kindK 1 w0 = kindK 0 w0) := hid (by rw [kindK_succ, if_neg (by omega)])
        go_wp2_with fail
        go_quiet (fail)
        go_wp2_with fail
        exact ⟨⟨1, by omega, by go_num, by rw [HKS.out], by first | exact hS2.out | exact hS2.out.drewN _⟩, by simp [intOf]⟩
      · have hkp : (0 : Int) < (k : Int) := by omega
        have hkn : 0 < k := by omega
        have hkd : decide (0 < k) = true := decide_eq_true hkn
        clear hk0
        by_cases hw : (rowOf k).word = w0
        · have HKS : Hid (kindK (k + 1) w0 = k) := hid (by rw [kindK_succ, if_pos ⟨hkn, hw⟩])
          have he1 : (S (rowOf k).word == S w0) = true := by rw [hw]; exact (S_beq' _ _).trans (by simp)
          have he2 : ((rowOf k).word == w0) = true := by simp [hw]
          clear hw
          go_wp2_with fail
          go_quiet (fail)
          go_wp2_with fail
          exact ⟨⟨k + 1, by omega, by go_num, by rw [HKS.out], by first | exact hS2.out | exact hS2.out.drewN _⟩, by simp [intOf]; omega⟩
        · have HKS : Hid (kindK (k + 1) w0 = kindK k w0) := hid (by rw [kindK_succ, if_neg (fun h => hw h.2)])
          have he1 : (S (rowOf k).word == S w0) = false := by rw [S_beq']; simp [hw]
          have he2 : ((rowOf k).word == w0) = false := by simp [hw]
          clear hw
          go_wp2_with fail
          go_quiet (fail)
          go_wp2_with fail
          exact ⟨⟨k + 1, by omega, by go_num, by rw [HKS.out], by first | exact hS2.out | exact hS2.out.drewN _⟩, by simp [intOf]; omega⟩
    · have hk24 : k = 24 := by omega
      subst hk24
      rw [show kindK 24 w0 = kindOfS w0 from rfl]
      clear hlt hk
      rw [← HK.out]
      have htb := fun j x h => hS.old (HE.out.tbl 1 (by omega) j x h)
      rw [HR.out] at htb
      have t0 : wr.cell? ⟨0, 5, none⟩ = some (.string (S wd)) := htb 0 _ rfl
      have t1 : wr.cell? ⟨0, 6, none⟩ = some (.int .i64 3) := htb 1 _ rfl
      have t2 : wr.cell? ⟨0, 7, none⟩ = some (.int .i64 0) := htb 2 _ rfl
      have t3 : wr.cell? ⟨0, 8, none⟩ = some (.bool true) := htb 3 _ rfl
      have t4 : wr.cell? ⟨0, 9, none⟩ = some (.bool false) := htb 4 _ rfl
      clear htb
      obtain ⟨a1, cc1, hsl, hv1⟩ := HCUT.out
      have HV1 := hid hv1
      clear hv1
      go_upto_region 10 with (fail)
      have nn0 := World.new_ne wr ⟨0, 5, none⟩ t0
      have nn1 := World.new_ne wr ⟨0, 6, none⟩ t1
      have nn2 := World.new_ne wr ⟨0, 7, none⟩ t2
      have nn3 := World.new_ne wr ⟨0, 8, none⟩ t3
      have nn4 := World.new_ne wr ⟨0, 9, none⟩ t4
      go_region_held3 (fun w' => w'.cell? ⟨0, 5, none⟩ = some (.string (S wd)) ∧ w'.cell? ⟨0, 6, none⟩ = some (.int .i64 3) ∧ w'.cell? ⟨0, 7, none⟩ = some (.int .i64 0) ∧ w'.cell? ⟨0, 8, none⟩ = some (.bool true) ∧ w'.cell? ⟨0, 9, none⟩ = some (.bool false))
        (first | exact ⟨t0, t1, t2, t3, t4⟩ | go_keep) (fail)
      clear nn0 nn1 nn2 nn3 nn4
      go_upto_region 11 with (fail)
      first | refine ((hS.alloc (.cells #[.string (S wd), .int .i64 3, .int .i64 0, .bool true, .bool false] 70)).drew).nameC ?_ | refine (hS.alloc (.cells #[.string (S wd), .int .i64 3, .int .i64 0, .bool true, .bool false] 70)).nameC ?_
      obtain ⟨br, hbr⟩ : ∃ br, br = wr.heap.size := ⟨_, rfl⟩
      rw [← hbr]
      clear hbr t0 t1 t2 t3 t4
      intro W4 hS4
      have rr1 := hS4.rd List.mem_cons_self (i := 1) rfl; have rr2 := hS4.rd List.mem_cons_self (i := 2) rfl; have rr4 := hS4.rd List.mem_cons_self (i := 4) rfl
      have hc1 : ((rest.length : Int) != 3) = false := bne_eq_false_iff_eq.2 (by have := HCnt.out; omega)
      have hNo : ¬ ((false = false ∧ rest.length ≠ 3 + 0) ∨ (false = true ∧ rest.length % (3 + 0) ≠ 0)) := by
        rintro (⟨_, h⟩ | ⟨h, _⟩)
        · exact h (by show rest.length = 3 + 0; exact HCnt.out)
        · cases h
      have HFill : Hid (readS (w0 :: rest) = match fill 3 (3 + 0) 0 rest [] [] with
        | none => .no 30
        | some (N, T) => .ok ⟨1, [], T.map S, N.getD 0 0, N.getD 1 0, N.getD 2 0⟩) := hid (read_fill (r := ⟨wd, 3, 0, true, false⟩) (K := 1) HK.out (by omega) HR.out hNo)
      clear hNo
      go_wp2_with fail
      have hS5 := hS4.alloc (.cells #[.int .i64 1, .slice none 0 0, .slice none 0 0, .int .i64 0, .int .i64 0, .int .i64 0] 32)
      obtain ⟨bs, hbs'⟩ : ∃ bs, bs = W4.heap.size := ⟨_, rfl⟩
      rw [← hbs'] at hS5 ⊢
      clear hbs' hS4 rr1 rr2 rr4
      refine hS5.nameC ?_
      clear hS5
      intro W5 hS5
      clear hc1
      go_loopw [70] (fun i wr => ∃ (j : Nat) (N : List Int) (T : List (List UInt8)) (nv sv : Value) (F1 F2 : Frag), j ≤ rest.length ∧ i = .int .i64 j ∧ Hid (fill 3 (3 + 0) 0 rest [] [] = fill 3 (3 + 0) j (rest.drop j) N T) ∧ N.length + T.length ≤ j ∧ Rw 3 1 nv N.length (ints N) F1 ∧ Rw 9 1 sv T.length (LS T) F2 ∧ St w wr (F1 ++ (F2 ++ [(bs, .cells #[.int .i64 1, nv, sv, .int .i64 0, .int .i64 0, .int .i64 0] 32 (0, 0)), (br, .cells #[.string (S wd), .int .i64 3, .int .i64 0, .bool true, .bool false] 70 (0, 0)), (b2, .cells zStep 32 (0, 0))]))) (fun i _ => rest.length - (intOf i).toNat)
      case atStart => exact ⟨0, [], [], .slice none 0 0, .slice none 0 0, [], [], Nat.zero_le _, rfl, hid rfl, by simp, Rw.nil _ _, Rw.nil _ _, hS5⟩
      case round =>
        clear hS5 hS
        obtain ⟨j, N, T, nv, sv, F1, F2, hj2, rfl, hF, hNT, hR1, hR2, hS⟩ := hrel
        obtain ⟨an, cn, rfl, _, _, hn0⟩ := hR1.form
        obtain ⟨ar, cs, rfl, _, _, hs0⟩ := hR2.form
        have HS := hid hS; have HR1 := hid hR1; have HR2 := hid hR2
        clear hS hR1 hR2 hn0 hs0
        by_cases hlt : j < rest.length
        · have hj4 : (j : Int) < 3 := by have := HCnt.out; omega
          have hj5 : j < 3 := by have := HCnt.out; omega
          have hEp : 0 < 3 := by have := HCnt.out; omega
          obtain ⟨x, hx⟩ : ∃ x, x = rest[j] := ⟨_, rfl⟩
          have hxl : x.length ≤ 1000000000 := by rw [hx]; exact HBS.out _ (List.getElem_mem hlt)
          have HD : Hid (rest.drop j = x :: rest.drop (j + 1)) := hid (by rw [hx]; exact List.drop_eq_getElem_cons hlt)
          obtain ⟨a1', cc1', hva, _, _, hvc⟩ := HV1.out
          injection hva with e1 e2 e3
          subst e1; subst e3
          obtain ⟨b1, o1, rfl, hcc⟩ := hvc (by intro e; have h := congrArg List.length e; rw [LS_len] at h; simp at h; rw [h] at hlt; simp at hlt)
          have hcx : w.cell? ⟨b1, o1 + j, none⟩ = some (.string (S x)) := hcc j _ (by rw [LS_get rest j hlt, hx])
          clear hx hcc e2
          have hca := HS.out.old hcx
          have HCX := hid hcx
          clear hcx
          have HIN := hid (List.mem_append_right F1 (List.mem_append_right F2 (List.mem_cons_self (a := (bs, Obj.cells #[.int .i64 1, .slice an N.length cn, .slice ar T.length cs, .int .i64 0, .int .i64 0, .int .i64 0] 32 (0, 0))) (l := [(br, .cells #[.string (S wd), .int .i64 3, .int .i64 0, .bool true, .bool false] 70 (0, 0)), (b2, .cells zStep 32 (0, 0))]))))
          have hrr := HS.out.appR.appR.tail.rd List.mem_cons_self (i := 1) rfl
          by_cases hmod : j % (3 + 0) < 3
          · have hm1 : (j : Int) % (3 : Int) < (3 : Int) := by
              have e : ((j % (3 + 0) : Nat) : Int) = (j : Int) % (3 : Int) := by rw [Int.natCast_emod]; rfl
              rw [← e]; exact_mod_cast hmod
            have HMod := hid hmod
            clear hmod
            go_wp2_with fail
            go_quiet (fail)
            go_upto_region 20 with (fail)
            refine (HS.out.drewN _).nameC ?_
            clear hca hrr hm1
            intro wq hq
            have HQ := hid hq
            clear hq
            have hcase : (∃ v, Lib.atoiAll x = .ok v ∧ Lib.itoa v = x) ∨ (∃ v, Lib.atoiAll x = .ok v ∧ Lib.itoa v ≠ x) ∨ (∀ v, Lib.atoiAll x ≠ .ok v) := by
              rcases h : Lib.atoiAll x with v | _ | _
              · by_cases hi : Lib.itoa v = x
                · exact .inl ⟨v, rfl, hi⟩
                · exact .inr (.inl ⟨v, rfl, hi⟩)
              · exact .inr (.inr (fun v e => by cases e))
              · exact .inr (.inr (fun v e => by cases e))
            rcases hcase with ⟨v, hav, hiv⟩ | ⟨v, hav, hiv⟩ | hno
            · have HU : Hid (undecS x = some v) := hid (by rw [undec_ok hav, if_pos hiv])
              have hrg := undec_some HU.out
              have HF2 : Hid (fill 3 (3 + 0) 0 rest [] [] = fill 3 (3 + 0) (j + 1) (rest.drop (j + 1)) (N ++ [v]) T) := hid (by
                rw [hF.out, HD.out, fill_num HMod.out HU.out])
              have HAV := hid hav; have HIV := hid hiv; have HRG := hid hrg
              have hq1 : (S (Lib.itoa v) != S x) = false := by rw [hiv]; exact S_ne' x
              have hq2 : (Lib.itoa v != x) = false := by simp [hiv]
              have hq3 : (Lib.itoa v == x) = true := by simp [hiv]
              clear hav hiv hrg
              go_wp2_with fail
              refine (atoi_yes HAV.out _ hxl).mono ?_
              rintro e w1 ⟨rfl, hb1⟩
              have hS1 := hid (HQ.out.callB hb1)
              clear hb1
              go_wp2_with fail
              refine (itoa_c v _ HRG.out.2.1 HRG.out.2.2 (HE.out.st hS1.out).tab).mono ?_
              rintro e w1' ⟨rfl, hb1⟩
              have hS2 := hS1.out.callB hb1
              have hn1 := hS2.rd HIN.out (i := 1) rfl
              have HS1 := hid hS2
              clear hb1 hS2
              go_wp2_with (at_builtin; refine append_st (by rfl) _ _ 27 (by rfl) 3 i1 (.int .i64 0) 1 8 Tryd.underlying27 hi1 hy0 hy1 hy2 (by rfl) (by decide) (.slice an N.length cn) N.length (ints N) F1 _ (by rfl) HR1.out HS1.out 1 w1'.heap.size [.int .i64 v] (by rfl) (by rfl) (by rfl) (by intro u hu; simp at hu; subst hu; rfl) (by unfold maxLen; omega) (by omega) ?_)
              intro v' w2 F' hR' hS'
              rw [ints_one] at hR'
              obtain ⟨an', cn', rfl, _, _, _⟩ := hR'.form
              have hb1 := hS'.rd (b := bs) (i := 1) (List.mem_append_right _ (List.mem_append_right _ List.mem_cons_self)) rfl
              have hf1 := hS'.free (b := bs) (List.mem_append_right _ (List.mem_append_right _ List.mem_cons_self)) 1
              have HS3 : Hid (St w (w2.setCell ⟨bs, 1, none⟩ (.slice an' (N.length + 1) cn')) (F' ++ (F2 ++ [(bs, .cells #[.int .i64 1, .slice an' (N.length + 1) cn', .slice ar T.length cs, .int .i64 0, .int .i64 0, .int .i64 0] 32 (0, 0)), (br, .cells #[.string (S wd), .int .i64 3, .int .i64 0, .bool true, .bool false] 70 (0, 0)), (b2, .cells zStep 32 (0, 0))]))) := hid (by
                have := hS'
                rw [← List.append_assoc] at this ⊢
                exact this.setAt 1 _)
              have HR' := hid hR'
              clear hR' hS' hn1 hq2 hq3
              go_wp2_with fail
              exact ⟨⟨j + 1, N ++ [v], T, .slice an' (N.length + 1) cn', .slice ar T.length cs, F', F2, by omega, by go_num, HF2, by simp; omega, by simpa using HR'.out, HR2.out, HS3.out⟩, by simp [intOf]; omega⟩
            · have HU : Hid (undecS x = none) := hid (by rw [undec_ok hav, if_neg hiv])
              have HF : Hid (readS (w0 :: rest) = .no 30) := hid (by rw [HFill.out, hF.out, HD.out, fill_bad HMod.out HU.out])
              have hrg : -9223372036854775808 ≤ v ∧ v ≤ 9223372036854775807 := atoi_rng hav
              have HAV := hid hav; have HRG := hid hrg
              have hq1 : (S (Lib.itoa v) != S x) = true := S_neq hiv
              have hq2 : (Lib.itoa v != x) = true := by simp [hiv]
              have hq3 : (Lib.itoa v == x) = false := by simp [hiv]
              clear hav hiv hrg
              go_wp2_with fail
              refine (atoi_yes HAV.out _ hxl).mono ?_
              rintro e w1 ⟨rfl, hb1⟩
              have hS1 := hid (HQ.out.callB hb1)
              clear hb1
              go_wp2_with fail
              refine (itoa_c v _ HRG.out.1 HRG.out.2 (HE.out.st hS1.out).tab).mono ?_
              rintro e w1' ⟨rfl, hb1⟩
              have hS2 := hS1.out.callB hb1
              clear hb1
              have hE := (((hS2.appR).appR.tail).swap)
              have y0 := hE.cellH 0; have y1 := hE.cellH 1; have y2 := hE.cellH 2; have y3 := hE.cellH 3; have y4 := hE.cellH 4; have y5 := hE.cellH 5
              simp only [zStep, List.getElem?_toArray, List.getElem?_cons_zero, List.getElem?_cons_succ] at y0 y1 y2 y3 y4 y5
              have z0 := hE.freeH 0; have z1 := hE.freeH 1; have z2 := hE.freeH 2; have z3 := hE.freeH 3; have z4 := hE.freeH 4; have z5 := hE.freeH 5
              go_wp2_with fail
              refine (hE.set6 _ _ _ _ _ _).nameB ?_
              clear y0 y1 y2 y3 y4 y5 z0 z1 z2 z3 z4 z5
              clear hE
              intro We hSe
              have y0 := hSe.cellH 0; have y1 := hSe.cellH 1; have y2 := hSe.cellH 2; have y3 := hSe.cellH 3; have y4 := hSe.cellH 4; have y5 := hSe.cellH 5
              simp only [zStep, List.getElem?_toArray, List.getElem?_cons_zero, List.getElem?_cons_succ] at y0 y1 y2 y3 y4 y5
              refine bodyPost_ret (v := .tuple #[.agg zStep, .int .i64 30]) (by simp [results, Tryd.results27, go_sem, y0, y1, y2, y3, y4, y5, zStep]) rfl ?_
              exact spost_no HF.out rfl hSe.toSt0
            · have HU : Hid (undecS x = none) := hid (undec_no hno)
              have HF : Hid (readS (w0 :: rest) = .no 30) := hid (by rw [HFill.out, hF.out, HD.out, fill_bad HMod.out HU.out])
              have HNO := hid hno
              clear hno
              go_wp2_with fail
              refine (atoi_no HNO.out _ hxl (HE.out.st HQ.out)).mono ?_
              rintro e w1 ⟨n1, N1, rfl, hb1⟩
              have hS2 := HQ.out.callB hb1
              clear hb1
              have hE := (((hS2.appR).appR.tail).swap)
              have y0 := hE.cellH 0; have y1 := hE.cellH 1; have y2 := hE.cellH 2; have y3 := hE.cellH 3; have y4 := hE.cellH 4; have y5 := hE.cellH 5
              simp only [zStep, List.getElem?_toArray, List.getElem?_cons_zero, List.getElem?_cons_succ] at y0 y1 y2 y3 y4 y5
              have z0 := hE.freeH 0; have z1 := hE.freeH 1; have z2 := hE.freeH 2; have z3 := hE.freeH 3; have z4 := hE.freeH 4; have z5 := hE.freeH 5
              go_wp2_with fail
              refine (hE.set6 _ _ _ _ _ _).nameB ?_
              clear y0 y1 y2 y3 y4 y5 z0 z1 z2 z3 z4 z5
              clear hE
              intro We hSe
              have y0 := hSe.cellH 0; have y1 := hSe.cellH 1; have y2 := hSe.cellH 2; have y3 := hSe.cellH 3; have y4 := hSe.cellH 4; have y5 := hSe.cellH 5
              simp only [zStep, List.getElem?_toArray, List.getElem?_cons_zero, List.getElem?_cons_succ] at y0 y1 y2 y3 y4 y5
              refine bodyPost_ret (v := .tuple #[.agg zStep, .int .i64 30]) (by simp [results, Tryd.results27, go_sem, y0, y1, y2, y3, y4, y5, zStep]) rfl ?_
              exact spost_no HF.out rfl hSe.toSt0
          · exact absurd (Nat.mod_lt j (show 0 < 3 + 0 by omega)) hmod
        · have hj4 : (3 : Int) ≤ (j : Int) := by have := HCnt.out; omega
          have hje : j = rest.length := by omega
          subst hje
          have HFF : Hid (fill 3 (3 + 0) 0 rest [] [] = some (N, T)) := hid (by rw [hF.out, List.drop_eq_nil_of_le (Nat.le_refl _), fill])
          have hfa := fill_all (by decide) rest 0 [] [] N T HFF.out
          obtain ⟨n0, n1, n2, hN⟩ : ∃ n0 n1 n2, N = [n0, n1, n2] := by
            have hl := hfa.1
            rw [HCnt.out] at hl
            match N, hl with
            | [n0, n1, n2], _ => exact ⟨n0, n1, n2, rfl⟩
          subst hN
          obtain ⟨g, cg, hgv, hgc⟩ := HR1.out.cells HS.out (by simp [ints])
          injection hgv with ea eb ec
          subst ea; subst ec
          have g0 := hgc 0 _ rfl; have g1 := hgc 1 _ rfl; have g2 := hgc 2 _ rfl
          have HOk : Hid (readS (w0 :: rest) = .ok ⟨1, [], T.map S, n0, n1, n2⟩) := hid (by rw [HFill.out, HFF.out]; rfl)
          have hSb : St w wr ((bs, .cells #[.int .i64 1, .slice (some ⟨g, 0, none⟩) 3 cn, .slice ar T.length cs, .int .i64 0, .int .i64 0, .int .i64 0] 32 (0, 0)) :: ((F1 ++ F2) ++ [(br, .cells #[.string (S wd), .int .i64 3, .int .i64 0, .bool true, .bool false] 70 (0, 0)), (b2, .cells zStep 32 (0, 0))])) := by
            have h := HS.out
            rw [← List.append_assoc] at h
            exact h.mid
          have hro := hSb.tail.appR.rd List.mem_cons_self (i := 3) rfl
          have x0 := hSb.cellH 0; have x1 := hSb.cellH 1; have x2 := hSb.cellH 2; have x3 := hSb.cellH 3; have x4 := hSb.cellH 4; have x5 := hSb.cellH 5
          simp only [List.getElem?_toArray, List.getElem?_cons_zero, List.getElem?_cons_succ] at x0 x1 x2 x3 x4 x5
          have z1 := hSb.freeH 1; have z3 := hSb.freeH 3; have z4 := hSb.freeH 4; have z5 := hSb.freeH 5
          clear hgc hfa
          go_upto_region 26 with (fail)
          go_region
          go_upto_region 27 with (fail)
          refine (((((hSb.set 3 _).set 4 _).set 5 _).set 1 _).drew).nameC ?_
          clear x0 x1 x2 x3 x4 x5 z1 z3 z4 z5 hro hSb g0 g1 g2
          intro W7 hS7
          simp only [List.setIfInBounds_toArray, List.set_cons_succ, List.set_cons_zero] at hS7
          have x0 := hS7.cellH 0; have x1 := hS7.cellH 1; have x2 := hS7.cellH 2; have x3 := hS7.cellH 3; have x4 := hS7.cellH 4; have x5 := hS7.cellH 5
          simp only [List.getElem?_toArray, List.getElem?_cons_zero, List.getElem?_cons_succ] at x0 x1 x2 x3 x4 x5
          have hS8 : St w W7 ((b2, .cells zStep 32 (0, 0)) :: ((bs, .cells #[.int .i64 1, .slice none 0 0, .slice ar T.length cs, .int .i64 n0, .int .i64 n1, .int .i64 n2] 32 (0, 0)) :: ((F1 ++ F2) ++ [(br, .cells #[.string (S wd), .int .i64 3, .int .i64 0, .bool true, .bool false] 70 (0, 0))]))) := hS7.perm (by
            have e : ((bs, .cells #[.int .i64 1, .slice none 0 0, .slice ar T.length cs, .int .i64 n0, .int .i64 n1, .int .i64 n2] 32 (0, 0)) :: ((F1 ++ F2) ++ [(br, .cells #[.string (S wd), .int .i64 3, .int .i64 0, .bool true, .bool false] 70 (0, 0)), (b2, .cells zStep 32 (0, 0))])) = ((bs, .cells #[.int .i64 1, .slice none 0 0, .slice ar T.length cs, .int .i64 n0, .int .i64 n1, .int .i64 n2] 32 (0, 0)) :: ((F1 ++ F2) ++ [(br, .cells #[.string (S wd), .int .i64 3, .int .i64 0, .bool true, .bool false] 70 (0, 0))])) ++ [(b2, .cells zStep 32 (0, 0))] := by simp
            rw [e]
            exact (List.perm_append_singleton _ _).symm)
          have y0 := hS8.cellH 0; have y1 := hS8.cellH 1; have y2 := hS8.cellH 2; have y3 := hS8.cellH 3; have y4 := hS8.cellH 4; have y5 := hS8.cellH 5
          simp only [zStep, List.getElem?_toArray, List.getElem?_cons_zero, List.getElem?_cons_succ] at y0 y1 y2 y3 y4 y5
          have z0 := hS8.freeH 0; have z1 := hS8.freeH 1; have z2 := hS8.freeH 2; have z3 := hS8.freeH 3; have z4 := hS8.freeH 4; have z5 := hS8.freeH 5
          clear hS7
          go_wp2_with fail
          refine (hS8.set6 _ _ _ _ _ _).nameB ?_
          clear y0 y1 y2 y3 y4 y5 z0 z1 z2 z3 z4 z5
          clear hS8 x0 x1 x2 x3 x4 x5
          intro We hSe
          have y0 := hSe.cellH 0; have y1 := hSe.cellH 1; have y2 := hSe.cellH 2; have y3 := hSe.cellH 3; have y4 := hSe.cellH 4; have y5 := hSe.cellH 5
          simp only [List.getElem?_toArray, List.getElem?_cons_zero, List.getElem?_cons_succ] at y0 y1 y2 y3 y4 y5
          refine bodyPost_ret (v := .tuple #[.agg #[.int .i64 1, .slice none 0 0, .slice ar T.length cs, .int .i64 n0, .int .i64 n1, .int .i64 n2], .int .i64 0]) (by simp [results, Tryd.results27, go_sem, y0, y1, y2, y3, y4, y5]) rfl ?_
          refine spost_ok HOk.out rfl ⟨_, _, [], F2, rfl, rfl, Rw.nil _ _, by rw [strs_map, List.length_map]; exact HR2.out⟩ ?_
          exact hSe.tail.tail.appL.appR
end Go.Proofs.YtijlfggficjamaaDoor
