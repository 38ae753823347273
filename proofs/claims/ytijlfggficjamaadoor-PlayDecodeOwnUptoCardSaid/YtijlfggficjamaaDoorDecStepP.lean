/- The contract of kindredref26.StepOf: the other kinds. -/
import Derived.Test.YtijlfggficjamaaDoorDecStep
import Derived.Deep.RegionLaw
import Derived.Deep.DeepCutAuto
import Derived.Deep.CutRange
import Derived.StillTailTactics
namespace Go.Proofs.YtijlfggficjamaaDoor
set_option linter.unusedVariables false
set_option linter.unusedSimpArgs false
open Go Go.RowKit
open Go.Lib (hid)

set_option maxRecDepth 100000 in
set_option maxHeartbeats 4000000 in
theorem StepOf_okP (w : World) (v0 : Value) (w0 : List UInt8) (rest : List (List UInt8)) (hv : RowOf w v0 (LS (w0 :: rest))) (hlen : rest.length ≤ 1000000000) (hbs : ∀ x ∈ rest, x.length ≤ 1000000000) (ht : Tab w) (K : Nat) (hK : K = kindOfS w0) (hK0 : K ≠ 0) (hK1' : K ≠ 1) (hK2 : K ≤ 23) (wd : List UInt8) (rn rs : Nat) (hR : rowOf K = ⟨wd, rn, rs, false, false⟩) (hrn : rn ≤ 3) (hrs : rs ≤ 1) (hcnt : rest.length = rn + rs) :
    Calls Tryd.prog 30 #[v0] w (StepPost (w0 :: rest) w) := by
  obtain ⟨ad, cap, rfl, h1, h2, h3⟩ := hv
  obtain ⟨b0, o0, rfl, hc⟩ := h3 (by simp [LS])
  rw [LS_len, List.length_cons] at h1 ⊢
  unfold maxLen at h2
  have c0 : w.cell? ⟨b0, o0, none⟩ = some (.string (S w0)) := by have := hc 0 _ rfl; simpa using this
  have hlb : b0 < w.heap.size := World.block_lt_of_cell? w _ c0
  have HC := hid hc; have HBS := hid hbs; have HT := hid ht
  clear h3 hc hbs ht
  have hpos : (0 : Int) < (((rest.length + 1 : Nat) : Int)) := by omega
  obtain ⟨i0, hi, hz0, hz1, hz2⟩ := info_parts infoStr
  obtain ⟨i1, hi1, hy0, hy1, hy2⟩ := info_parts infoInt'
  go_enter Tryd.func30, Tryd.ntmps30
  go_wp2_with fail
  refine (kindOf_c w0 _).mono ?_
  rintro e W2 ⟨rfl, hb⟩
  have hS2 := ((St.refl w).alloc (.cells zStep 32)).callB hb
  clear hb
  obtain ⟨b2, hb2⟩ : ∃ b2, b2 = w.heap.size := ⟨_, rfl⟩
  rw [← hb2] at hS2 ⊢
  have HB2 := hid hb2
  clear hb2
  rw [← hK]
  have hK1 : ((K : Int) == 0) = false := beq_eq_false_iff_ne.2 (by omega)
  have HK := hid hK
  have HR := hid hR
  clear hK hR
  go_wp2_with fail
  refine (row_at K wd rn rs rn false false HR.out (by rw [refRow, if_neg hK1', HR.out]) (by omega) (by omega) _).mono ?_
  rintro e W3 ⟨rfl, hb⟩
  have hS4 := (hS2.callB hb).alloc (.cells #[.string (S wd), .int .i64 rn, .int .i64 rs, .bool false, .bool false] 77)
  clear hb hS2
  have hc1 : ((rest.length : Int) != (rn : Int) + (rs : Int)) = false := bne_eq_false_iff_eq.2 (by omega)
  have hNo : ¬ ((false = false ∧ rest.length ≠ rn + rs) ∨ (false = true ∧ rest.length % (rn + rs) ≠ 0)) := by
    rintro (⟨_, h⟩ | ⟨h, _⟩)
    · exact h hcnt
    · cases h
  have HFill : Hid (readS (w0 :: rest) = match fill rn (rn + rs) 0 rest [] [] with
    | none => .no 30
    | some (N, T) => .ok ⟨K, N, T.map S, 0, 0, 0⟩) := hid (read_fill (r := ⟨wd, rn, rs, false, false⟩) (K := K) HK.out (by omega) HR.out hNo)
  clear hNo
  have HCnt := hid hcnt
  clear hcnt
  go_wp2_with fail
  have hS5 := hS4.alloc (.cells #[.int .i64 K, .slice none 0 0, .slice none 0 0, .int .i64 0, .int .i64 0, .int .i64 0] 32)
  rw [World.size_alloc] at hS5
  obtain ⟨br, hbr⟩ : ∃ br, br = W3.heap.size := ⟨_, rfl⟩
  obtain ⟨bs, hbs'⟩ : ∃ bs, bs = W3.heap.size + 1 := ⟨_, rfl⟩
  rw [← hbs', ← hbr] at hS5 ⊢
  clear hbs' hbr hS4
  refine hS5.nameC ?_
  clear hS5
  intro W5 hS5
  clear hc1
  go_loopw [10] (fun i wr => ∃ (j : Nat) (N : List Int) (T : List (List UInt8)) (nv sv : Value) (F1 F2 : Frag), 1 ≤ j ∧ j ≤ rest.length + 1 ∧ i = .int .i64 j ∧ Hid (fill rn (rn + rs) 0 rest [] [] = fill rn (rn + rs) (j - 1) (rest.drop (j - 1)) N T) ∧ N.length + T.length ≤ j ∧ Rw 3 1 nv N.length (ints N) F1 ∧ Rw 9 1 sv T.length (LS T) F2 ∧ St w wr (F1 ++ (F2 ++ [(bs, .cells #[.int .i64 K, nv, sv, .int .i64 0, .int .i64 0, .int .i64 0] 32 (0, 0)), (br, .cells #[.string (S wd), .int .i64 rn, .int .i64 rs, .bool false, .bool false] 77 (0, 0)), (b2, .cells zStep 32 (0, 0))]))) (fun i _ => rest.length + 1 - (intOf i).toNat)
  case atStart => exact ⟨1, [], [], .slice none 0 0, .slice none 0 0, [], [], Nat.le_refl _, by omega, rfl, hid rfl, by simp, Rw.nil _ _, Rw.nil _ _, hS5⟩
  case round =>
    clear hS5
    obtain ⟨j, N, T, nv, sv, F1, F2, hj1, hj2, rfl, hF, hNT, hR1, hR2, hS⟩ := hrel
    obtain ⟨an, cn, rfl, _, _, hn0⟩ := hR1.form
    obtain ⟨ar, cs, rfl, _, _, hs0⟩ := hR2.form
    have HS := hid hS; have HR1 := hid hR1; have HR2 := hid hR2
    clear hS hR1 hR2 hn0 hs0
    by_cases hlt : j ≤ rest.length
    · have hj4 : (j : Int) ≤ (rn : Int) + (rs : Int) := by have := HCnt.out; omega
      have hj5 : j ≤ rn + rs := by have := HCnt.out; omega
      have hjl : j - 1 < rest.length := by omega
      have hEp : 0 < (rn + rs) := by have := HCnt.out; omega
      obtain ⟨x, hx⟩ : ∃ x, x = rest[j - 1] := ⟨_, rfl⟩
      have hxl : x.length ≤ 1000000000 := by rw [hx]; exact HBS.out _ (List.getElem_mem hjl)
      have HD : Hid (rest.drop (j - 1) = x :: rest.drop j) := hid (by rw [hx, List.drop_eq_getElem_cons hjl, show j - 1 + 1 = j by omega])
      have hcx : w.cell? ⟨b0, o0 + j, none⟩ = some (.string (S x)) := HC.out j _ (by
        have : j = (j - 1) + 1 := by omega
        rw [this]
        show (LS rest)[j - 1]? = _
        rw [LS_get rest (j - 1) hjl, hx])
      clear hx
      have hca := HS.out.old hcx
      have HCX := hid hcx
      clear hcx
      have q0 : (0 : Int) ≤ (j : Int) - 1 := by omega
      have HIN := hid (List.mem_append_right F1 (List.mem_append_right F2 (List.mem_cons_self (a := (bs, Obj.cells #[.int .i64 K, .slice an N.length cn, .slice ar T.length cs, .int .i64 0, .int .i64 0, .int .i64 0] 32 (0, 0))) (l := [(br, .cells #[.string (S wd), .int .i64 rn, .int .i64 rs, .bool false, .bool false] 77 (0, 0)), (b2, .cells zStep 32 (0, 0))]))))
      by_cases hmod : (j - 1) % (rn + rs) < rn
      · have hm1 : ((j : Int) - 1) % ((rn : Int) + (rs : Int)) < (rn : Int) := by
          have e : (((j - 1) % (rn + rs) : Nat) : Int) = ((j : Int) - 1) % ((rn : Int) + (rs : Int)) := by
            rw [Int.natCast_emod, show ((j - 1 : Nat) : Int) = (j : Int) - 1 by omega]; rfl
          rw [← e]; exact_mod_cast hmod
        have HMod := hid hmod
        clear hmod
        cases hu : undecS x with
        | none =>
          have HF : Hid (readS (w0 :: rest) = .no 30) := hid (by rw [HFill.out, hF.out, HD.out, fill_bad HMod.out hu])
          have HU := hid hu
          clear hu
          go_wp2_with fail
          refine (UnDec_no HU.out _ hxl (HT.out.below HS.out.below (Nat.le_refl _))).mono ?_
          rintro e w1 ⟨n1, rfl, hb1⟩
          have hS1 := HS.out.callB hb1
          clear hb1 hca hm1 q0
          have hE := (((hS1.appR).appR.tail).swap)
          have y0 := hE.cellH 0; have y1 := hE.cellH 1; have y2 := hE.cellH 2; have y3 := hE.cellH 3; have y4 := hE.cellH 4; have y5 := hE.cellH 5
          simp only [zStep, List.getElem?_toArray, List.getElem?_cons_zero, List.getElem?_cons_succ] at y0 y1 y2 y3 y4 y5
          have z0 := hE.freeH 0; have z1 := hE.freeH 1; have z2 := hE.freeH 2; have z3 := hE.freeH 3; have z4 := hE.freeH 4; have z5 := hE.freeH 5
          go_wp2_with fail
          refine (hE.set6 _ _ _ _ _ _).nameB ?_
          clear y0 y1 y2 y3 y4 y5 z0 z1 z2 z3 z4 z5
          clear hE
          intro We hSe
          have y0 := hSe.cellH 0; have y1 := hSe.cellH 1; have y2 := hSe.cellH 2; have y3 := hSe.cellH 3; have y4 := hSe.cellH 4; have y5 := hSe.cellH 5
          simp only [zStep, List.getElem?_toArray, List.getElem?_cons_zero, List.getElem?_cons_succ] at y0 y1 y2 y3 y4 y5
          refine bodyPost_ret (v := .tuple #[.agg zStep, .int .i64 30]) (by simp [results, Tryd.results30, go_sem, y0, y1, y2, y3, y4, y5, zStep]) rfl ?_
          exact spost_no HF.out rfl hSe.toSt0
        | some v =>
          have HF2 : Hid (fill rn (rn + rs) 0 rest [] [] = fill rn (rn + rs) (j + 1 - 1) (rest.drop (j + 1 - 1)) (N ++ [v]) T) := hid (by
            rw [hF.out, HD.out, fill_num HMod.out hu, show j - 1 + 1 = j by omega]; rfl)
          have HU := hid hu
          clear hu
          go_wp2_with fail
          refine (UnDec_yes HU.out _ hxl (HT.out.below HS.out.below (Nat.le_refl _))).mono ?_
          rintro e w1 ⟨rfl, hb1⟩
          have hS1 := HS.out.callB hb1
          have hn1 := hS1.rd HIN.out (i := 1) rfl
          have HS1 := hid hS1
          clear hb1 hS1 hca hm1 q0
          go_wp2_with (at_builtin; refine append_st (by rfl) _ _ 27 (by rfl) 3 i1 (.int .i64 0) 1 8 Tryd.underlying27 hi1 hy0 hy1 hy2 (by rfl) (by decide) (.slice an N.length cn) N.length (ints N) F1 _ (by rfl) HR1.out HS1.out 1 w1.heap.size [.int .i64 v] (by rfl) (by rfl) (by rfl) (by intro u hu; simp at hu; subst hu; rfl) (by unfold maxLen; omega) (by omega) ?_)
          intro v' w2 F' hR' hS'
          rw [ints_one] at hR'
          obtain ⟨an', cn', rfl, _, _, _⟩ := hR'.form
          have hb1 := hS'.rd (b := bs) (i := 1) (List.mem_append_right _ (List.mem_append_right _ List.mem_cons_self)) rfl
          have hf1 := hS'.free (b := bs) (List.mem_append_right _ (List.mem_append_right _ List.mem_cons_self)) 1
          have HS3 : Hid (St w (w2.setCell ⟨bs, 1, none⟩ (.slice an' (N.length + 1) cn')) (F' ++ (F2 ++ [(bs, .cells #[.int .i64 K, .slice an' (N.length + 1) cn', .slice ar T.length cs, .int .i64 0, .int .i64 0, .int .i64 0] 32 (0, 0)), (br, .cells #[.string (S wd), .int .i64 rn, .int .i64 rs, .bool false, .bool false] 77 (0, 0)), (b2, .cells zStep 32 (0, 0))]))) := hid (by
            have := hS'
            rw [← List.append_assoc] at this ⊢
            exact this.setAt 1 _)
          have HR' := hid hR'
          clear hR' hS' hn1
          go_wp2_with fail
          exact ⟨⟨j + 1, N ++ [v], T, .slice an' (N.length + 1) cn', .slice ar T.length cs, F', F2, by omega, by omega, by go_num, HF2, by simp; omega, by simpa using HR'.out, HR2.out, HS3.out⟩, by simp [intOf]; omega⟩
      · have hm1 : (rn : Int) ≤ ((j : Int) - 1) % ((rn : Int) + (rs : Int)) := by
          have e : (((j - 1) % (rn + rs) : Nat) : Int) = ((j : Int) - 1) % ((rn : Int) + (rs : Int)) := by
            rw [Int.natCast_emod, show ((j - 1 : Nat) : Int) = (j : Int) - 1 by omega]; rfl
          rw [← e]; exact_mod_cast Nat.le_of_not_lt hmod
        have HF2 : Hid (fill rn (rn + rs) 0 rest [] [] = fill rn (rn + rs) (j + 1 - 1) (rest.drop (j + 1 - 1)) N (T ++ [x])) := hid (by
          rw [hF.out, HD.out, fill_txt hmod, show j - 1 + 1 = j by omega]; rfl)
        clear hmod
        have hn2 := HS.out.rd HIN.out (i := 2) rfl
        go_wp2_with fail
        have HS0 := HS.out
        have HSr := HS.out.rot
        have HINr := hid (List.mem_append_right F2 (List.mem_append_right F1 (List.mem_cons_self (a := (bs, Obj.cells #[.int .i64 K, .slice an N.length cn, .slice ar T.length cs, .int .i64 0, .int .i64 0, .int .i64 0] 32 (0, 0))) (l := [(br, .cells #[.string (S wd), .int .i64 rn, .int .i64 rs, .bool false, .bool false] 77 (0, 0)), (b2, .cells zStep 32 (0, 0))]))))
        have hbsl : bs < wr.heap.size := HSr.lt HINr.out
        have hb0l : b0 < wr.heap.size := Nat.lt_of_lt_of_le hlb HS0.sz
        go_region_law (((first | (refine step_append_st (by rfl) _ _ 28 (by rfl) 9 i0 (.string ⟨#[]⟩) 1 16 Tryd.underlying28 hi hz0 hz1 hz2 (by rfl) (by decide) (.slice ar T.length cs) T.length (LS T) F2 _ (by rfl) HR2.out 1 wr.heap.size [.string (S x)] ((HSr.alloc _).drew) (by rfl) (by rfl) (by intro u hu; simp at hu; subst hu; rfl) (by decide) (by unfold maxLen; omega) (by omega) ?_) | (refine step_append_st (by rfl) _ _ 28 (by rfl) 9 i0 (.string ⟨#[]⟩) 1 16 Tryd.underlying28 hi hz0 hz1 hz2 (by rfl) (by decide) (.slice ar T.length cs) T.length (LS T) F2 _ (by rfl) HR2.out 1 wr.heap.size [.string (S x)] (HSr.alloc _) (by rfl) (by rfl) (by intro u hu; simp at hu; subst hu; rfl) (by decide) (by unfold maxLen; omega) (by omega) ?_)); intro g' cap' w2 F' hR' hS'; rw [LS_one] at hR'; have hb1 := hS'.rd (b := bs) (i := 2) (List.mem_append_right _ (List.mem_append_right _ List.mem_cons_self)) rfl; have hf1 := hS'.free (b := bs) (List.mem_append_right _ (List.mem_append_right _ List.mem_cons_self)) 2; have hd1 := hS'.old HCX.out))
        all_goals
          go_wp2_with fail
          refine ⟨⟨j + 1, N, T ++ [x], .slice an N.length cn, .slice (some ⟨g', 0, none⟩) (T.length + 1) cap', F1, F', by omega, by omega, by go_num, HF2, by simp; omega, HR1.out, by simpa using hR', ?_⟩, by simp [intOf]; omega⟩
          have h1 := hS'
          rw [← List.append_assoc] at h1
          have h2 := h1.setAt 2 (.slice (some ⟨g', 0, none⟩) (T.length + 1) cap')
          rw [List.append_assoc] at h2
          exact h2.rot
    · have hj4 : (rn : Int) + (rs : Int) < (j : Int) := by have := HCnt.out; omega
      have hje : j = rest.length + 1 := by omega
      subst hje
      have HFF : Hid (fill rn (rn + rs) 0 rest [] [] = some (N, T)) := hid (by rw [hF.out, List.drop_eq_nil_of_le (by omega), fill])
      have HOk : Hid (readS (w0 :: rest) = .ok ⟨K, N, T.map S, 0, 0, 0⟩) := hid (by rw [HFill.out, HFF.out])
      have hro := (HS.out.appR).appR.tail.rd List.mem_cons_self (i := 3) rfl
      have hS6 := (HS.out.appR).appR
      have x0 := hS6.cellH 0; have x1 := hS6.cellH 1; have x2 := hS6.cellH 2; have x3 := hS6.cellH 3; have x4 := hS6.cellH 4; have x5 := hS6.cellH 5
      simp only [List.getElem?_toArray, List.getElem?_cons_zero, List.getElem?_cons_succ] at x0 x1 x2 x3 x4 x5
      have hS7 := HS.out
      have hS8 : St w wr ((b2, .cells zStep 32 (0, 0)) :: (F1 ++ (F2 ++ [(bs, .cells #[.int .i64 K, .slice an N.length cn, .slice ar T.length cs, .int .i64 0, .int .i64 0, .int .i64 0] 32 (0, 0)), (br, .cells #[.string (S wd), .int .i64 rn, .int .i64 rs, .bool false, .bool false] 77 (0, 0))]))) := hS7.perm (by
        have e : F1 ++ (F2 ++ [(bs, .cells #[.int .i64 K, .slice an N.length cn, .slice ar T.length cs, .int .i64 0, .int .i64 0, .int .i64 0] 32 (0, 0)), (br, .cells #[.string (S wd), .int .i64 rn, .int .i64 rs, .bool false, .bool false] 77 (0, 0)), (b2, .cells zStep 32 (0, 0))]) = (F1 ++ (F2 ++ [(bs, .cells #[.int .i64 K, .slice an N.length cn, .slice ar T.length cs, .int .i64 0, .int .i64 0, .int .i64 0] 32 (0, 0)), (br, .cells #[.string (S wd), .int .i64 rn, .int .i64 rs, .bool false, .bool false] 77 (0, 0))])) ++ [(b2, .cells zStep 32 (0, 0))] := by simp
        rw [e]
        exact (List.perm_append_singleton _ _).symm)
      have y0 := hS8.cellH 0; have y1 := hS8.cellH 1; have y2 := hS8.cellH 2; have y3 := hS8.cellH 3; have y4 := hS8.cellH 4; have y5 := hS8.cellH 5
      simp only [zStep, List.getElem?_toArray, List.getElem?_cons_zero, List.getElem?_cons_succ] at y0 y1 y2 y3 y4 y5
      have z0 := hS8.freeH 0; have z1 := hS8.freeH 1; have z2 := hS8.freeH 2; have z3 := hS8.freeH 3; have z4 := hS8.freeH 4; have z5 := hS8.freeH 5
      clear hS6 hS7
      go_wp2_with fail
      refine (hS8.set6 _ _ _ _ _ _).nameB ?_
      clear y0 y1 y2 y3 y4 y5 z0 z1 z2 z3 z4 z5
      clear hS8 x0 x1 x2 x3 x4 x5 hro
      intro We hSe
      have y0 := hSe.cellH 0; have y1 := hSe.cellH 1; have y2 := hSe.cellH 2; have y3 := hSe.cellH 3; have y4 := hSe.cellH 4; have y5 := hSe.cellH 5
      simp only [List.getElem?_toArray, List.getElem?_cons_zero, List.getElem?_cons_succ] at y0 y1 y2 y3 y4 y5
      refine bodyPost_ret (v := .tuple #[.agg #[.int .i64 K, .slice an N.length cn, .slice ar T.length cs, .int .i64 0, .int .i64 0, .int .i64 0], .int .i64 0]) (by simp [results, Tryd.results30, go_sem, y0, y1, y2, y3, y4, y5]) rfl ?_
      refine spost_ok HOk.out rfl ⟨_, _, F1, F2, rfl, rfl, HR1.out, by rw [strs_map, List.length_map]; exact HR2.out⟩ ?_
      have := hSe.tail
      rw [← List.append_assoc] at this
      exact this.appL
end Go.Proofs.YtijlfggficjamaaDoor
