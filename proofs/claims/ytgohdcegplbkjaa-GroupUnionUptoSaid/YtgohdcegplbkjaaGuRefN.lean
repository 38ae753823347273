/- The document's unions: New. -/
import Derived.Test.YtgohdcegplbkjaaGuRefG
import Derived.Deep.RegionLaw
namespace Go.Proofs.Ytgohdcegplbkjaa
set_option linter.unusedVariables false
set_option linter.unusedSimpArgs false
open Go Go.RowKit
open Go.Lib (hid)

theorem newM_step (seen : List Int) (x : Int) (r : List Int) (h1 : ¬ (x < 0 ∨ 281474976710656 < x)) (h2 : x ∉ seen) : newM seen (x :: r) = newM (seen ++ [x]) r := by
  rw [newM, if_neg h1, if_neg h2]
theorem newM_out (seen : List Int) (x : Int) (r : List Int) (h1 : x < 0 ∨ 281474976710656 < x) : newM seen (x :: r) = some 60 := by rw [newM, if_pos h1]
theorem newM_twice (seen : List Int) (x : Int) (r : List Int) (h1 : ¬ (x < 0 ∨ 281474976710656 < x)) (h2 : x ∈ seen) : newM seen (x :: r) = some 130 := by rw [newM, if_neg h1, if_pos h2]
theorem drop_at (ids : List Int) (k : Nat) (h : k < ids.length) : ids.drop k = ids.getD k 0 :: ids.drop (k + 1) := by
  rw [List.drop_eq_getElem_cons h]; simp [List.getD_eq_getElem?_getD, h]
/-- a number put in its place -/
theorem rising_put {S : List Int} (hS : S.Pairwise (· < ·)) {x : Int} (hx : x ∉ S) {j : Nat} (hj : j ≤ S.length) (h1 : ∀ t, t < j → S.getD t 0 < x) (h2 : j < S.length → ¬ S.getD j 0 < x) : (S.take j ++ x :: S.drop j).Pairwise (· < ·) := by
  rw [List.pairwise_append]
  refine ⟨hS.sublist (List.take_sublist _ _), ?_, ?_⟩
  · rw [List.pairwise_cons]
    refine ⟨fun y hy => ?_, hS.sublist (List.drop_sublist _ _)⟩
    rcases Nat.lt_or_ge j S.length with hl | hl
    · have hne : S.getD j 0 ≠ x := fun e => hx (by rw [← e]; exact idAt_mem hl)
      have hlt : x < S.getD j 0 := by have := h2 hl; omega
      rw [drop_at S j hl] at hy
      rcases List.mem_cons.1 hy with rfl | hy
      · exact hlt
      · have hp := (hS.sublist (List.drop_sublist j S))
        rw [drop_at S j hl] at hp
        have := (List.pairwise_cons.1 hp).1 y hy
        omega
    · rw [List.drop_eq_nil_of_le hl] at hy; cases hy
  · intro a ha b hb
    obtain ⟨t, ht, rfl⟩ := List.getElem_of_mem ha
    rw [List.length_take] at ht
    have hta : (S.take j)[t] = S.getD t 0 := by
      simp [List.getD_eq_getElem?_getD]; rw [List.getElem?_eq_getElem (by omega)]; rfl
    rcases List.mem_cons.1 hb with rfl | hb
    · rw [hta]; exact h1 t (by omega)
    · have hp : (S.take j ++ S.drop j).Pairwise (· < ·) := by rw [List.take_append_drop]; exact hS
      exact (List.pairwise_append.1 hp).2.2 _ ha _ hb
theorem put_mem {S : List Int} {x y : Int} (j : Nat) : y ∈ S.take j ++ x :: S.drop j ↔ y = x ∨ y ∈ S := by
  have : y ∈ S ↔ y ∈ S.take j ∨ y ∈ S.drop j := by
    conv => lhs; rw [← List.take_append_drop j S]
    exact List.mem_append
  rw [this]
  simp only [List.mem_append, List.mem_cons]
  constructor
  · rintro (h | h | h)
    · exact .inr (.inl h)
    · exact .inl h
    · exact .inr (.inr h)
  · rintro (h | h | h)
    · exact .inr (.inl h)
    · exact .inl h
    · exact .inr (.inr h)
theorem mem_take (ids : List Int) (k : Nat) (h : k < ids.length) (y : Int) : y ∈ ids.take (k + 1) ↔ y = ids.getD k 0 ∨ y ∈ ids.take k := by
  rw [take_at ids k h]; simp [or_comm]

def RefNewPost (ids : List Int) (w : World) (e : Ending) (w' : World) : Prop :=
  match newM [] ids with
  | some c => e = .returned (.tuple #[.pointer none, .int .i64 c]) ∧ St w w' []
  | none => ∃ u F S, e = .returned (.tuple #[u, .int .i64 0]) ∧ RefU u S id F ∧ St w w' F ∧ S.Pairwise (· < ·) ∧ (∀ x, x ∈ S ↔ x ∈ ids) ∧ S.length = ids.length
theorem rpost_no {ids : List Int} {w w' : World} {e : Ending} {c : Int} (h : newM [] ids = some c) (he : e = .returned (.tuple #[.pointer none, .int .i64 c])) (hS : St w w' []) : RefNewPost ids w e w' := by
  unfold RefNewPost; rw [h]; exact ⟨he, hS⟩
theorem rpost_ok {ids : List Int} {w w' : World} {e : Ending} (h : newM [] ids = none) {u : Value} {F : Frag} {S : List Int} (he : e = .returned (.tuple #[u, .int .i64 0])) (h1 : RefU u S id F) (h2 : St w w' F) (h3 : S.Pairwise (· < ·)) (h4 : ∀ x, x ∈ S ↔ x ∈ ids) (h5 : S.length = ids.length) : RefNewPost ids w e w' := by
  unfold RefNewPost; rw [h]; exact ⟨u, F, S, he, h1, h2, h3, h4, h5⟩

set_option maxRecDepth 100000 in
set_option maxHeartbeats 4000000 in
theorem refNew_c (w : World) (v : Value) (ids : List Int) (hv : RowOf w v (ints ids)) (hn : ids.length ≤ 10000000) :
    Calls Try.prog 5 #[v] w (RefNewPost ids w) := by
  obtain ⟨i1, hi1, hy0, hy1, hy2⟩ := parts3 infoInt
  obtain ⟨ad, cap, rfl, p1, p2, p3⟩ := hv.cells
  unfold maxLen at p2
  have HC := hid p3
  clear p3 hv
  go_enter Try.func5, Try.ntmps5
  go_wp2_with fail
  go_loopw [5] (fun iv wr => ∃ (k : Nat) (sv : Value) (Fs : Frag) (S : List Int), k ≤ ids.length ∧ iv = .int .i64 k ∧ newM [] ids = newM (ids.take k) (ids.drop k) ∧ S.Pairwise (· < ·) ∧ (∀ x, x ∈ S ↔ x ∈ ids.take k) ∧ S.length = k ∧ Rw 3 1 sv S.length (ints S) Fs ∧ St w wr ((w.heap.size, .cells #[sv, .slice none 0 0] 47 (0, 0)) :: Fs)) (fun iv _ => ids.length - (intOf iv).toNat)
  case atStart => exact ⟨0, .slice none 0 0, [], [], Nat.zero_le _, rfl, by simp, List.Pairwise.nil, by simp, rfl, Rw.nil _ _, (St.refl w).alloc _⟩
  case round =>
    obtain ⟨k, sv, Fs, S, hk, rfl, hN, hSr, hM, hSl, hRs, hS⟩ := hrel
    obtain ⟨asv, csv, rfl, s1, s2, s3⟩ := hRs.form
    unfold maxLen at s2
    have hSb : S.length ≤ ids.length := by omega
    have HN := hid hN; have HSr := hid hSr; have HM := hid hM; have HRs := hid hRs; have HSL := hid hSl
    clear hN hSr hM hRs hSl
    by_cases hlt : k < ids.length
    · obtain ⟨b, o, rfl, hc⟩ := HC.out k hlt
      have cx := hS.old hc
      obtain ⟨x, hx⟩ : ∃ x, x = ids.getD k 0 := ⟨_, rfl⟩
      rw [← hx] at cx hc
      have HX := hid hx; have CX := hid hc
      clear hx hc
      by_cases hrange : x < 0 ∨ 281474976710656 < x
      · have HF : Hid (newM [] ids = some 60) := hid (by rw [HN.out, drop_at ids k hlt, ← HX.out, newM_out _ _ _ hrange])
        have HS := hid hS
        clear hS
        rcases hrange with h1 | h1
        · go_wp2_with fail
          exact bodyPost_ret (v := .tuple #[.pointer none, .int .i64 60]) (by simp [results, Try.results5, go_sem]) rfl (rpost_no HF.out rfl HS.out.toSt0)
        · have h2 : ¬ x < 0 := by omega
          go_wp2_with fail
          exact bodyPost_ret (v := .tuple #[.pointer none, .int .i64 60]) (by simp [results, Try.results5, go_sem]) rfl (rpost_no HF.out rfl HS.out.toSt0)
      · have h1 : ¬ x < 0 := by omega
        have h2 : ¬ 281474976710656 < x := by omega
        have hR0 := HRs.out.rowOf hS.tail'
        have y0 := hS.cellH 0
        simp only [List.getElem?_toArray, List.getElem?_cons_zero, List.getElem?_cons_succ] at y0
        have HA := hid (at_c wr w.heap.size (.slice asv S.length csv) S x y0 hR0 (by omega))
        have HS := hid hS
        have HRG := hid hrange
        clear hS hR0 y0 hrange
        go_wp2_with fail
        refine HA.out.mono ?_
        rintro e w2 ⟨hp, m2, hw2⟩
        have HS2 : Hid (St w w2 ((w.heap.size, .cells #[.slice asv S.length csv, .slice none 0 0] 47 (0, 0)) :: Fs)) := hid (by rw [hw2]; exact HS.out.drewN m2)
        clear hw2 HA HS cx
        rcases hp with ⟨q, hq, hqx, rfl⟩ | ⟨hnx, rfl⟩
        · have HF : Hid (newM [] ids = some 130) := hid (by rw [HN.out, drop_at ids k hlt, ← HX.out, newM_twice _ _ _ HRG.out ((HM.out x).1 (by rw [← hqx]; exact idAt_mem hq))])
          have hq0 : (0 : Int) ≤ (q : Int) := by omega
          clear hqx
          go_wp2_with fail
          exact bodyPost_ret (v := .tuple #[.pointer none, .int .i64 130]) (by simp [results, Try.results5, go_sem]) rfl (rpost_no HF.out rfl HS2.out.toSt0)
        · have HNM := hid hnx
          clear hnx
          go_wp2_with fail
          go_loopw [7] (fun kv wr => ∃ (j m : Nat), j ≤ S.length ∧ kv = .int .i64 j ∧ (∀ t, t < j → S.getD t 0 < x) ∧ wr = w2.drewN m) (fun kv _ => S.length - (intOf kv).toNat)
          case atStart => exact ⟨0, 0, Nat.zero_le _, rfl, fun t ht => absurd ht (Nat.not_lt_zero t), rfl⟩
          case round =>
            obtain ⟨j, m, hj, rfl, hlo, rfl⟩ := hrel
            have cx := HS2.out.old CX.out
            have y0 := HS2.out.cellH 0
            simp only [List.getElem?_toArray, List.getElem?_cons_zero, List.getElem?_cons_succ] at y0
            have HLO := hid hlo
            clear hlo
            by_cases hjl : j < S.length
            · obtain ⟨ad', cap', e', _, _, hcells⟩ := (HRs.out.rowOf HS2.out.tail').cells
              cases e'
              obtain ⟨bs, os, rfl, cj⟩ := hcells j hjl
              obtain ⟨y, hy⟩ : ∃ y, y = S.getD j 0 := ⟨_, rfl⟩
              rw [← hy] at cj
              have HY := hid hy
              clear hy hcells
              have hdj : decide (j < S.length) = true := decide_eq_true hjl
              have hdI : ((j : Int) < (S.length : Int)) := by omega
              by_cases hyx : y < x
              · have HLO' : Hid (∀ t, t < j + 1 → S.getD t 0 < x) := hid (fun t ht => by
                  by_cases e : t = j
                  · subst e; rw [← HY.out]; exact hyx
                  · exact HLO.out t (by omega))
                go_wp2_with fail
                go_quiet (fail)
                go_wp2_with fail
                exact ⟨⟨j + 1, _, by omega, by go_num, HLO'.out, rfl⟩, by simp [intOf]; omega⟩
              · have HHI : Hid (j < S.length → x ≤ S.getD j 0) := hid (fun _ => by rw [← HY.out]; omega)
                go_wp2_with fail
                go_quiet (fail)
                go_upto_region 13 with (fail)
                first | refine ((HS2.out.drewN _).drewN _).nameC ?_ | refine (HS2.out.drewN _).nameC ?_
                clear cx y0 cj hdj hdI
                intro W3 hS
                have hlt2 : (S.take j).length = j := by rw [List.length_take]; omega
                have HNW : Hid (newM [] ids = newM (ids.take (k + 1)) (ids.drop (k + 1))) := hid (by rw [HN.out, drop_at ids k hlt, ← HX.out, newM_step _ _ _ HRG.out (fun h => HNM.out ((HM.out x).2 h)), take_at ids k hlt, ← HX.out])
                obtain ⟨S', hSE⟩ : ∃ S', S' = S.take j ++ x :: S.drop j := ⟨_, rfl⟩
                have HSE := hid hSE
                have HR' : Hid (S'.Pairwise (· < ·)) := hid (by rw [hSE]; exact rising_put HSr.out HNM.out hj HLO.out (fun h => by have := HHI.out h; omega))
                have HM' : Hid (∀ y, y ∈ S' ↔ y ∈ ids.take (k + 1)) := hid (fun y => by rw [hSE, put_mem, mem_take ids k hlt, ← HX.out, HM.out])
                have HL' : Hid (S'.length = k + 1 ∧ S'.length = j + 1 + (S.length - j)) := hid (by have := HSL.out; rw [hSE, List.length_append, List.length_cons, List.length_drop]; constructor <;> omega)
                clear hSE
                have hrow := HRs.out.rowOf hS.tail'
                obtain ⟨adl, hrl, hsl, hvl⟩ := row_lo Try.underlying22 hi1 hrow HRs.out.vnil hj
                have y0 := hS.cellH 0
                simp only [List.getElem?_toArray, List.getElem?_cons_zero, List.getElem?_cons_succ] at y0
                have HS3 := hid hS; have HSL1 := hid (And.intro hsl hvl)
                clear hS hrow hsl hvl
                go_wp2_with (at_builtin; refine append_rows_st (by rfl) _ _ 22 (by rfl) 3 i1 (.int .i64 0) 8 Try.underlying22 hi1 hy0 hy1 hy2 (by rfl) (.slice none 0 0) 0 [] [] _ (by rfl) (Rw.nil _ _) HS3.out (.slice adl j csv) ((ints S).take j) (by rfl) HSL1.out.1 HSL1.out.2 (by intro u hu; have hu := List.mem_of_mem_take hu; simp [ints] at hu; obtain ⟨z, _, rfl⟩ := hu; rfl) (by rw [List.length_take, ints_len]; unfold maxLen; omega) (by rw [List.length_take, ints_len]; omega) ?_)
                intro v1 W4 G1 hR1 hS4
                have hR1' : Rw 3 1 v1 j (ints (S.take j)) G1 := by
                  have h : min j S.length = j := Nat.min_eq_left hj
                  simpa [ints, List.map_take, h] using hR1
                have cx := hS4.old CX.out
                have HR1 := hid hR1'; have HS4 := hid hS4
                clear hR1 hR1' hS4 hrl HSL1 HS3 y0
                go_wp2_with (at_builtin; refine append_st (by rfl) _ _ 22 (by rfl) 3 i1 (.int .i64 0) 1 8 Try.underlying22 hi1 hy0 hy1 hy2 (by rfl) (by decide) v1 j (ints (S.take j)) G1 _ (by rfl) HR1.out HS4.out 1 W4.heap.size [.int .i64 x] (by rfl) (by rfl) (by rfl) (by intro u hu; simp at hu; subst hu; rfl) (by unfold maxLen; omega) (by omega) ?_)
                intro v2 W5 G2 hR2 hS5
                have hS5' : St w W5 ((w.heap.size, .cells #[.slice (some ⟨bs, os, none⟩) S.length csv, .slice none 0 0] 47 (0, 0)) :: Fs) := hS5.appR
                have hrow := HRs.out.rowOf hS5'.tail'
                obtain ⟨adh, hrh, hsh, hvh⟩ := row_hi Try.underlying22 hi1 hy1 hrow HRs.out.vnil hj
                have y0 := hS5'.cellH 0
                simp only [List.getElem?_toArray, List.getElem?_cons_zero, List.getElem?_cons_succ] at y0
                have HR2 := hid hR2; have HS5 := hid hS5; have HSH := hid (And.intro hsh hvh)
                clear hR2 hS5 hS5' hrow hsh hvh cx HR1 HS4
                go_wp2_with (at_builtin; refine append_rows_st (by rfl) _ _ 22 (by rfl) 3 i1 (.int .i64 0) 8 Try.underlying22 hi1 hy0 hy1 hy2 (by rfl) v2 (j + 1) (ints (S.take j) ++ [.int .i64 x]) G2 _ (by rfl) HR2.out HS5.out (.slice adh (S.length - j) (csv - j)) ((ints S).drop j) (by rfl) HSH.out.1 HSH.out.2 (by intro u hu; have hu := List.mem_of_mem_drop hu; simp [ints] at hu; obtain ⟨z, _, rfl⟩ := hu; rfl) (by rw [List.length_drop, ints_len]; unfold maxLen; omega) (by rw [List.length_drop, ints_len]; omega) ?_)
                intro v3 W6 G3 hR3 hS6
                have hR3' : Rw 3 1 v3 S'.length (ints S') G3 := by
                  rw [HL'.out.2, HSE.out]
                  simpa [ints, List.map_drop] using hR3
                obtain ⟨a3, c3, rfl, _⟩ := hR3'.form
                have hS6 := hS6.mid
                have y0 := hS6.cellH 0; have z0 := hS6.freeH 0
                simp only [List.getElem?_toArray, List.getElem?_cons_zero, List.getElem?_cons_succ] at y0
                have HR3 := hid hR3'
                have HS6 := hid ((hS6.set 0 (.slice a3 S'.length c3)).sub (List.Sublist.cons_cons _ (List.sublist_append_left G3 Fs)))
                clear hR3 hR3' hS6 hrh HSH HR2 HS5
                go_wp2_with fail
                exact ⟨⟨k + 1, _, G3, S', by omega, by go_num, HNW.out, HR'.out, HM'.out, HL'.out.1, HR3.out, HS6.out⟩, by simp [intOf]; omega⟩
            · have hdj : decide (j < S.length) = false := decide_eq_false hjl
              have hdI : ¬ ((j : Int) < (S.length : Int)) := by omega
              have HHI : Hid (j < S.length → x ≤ S.getD j 0) := hid (fun h => absurd h hjl)
              go_wp2_with fail
              go_quiet (fail)
              go_upto_region 13 with (fail)
              first | refine ((HS2.out.drewN _).drewN _).nameC ?_ | refine (HS2.out.drewN _).nameC ?_
              clear cx y0 hdj hdI
              intro W3 hS
              have hlt2 : (S.take j).length = j := by rw [List.length_take]; omega
              have HNW : Hid (newM [] ids = newM (ids.take (k + 1)) (ids.drop (k + 1))) := hid (by rw [HN.out, drop_at ids k hlt, ← HX.out, newM_step _ _ _ HRG.out (fun h => HNM.out ((HM.out x).2 h)), take_at ids k hlt, ← HX.out])
              obtain ⟨S', hSE⟩ : ∃ S', S' = S.take j ++ x :: S.drop j := ⟨_, rfl⟩
              have HSE := hid hSE
              have HR' : Hid (S'.Pairwise (· < ·)) := hid (by rw [hSE]; exact rising_put HSr.out HNM.out hj HLO.out (fun h => by have := HHI.out h; omega))
              have HM' : Hid (∀ y, y ∈ S' ↔ y ∈ ids.take (k + 1)) := hid (fun y => by rw [hSE, put_mem, mem_take ids k hlt, ← HX.out, HM.out])
              have HL' : Hid (S'.length = k + 1 ∧ S'.length = j + 1 + (S.length - j)) := hid (by have := HSL.out; rw [hSE, List.length_append, List.length_cons, List.length_drop]; constructor <;> omega)
              clear hSE
              have hrow := HRs.out.rowOf hS.tail'
              obtain ⟨adl, hrl, hsl, hvl⟩ := row_lo Try.underlying22 hi1 hrow HRs.out.vnil hj
              have y0 := hS.cellH 0
              simp only [List.getElem?_toArray, List.getElem?_cons_zero, List.getElem?_cons_succ] at y0
              have HS3 := hid hS; have HSL1 := hid (And.intro hsl hvl)
              clear hS hrow hsl hvl
              go_wp2_with (at_builtin; refine append_rows_st (by rfl) _ _ 22 (by rfl) 3 i1 (.int .i64 0) 8 Try.underlying22 hi1 hy0 hy1 hy2 (by rfl) (.slice none 0 0) 0 [] [] _ (by rfl) (Rw.nil _ _) HS3.out (.slice adl j csv) ((ints S).take j) (by rfl) HSL1.out.1 HSL1.out.2 (by intro u hu; have hu := List.mem_of_mem_take hu; simp [ints] at hu; obtain ⟨z, _, rfl⟩ := hu; rfl) (by rw [List.length_take, ints_len]; unfold maxLen; omega) (by rw [List.length_take, ints_len]; omega) ?_)
              intro v1 W4 G1 hR1 hS4
              have hR1' : Rw 3 1 v1 j (ints (S.take j)) G1 := by
                have h : min j S.length = j := Nat.min_eq_left hj
                simpa [ints, List.map_take, h] using hR1
              have cx := hS4.old CX.out
              have HR1 := hid hR1'; have HS4 := hid hS4
              clear hR1 hR1' hS4 hrl HSL1 HS3 y0
              go_wp2_with (at_builtin; refine append_st (by rfl) _ _ 22 (by rfl) 3 i1 (.int .i64 0) 1 8 Try.underlying22 hi1 hy0 hy1 hy2 (by rfl) (by decide) v1 j (ints (S.take j)) G1 _ (by rfl) HR1.out HS4.out 1 W4.heap.size [.int .i64 x] (by rfl) (by rfl) (by rfl) (by intro u hu; simp at hu; subst hu; rfl) (by unfold maxLen; omega) (by omega) ?_)
              intro v2 W5 G2 hR2 hS5
              have hS5' : St w W5 ((w.heap.size, .cells #[.slice asv S.length csv, .slice none 0 0] 47 (0, 0)) :: Fs) := hS5.appR
              have hrow := HRs.out.rowOf hS5'.tail'
              obtain ⟨adh, hrh, hsh, hvh⟩ := row_hi Try.underlying22 hi1 hy1 hrow HRs.out.vnil hj
              have y0 := hS5'.cellH 0
              simp only [List.getElem?_toArray, List.getElem?_cons_zero, List.getElem?_cons_succ] at y0
              have HR2 := hid hR2; have HS5 := hid hS5; have HSH := hid (And.intro hsh hvh)
              clear hR2 hS5 hS5' hrow hsh hvh cx HR1 HS4
              go_wp2_with (at_builtin; refine append_rows_st (by rfl) _ _ 22 (by rfl) 3 i1 (.int .i64 0) 8 Try.underlying22 hi1 hy0 hy1 hy2 (by rfl) v2 (j + 1) (ints (S.take j) ++ [.int .i64 x]) G2 _ (by rfl) HR2.out HS5.out (.slice adh (S.length - j) (csv - j)) ((ints S).drop j) (by rfl) HSH.out.1 HSH.out.2 (by intro u hu; have hu := List.mem_of_mem_drop hu; simp [ints] at hu; obtain ⟨z, _, rfl⟩ := hu; rfl) (by rw [List.length_drop, ints_len]; unfold maxLen; omega) (by rw [List.length_drop, ints_len]; omega) ?_)
              intro v3 W6 G3 hR3 hS6
              have hR3' : Rw 3 1 v3 S'.length (ints S') G3 := by
                rw [HL'.out.2, HSE.out]
                simpa [ints, List.map_drop] using hR3
              obtain ⟨a3, c3, rfl, _⟩ := hR3'.form
              have hS6 := hS6.mid
              have y0 := hS6.cellH 0; have z0 := hS6.freeH 0
              simp only [List.getElem?_toArray, List.getElem?_cons_zero, List.getElem?_cons_succ] at y0
              have HR3 := hid hR3'
              have HS6 := hid ((hS6.set 0 (.slice a3 S'.length c3)).sub (List.Sublist.cons_cons _ (List.sublist_append_left G3 Fs)))
              clear hR3 hR3' hS6 hrh HSH HR2 HS5
              go_wp2_with fail
              exact ⟨⟨k + 1, _, G3, S', by omega, by go_num, HNW.out, HR'.out, HM'.out, HL'.out.1, HR3.out, HS6.out⟩, by simp [intOf]; omega⟩
    · have hkn : k = ids.length := by omega
      have HF : Hid (newM [] ids = none) := hid (by rw [HN.out, hkn, List.drop_length]; rfl)
      have HM' : Hid (∀ x, x ∈ S ↔ x ∈ ids) := hid (fun x => by rw [HM.out, hkn, List.take_length])
      have hrow := HRs.out.rowOf hS.tail'
      have y0 := hS.cellH 0; have y1 := hS.cellH 1
      simp only [List.getElem?_toArray, List.getElem?_cons_zero, List.getElem?_cons_succ] at y0 y1
      have HS := hid hS; have HROW := hid hrow
      clear hS hrow
      go_upto_region 16 with (fail)
      go_region_law (((refine step_append_rows_st (by rfl) _ _ 22 (by rfl) 3 i1 (.int .i64 0) 8 Try.underlying22 hi1 hy0 hy1 hy2 (by rfl) (.slice none 0 0) 0 [] [] _ (by rfl) (Rw.nil _ _) HS.out.drew (.slice asv S.length csv) (ints S) (by rfl) HROW.out HRs.out.vnil (by intro u hu; simp [ints] at hu; obtain ⟨z, _, rfl⟩ := hu; rfl) (by rw [ints_len]; unfold maxLen; omega) (by rw [ints_len]; omega) ?_); intro v1 W4 G1 hR1 hS4; obtain ⟨a1, c1, rfl, _⟩ := hR1.form; have yy1 := hS4.mid.cellH 1; have zz1 := hS4.mid.freeH 1; simp only [List.getElem?_toArray, List.getElem?_cons_zero, List.getElem?_cons_succ] at yy1))
      all_goals
        have hR1' : Rw 3 1 (.slice a1 S.length c1) S.length (ints (S.map id)) G1 := by
          rw [List.map_id]; simpa [ints_len] using hR1
        have HR1 := hid hR1'
        have HS4 : Hid (St w (W4.setCell ⟨w.heap.size, 1, none⟩ (.slice a1 (ints S).length c1)) ((w.heap.size, Obj.cells #[.slice asv S.length csv, .slice a1 S.length c1] 47 (0, 0)) :: (G1 ++ Fs))) := hid (by rw [ints_len]; exact hS4.mid.set 1 (.slice a1 S.length c1))
        clear hR1 hR1' hS4 y0 y1 yy1 zz1
        go_wp2_with fail
        refine bodyPost_ret (v := .tuple #[.pointer (some ⟨w.heap.size, 0, none⟩), .int .i64 0]) (by simp [results, Try.results5, go_sem]) rfl ?_
        refine rpost_ok HF.out rfl ⟨w.heap.size, _, _, Fs, G1, rfl, rfl, HRs.out, HR1.out⟩ ?_ HSr.out HM'.out (by rw [HSL.out, hkn])
        refine HS4.out.perm ?_
        have h1 : (G1 ++ (Fs ++ [(w.heap.size, Obj.cells #[.slice asv S.length csv, .slice a1 S.length c1] 47 (0, 0))])).Perm ((w.heap.size, Obj.cells #[.slice asv S.length csv, .slice a1 S.length c1] 47 (0, 0)) :: (G1 ++ Fs)) := by
          rw [← List.append_assoc]; exact List.perm_append_singleton _ _
        exact h1
end Go.Proofs.Ytgohdcegplbkjaa
