/- The law's helper spoil: the groups are written over and grown; nothing else is touched. -/
import Derived.Test.YtgohdcegplbkjaaGuSame
import Derived.StillTailTactics
namespace Go.Proofs.Ytgohdcegplbkjaa
set_option linter.unusedVariables false
set_option linter.unusedSimpArgs false
open Go Go.RowKit
open Go.Lib (hid)

/-- the head of a row of rows -/
theorem head_at {e : TypeId} {W0 W : World} {v : Value} {n k : Nat} {T : List Row} {F0 M : Frag} {r : Row} (hR : Rw e 1 v n (vals T) F0) (hk : T[k]? = some r) (hS : St W0 W (F0 ++ M)) :
    ∃ g cap, v = .slice (some ⟨g, 0, none⟩) n cap ∧ W.cell? ⟨g, k, none⟩ = some r.v := by
  obtain ⟨hl, e0⟩ := List.getElem?_eq_some_iff.1 hk
  obtain ⟨g, cap, rfl, hc⟩ := hR.cells hS (by intro e0; have := congrArg List.length e0; simp [vals] at this; rw [this] at hl; simp at hl)
  exact ⟨g, cap, rfl, hc k _ (by simp [vals, hk])⟩
theorem vals_set (A B : List Row) (r r' : Row) (h : r'.v = r.v) : vals (A ++ r' :: B) = vals (A ++ r :: B) := by simp [vals, h]

set_option maxRecDepth 100000 in
set_option maxHeartbeats 4000000 in
theorem spoil_c (W0 w : World) (M F0 : Frag) (v : Value) (T : List Row) (hR : Rw 50 1 v T.length (vals T) F0) (hT : ∀ r ∈ T, r.ok 3) (hS : St W0 w ((F0 ++ frags T) ++ M)) (hlx : T.length ≤ 100000000) (hln : ∀ r ∈ T, r.g.length ≤ 100000000) :
    Calls Try.prog 21 #[v] w fun e w' => e = .returned (.bool true) ∧ ∃ F', St W0 w' (F' ++ M) := by
  obtain ⟨i1, hi1, hy0, hy1, hy2⟩ := parts3 infoInt
  obtain ⟨ad, cap, rfl, f1, f2, f3⟩ := hR.form
  unfold maxLen at f2
  have HLN := hid hln; have HR := hid hR; have HT := hid hT; have HS := hid hS
  clear hln hR hT hS
  go_enter Try.func21, Try.ntmps21
  go_wp2_with fail
  go_loopw [3] (fun i wr => ∃ (k : Nat) (Y : List Row), k ≤ T.length ∧ i = .int .i64 k ∧ vals Y = vals T ∧ (∀ r ∈ Y, r.ok 3) ∧ (∀ (i : Nat) r, T[i]? = some r → ∃ r', Y[i]? = some r' ∧ r'.g = if i < k then r.g.map (fun _ => -1 - (i : Int)) else r.g) ∧ St W0 wr ((F0 ++ frags Y) ++ M)) (fun i _ => T.length - (intOf i).toNat)
  case atStart => exact ⟨0, T, Nat.zero_le _, rfl, rfl, HT.out, fun i r h => ⟨r, h, by rw [if_neg (Nat.not_lt_zero i)]⟩, HS.out⟩
  case round =>
    obtain ⟨k, Y, hk, rfl, hV, hYok, hY, hS⟩ := hrel
    by_cases hlt : k < T.length
    · obtain ⟨r0, hr0⟩ : ∃ r, T[k]? = some r := ⟨_, List.getElem?_eq_getElem hlt⟩
      have hln := HLN.out r0 (List.mem_of_getElem? hr0)
      obtain ⟨r, hr, hrg⟩ := hY k r0 hr0
      rw [if_neg (Nat.lt_irrefl k)] at hrg
      have hrk := hYok r (List.mem_of_getElem? hr)
      have hRY : Rw 50 1 (.slice ad T.length cap) T.length (vals Y) F0 := by rw [hV]; exact HR.out
      obtain ⟨A, B, rfl, hA⟩ := split_at hr
      obtain ⟨rg, rv, rF⟩ := r
      simp only at hrg
      have hS1 := hS.perm (perm_row A B ⟨rg, rv, rF⟩ F0 M)
      simp only at hS1
      obtain ⟨g0, cap0, e0, -⟩ := head_at hRY hr hS1.appR
      cases e0
      have HH : Hid (∀ W F, St W0 W (F ++ (F0 ++ (frags A ++ (frags B ++ M)))) → W.cell? ⟨g0, k, none⟩ = some rv) := hid (fun W F h => by
        obtain ⟨g, c, e, hc⟩ := head_at hRY hr h.appR
        cases e
        exact hc)
      obtain ⟨R, hRR⟩ : ∃ R, R = F0 ++ (frags A ++ (frags B ++ M)) := ⟨_, rfl⟩
      rw [← hRR] at hS1 HH
      have HRR := hid hRR
      have HY := hid hY; have HV := hid hV; have HOK := hid hYok; have HR0 := hid hr0
      have hrk' : Rw 3 1 rv rg.length (ints rg) rF := hrk
      rw [hrg] at hrk'
      clear hRR hY hV hYok hr0 hS hRY hrk hr
      obtain ⟨ns, hns⟩ : ∃ ns, ns = r0.g := ⟨_, rfl⟩
      rw [← hns] at hrk' hln
      have HNS := hid hns
      have HRG := hid hrg
      clear hns hrg
      obtain ⟨a1, c1, rfl, q1, q2, _⟩ := hrk'.form
      unfold maxLen at q2
      obtain ⟨x, hx⟩ : ∃ x : Int, x = -1 - (k : Int) := ⟨_, rfl⟩
      have HX := hid hx
      clear hx
      go_wp2_with fail
      go_loopw [4] (fun jv wr => ∃ (j : Nat) (G1 : Frag), j ≤ ns.length ∧ jv = .int .i64 j ∧ Rw 3 1 (.slice a1 ns.length c1) ns.length (ints (upd (fun _ => x) j ns)) G1 ∧ St W0 wr (G1 ++ R)) (fun jv _ => ns.length - (intOf jv).toNat)
      case atStart => exact ⟨0, rF, Nat.zero_le _, rfl, by rw [upd_zero]; exact hrk', hS1⟩
      case round =>
        obtain ⟨j, G1, hj, rfl, hr1, hS1⟩ := hrel
        have q1 := HH.out _ _ hS1
        by_cases hlj : j < ns.length
        · obtain ⟨g, c, e, hc, hf, hw⟩ := hr1.put hS1 j hlj
          cases e
          obtain ⟨F', hw1, hw2⟩ := hw 0 (.int .i64 x)
          rw [ints_set, show x = (fun _ => x) ns[j] from rfl, upd_set _ _ _ hlj] at hw1
          have hc' : wr.cell? ⟨g, j, none⟩ = some (.int .i64 ns[j]) := by
            rw [hc, ints, List.getElem?_map, upd_get _ _ _ hlj, List.getElem?_eq_getElem hlj]; rfl
          have HW := hid (And.intro hw1 hw2)
          have HX' := HX.out
          clear hw hw1 hw2 hr1 hS1 hc
          go_wp2_with fail
          exact ⟨⟨j + 1, F', by omega, by go_num, HW.out.1, by rw [← HX'] ; exact HW.out.2⟩, by simp [intOf]; omega⟩
        · have hjn : j = ns.length := by omega
          subst hjn
          rw [upd_full] at hr1
          have HR1 := hid hr1; have HS1 := hid hS1
          clear hr1 hS1 hlj hj
          go_wp2_with fail
          refine ⟨⟨k + 1, A ++ ⟨ns.map (fun _ => x), .slice a1 ns.length c1, G1⟩ :: B, by omega, by go_num, ?_, ?_, ?_, ?_⟩, by simp [intOf]; omega⟩
          · rw [← HV.out]; exact vals_set A B _ _ rfl
          · intro r hr
            rcases List.mem_append.1 hr with hr | hr
            · exact HOK.out r (List.mem_append_left _ hr)
            · rcases List.mem_cons.1 hr with rfl | hr
              · unfold Row.ok; simpa only [List.length_map] using HR1.out
              · exact HOK.out r (List.mem_append_right _ (List.mem_cons_of_mem _ hr))
          · intro i t hi
            obtain ⟨r', h1, h2⟩ := HY.out i t hi
            have hA' := hA
            by_cases hik : i = k
            · subst hik
              rw [HR0.out] at hi
              cases hi
              refine ⟨_, by rw [List.getElem?_append_right (by omega), hA, Nat.sub_self]; rfl, ?_⟩
              rw [if_pos (Nat.lt_succ_self _), ← HNS.out, HX.out]
            · refine ⟨r', ?_, ?_⟩
              · rcases Nat.lt_or_ge i A.length with hl | hl
                · rw [List.getElem?_append_left hl] at h1 ⊢; exact h1
                · rw [List.getElem?_append_right hl] at h1 ⊢
                  obtain ⟨q, hq⟩ : ∃ q, i - A.length = q + 1 := ⟨i - A.length - 1, by omega⟩
                  rw [hq] at h1 ⊢
                  exact h1
              · rw [h2]
                by_cases hl : i < k
                · rw [if_pos hl, if_pos (by omega)]
                · rw [if_neg hl, if_neg (by omega)]
          · have h := HS1.out
            rw [HRR.out] at h
            exact h.perm (perm_row A B ⟨_, _, G1⟩ F0 M).symm
    · have hkn : k = T.length := by omega
      subst hkn
      have HY : Hid (∀ (i : Nat) r, T[i]? = some r → ∃ r', Y[i]? = some r' ∧ r'.g = r.g.map (fun _ => -1 - (i : Int))) := hid (fun i r hi => by
        obtain ⟨r', h1, h2⟩ := hY i r hi
        exact ⟨r', h1, by rw [h2, if_pos (List.getElem?_eq_some_iff.1 hi).1]⟩)
      have HV := hid hV
      clear hY hlt hk hV
      go_wp2_with fail
      have hlY : Y.length = T.length := by have := congrArg List.length HV.out; simpa [vals] using this
      have HLY := hid hlY
      clear hlY
      go_loopw [5] (fun i wr => ∃ (k : Nat) (Y' : List Row), k ≤ T.length ∧ i = .int .i64 k ∧ vals Y' = vals T ∧ lists Y' = lists Y ∧ (∀ r ∈ Y', r.ok 3) ∧ St W0 wr ((F0 ++ frags Y') ++ M)) (fun i _ => T.length - (intOf i).toNat)
      case atStart => exact ⟨0, Y, Nat.zero_le _, rfl, HV.out, rfl, hYok, hS⟩
      case round =>
        clear hYok hS
        obtain ⟨k, Y', hk, rfl, hV, hL, hYok, hS⟩ := hrel
        have hlY : Y'.length = T.length := by have := congrArg List.length hV; simpa [vals] using this
        by_cases hlt : k < T.length
        · obtain ⟨r0, hr0⟩ : ∃ r, T[k]? = some r := ⟨_, List.getElem?_eq_getElem hlt⟩
          obtain ⟨⟨rg, rv, rF⟩, hr⟩ : ∃ r, Y'[k]? = some r := ⟨_, List.getElem?_eq_getElem (by omega)⟩
          have hln : rg.length ≤ 100000000 := by
            obtain ⟨r1, h1, h2⟩ := HY.out k r0 hr0
            have h3 := congrArg (fun l => l[k]?) hL
            simp [lists, hr, h1] at h3
            rw [h3, h2, List.length_map]
            exact HLN.out r0 (List.mem_of_getElem? hr0)
          have hrk : Rw 3 1 rv rg.length (ints rg) rF := hYok _ (List.mem_of_getElem? hr)
          have hRY : Rw 50 1 (.slice ad T.length cap) T.length (vals Y') F0 := by rw [hV]; exact HR.out
          obtain ⟨A, B, rfl, hA⟩ := split_at hr
          have hS1 := hS.perm (perm_row A B ⟨rg, rv, rF⟩ F0 M)
          simp only at hS1
          obtain ⟨g0, cap0, e0, -⟩ := head_at hRY hr hS1.appR
          cases e0
          have HH : Hid (∀ W F, St W0 W (F ++ (F0 ++ (frags A ++ (frags B ++ M)))) → W.cell? ⟨g0, k, none⟩ = some rv) := hid (fun W F h => by
            obtain ⟨g, c, e, hc⟩ := head_at hRY hr h.appR
            cases e
            exact hc)
          obtain ⟨R, hRR⟩ : ∃ R, R = F0 ++ (frags A ++ (frags B ++ M)) := ⟨_, rfl⟩
          rw [← hRR] at hS1 HH
          have HRR := hid hRR
          have HV1 := hid hV; have HL1 := hid hL; have HOK := hid hYok
          clear hRR hV hL hYok hr0 hr hS hRY hlY
          obtain ⟨a1, c1, rfl, q1, q2, _⟩ := hrk.form
          unfold maxLen at q2
          obtain ⟨n, hn⟩ : ∃ n, n = rg.length := ⟨_, rfl⟩
          have hli : (ints rg).length = n := by rw [ints_len, hn]
          rw [← hn] at q1 hln hrk HH
          have HN := hid hn; have HLI := hid hli
          have hg := Gro.start hrk
          have qc := HH.out _ _ hS1
          have HS1 := hid hS1; have HG := hid hg
          clear hn hli hrk hS1 hg
          go_wp2_with (at_builtin; refine append_gro (by rfl) _ _ 22 (by rfl) 3 i1 (.int .i64 0) 8 Try.underlying22 hi1 hy0 hy1 hy2 (by rfl) (.slice a1 n c1) (.slice a1 n c1) n (ints rg) [] rF R (by rfl) HG.out HS1.out HLI.out _ _ (by rfl) (by rfl) (by rfl) (by unfold maxLen; simp; omega) (by simp; omega) ?_)
          intro v1 W1 G1 hg1 hS2
          have HG1 := hid hg1; have HS2 := hid hS2
          clear hg1 hS2 HS1 HG qc
          go_wp2_with fail
          go_loopw [6, 7] (fun mv jv wr => ∃ (j : Nat) (v' : Value) (ks : List Value) (G : Frag), v' = mv ∧ j ≤ 64 ∧ jv = .int .i64 j ∧ ks.length = j + 1 ∧ Gro 3 (.slice a1 n c1) v' n (ints rg) ks G ∧ St W0 wr (G ++ R)) (fun _ jv _ => 64 - (intOf jv).toNat)
          case atStart => exact ⟨0, _, _, _, rfl, Nat.zero_le _, rfl, rfl, HG1.out, HS2.out⟩
          case round =>
            clear HG1 HS2
            obtain ⟨j, v2, ks, G2, rfl, hj, rfl, hkl, hg2, hS3⟩ := hrel
            by_cases hlj : j < 64
            · have HG2 := hid hg2; have HS3 := hid hS3
              clear hg2 hS3
              go_wp2_with (at_builtin; refine append_gro (by rfl) _ _ 22 (by rfl) 3 i1 (.int .i64 0) 8 Try.underlying22 hi1 hy0 hy1 hy2 (by rfl) (.slice a1 n c1) v2 n (ints rg) ks G2 R (by rfl) HG2.out HS3.out HLI.out _ _ (by rfl) (by rfl) (by rfl) (by unfold maxLen; omega) (by omega) ?_)
              intro v3 W3 G3 hg3 hS4
              have HG3 := hid hg3; have HS4 := hid hS4
              clear hg3 hS4 HG2 HS3
              go_wp2_with fail
              exact ⟨⟨j + 1, v3, _, G3, rfl, by omega, by go_num, by simp [hkl], HG3.out, HS4.out⟩, by simp [intOf]; omega⟩
            · have hj64 : j = 64 := by omega
              subst hj64
              have qc := HH.out _ _ hS3
              obtain ⟨b1, d1, rfl⟩ := hg2.form
              obtain ⟨G1', hb1, hu1⟩ := hg2.base HLI.out
              rw [hkl] at *
              have HS5 : Hid (St W0 wr ((F0 ++ frags (A ++ ⟨rg, .slice a1 n c1, G1'⟩ :: B)) ++ M)) := hid (by
                have h := hS3.sub (hu1.append (List.Sublist.refl R))
                rw [HRR.out] at h
                exact h.perm (perm_row A B ⟨rg, .slice a1 n c1, G1'⟩ F0 M).symm)
              have HB := hid hb1
              clear hg2 hb1 hS3 hu1 hkl
              go_wp2_with fail
              refine ⟨⟨k + 1, A ++ ⟨rg, .slice a1 n c1, G1'⟩ :: B, by omega, by go_num, ?_, ?_, ?_, HS5.out⟩, by simp [intOf]; omega⟩
              · rw [← HV1.out]; exact vals_set A B _ _ (by rw [HN.out])
              · rw [← HL1.out]; simp [lists]
              · intro r hr
                rcases List.mem_append.1 hr with hr | hr
                · exact HOK.out r (List.mem_append_left _ hr)
                · rcases List.mem_cons.1 hr with rfl | hr
                  · unfold Row.ok; rw [← HN.out]; exact HB.out
                  · exact HOK.out r (List.mem_append_right _ (List.mem_cons_of_mem _ hr))
        · have hkn : k = T.length := by omega
          subst hkn
          clear hlt hk
          have HV1 := hid hV; have HL1 := hid hL; have HOK := hid hYok; have HS1 := hid hS
          clear hV hL hYok hS
          go_wp2_with fail
          go_loopw [8] (fun i wr => ∃ (k : Nat), k ≤ T.length ∧ i = .int .i64 k ∧ St W0 wr ((F0 ++ frags Y') ++ M)) (fun i _ => T.length - (intOf i).toNat)
          case atStart => exact ⟨0, Nat.zero_le _, rfl, HS1.out⟩
          case round =>
            clear HS1
            obtain ⟨k, hk, rfl, hS⟩ := hrel
            by_cases hlt : k < T.length
            · obtain ⟨r0, hr0⟩ : ∃ r, T[k]? = some r := ⟨_, List.getElem?_eq_getElem hlt⟩
              obtain ⟨⟨rg, rv, rF⟩, hr⟩ : ∃ r, Y'[k]? = some r := ⟨_, List.getElem?_eq_getElem (by omega)⟩
              have hrg : rg = r0.g.map (fun _ => -1 - (k : Int)) := by
                obtain ⟨r1, h1, h2⟩ := HY.out k r0 hr0
                have h3 := congrArg (fun l => l[k]?) HL1.out
                simp [lists, hr, h1] at h3
                rw [h3, h2]
              have hln : rg.length ≤ 100000000 := by
                rw [hrg, List.length_map]
                exact HLN.out r0 (List.mem_of_getElem? hr0)
              have hrk : Rw 3 1 rv rg.length (ints rg) rF := HOK.out _ (List.mem_of_getElem? hr)
              have hRY : Rw 50 1 (.slice ad T.length cap) T.length (vals Y') F0 := by rw [HV1.out]; exact HR.out
              obtain ⟨A, B, hAB, hA⟩ := split_at hr
              have hS1 : St W0 wr (rF ++ (F0 ++ (frags A ++ (frags B ++ M)))) := (by rw [hAB] at hS; exact hS.perm (perm_row A B ⟨rg, rv, rF⟩ F0 M))
              obtain ⟨g0, cap0, e0, -⟩ := head_at hRY hr hS1.appR
              cases e0
              have HH : Hid (∀ W F, St W0 W (F ++ (F0 ++ (frags A ++ (frags B ++ M)))) → W.cell? ⟨g0, k, none⟩ = some rv) := hid (fun W F h => by
                obtain ⟨g, c, e, hc⟩ := head_at hRY hr h.appR
                cases e
                exact hc)
              obtain ⟨R, hRR⟩ : ∃ R, R = F0 ++ (frags A ++ (frags B ++ M)) := ⟨_, rfl⟩
              rw [← hRR] at hS1 HH
              have HBack : Hid (∀ W, St W0 W (rF ++ R) → St W0 W ((F0 ++ frags Y') ++ M)) := hid (fun W h => by
                rw [hRR] at h
                rw [hAB]
                exact h.perm (perm_row A B ⟨rg, rv, rF⟩ F0 M).symm)
              clear hRR hr hS hRY hAB
              obtain ⟨a1, c1, rfl, q1, q2, -⟩ := hrk.form
              unfold maxLen at q2
              obtain ⟨n, hn⟩ : ∃ n, n = rg.length := ⟨_, rfl⟩
              rw [← hn] at q1 hln hrk HH
              have HN := hid hn; have HRK := hid hrk; have HRG := hid hrg
              have qc := HH.out _ _ hS1
              have HS1 := hid hS1
              clear hn hrk hS1 hrg hr0
              go_wp2_with fail
              clear qc
              go_loopw [9] (fun jv wr => ∃ (j : Nat), j ≤ n ∧ jv = .int .i64 j ∧ St W0 wr (rF ++ R)) (fun jv _ => n - (intOf jv).toNat)
              case atStart => exact ⟨0, Nat.zero_le _, rfl, HS1.out⟩
              case round =>
                clear HS1
                obtain ⟨j, hj, rfl, hS1⟩ := hrel
                have qc := HH.out _ _ hS1
                by_cases hlj : j < n
                · obtain ⟨g, c, e, hc, hf, hw⟩ := HRK.out.put hS1 j hlj
                  cases e
                  have hc' : wr.cell? ⟨g, j, none⟩ = some (.int .i64 (-1 - (k : Int))) := by
                    rw [hc, HRG.out, ints, List.getElem?_map, List.getElem?_map]
                    have hjl : j < r0.g.length := by rw [HN.out, HRG.out, List.length_map] at hlj; exact hlj
                    rw [List.getElem?_eq_getElem hjl]; rfl
                  have HS1 := hid hS1
                  clear hw hS1 hc hf
                  go_wp2_with fail
                  exact ⟨⟨j + 1, by omega, by go_num, HS1.out⟩, by simp [intOf]; omega⟩
                · have HS1 := hid (HBack.out _ hS1)
                  clear hS1
                  go_wp2_with fail
                  exact ⟨⟨k + 1, by omega, by go_num, HS1.out⟩, by simp [intOf]; omega⟩
            · have HS := hid hS
              clear hS
              go_wp2_with fail
              go_ret
              exact ⟨rfl, _, HS.out⟩
end Go.Proofs.Ytgohdcegplbkjaa
