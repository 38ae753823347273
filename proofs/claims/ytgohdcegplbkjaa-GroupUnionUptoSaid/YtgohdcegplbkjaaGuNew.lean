/- The program's unions: New. -/
import Derived.Test.YtgohdcegplbkjaaGuMap
import Derived.Test.YtgohdcegplbkjaaGuRefN
import Derived.Test.YtgohdcegplbkjaaShelf
namespace Go.Proofs.Ytgohdcegplbkjaa
set_option linter.unusedVariables false
set_option linter.unusedSimpArgs false
open Go Go.RowKit
open Go.Lib (hid)

theorem clone_c (w : World) (v : Value) (l : List Int) (hv : RowOf w v (ints l)) (hn : l.length ≤ 10000000) :
    Calls Try.prog 14 #[v] w fun e w' => ∃ v' F, e = .returned v' ∧ Rw 3 1 v' l.length (ints l) F ∧ St w w' F := by
  obtain ⟨ad, cap, rfl, h1, h2, h3⟩ := hv.cells
  cases ad with
  | none =>
    have hl : l = [] := by
      rcases l with _ | ⟨a, r⟩
      · rfl
      · obtain ⟨b, o, e, _⟩ := h3 0 (by simp)
        cases e
    subst hl
    refine (Try.slices_Clone_int_nil 0 cap w).mono ?_
    rintro e w' ⟨rfl, rfl⟩
    exact ⟨_, [], rfl, Rw.nil _ _, St.refl _⟩
  | some a =>
    rcases Nat.eq_zero_or_pos l.length with h0 | h0
    · have hl : l = [] := List.length_eq_zero_iff.1 h0
      subst hl
      refine (Try.slices_Clone_int_zero a cap w).mono ?_
      rintro e w' ⟨v', rfl, ho, _, hb⟩
      obtain ⟨F, hR, hS⟩ := St.ofOwn ho hb
      exact ⟨v', F, rfl, hR, hS⟩
    · obtain ⟨b, o, e, _⟩ := h3 0 h0
      cases e
      refine (Try.slices_Clone_int b o l.length cap l w (Nat.le_refl _) (by omega) (fun j hj => ?_)).mono ?_
      · obtain ⟨b', o', e, hc⟩ := h3 j hj
        cases e
        exact hc
      · rintro e w' ⟨v', rfl, ho, _, hb⟩
        rw [List.take_length] at ho
        obtain ⟨F, hR, hS⟩ := St.ofOwn ho hb
        exact ⟨v', F, rfl, hR, hS⟩

def NewPost (ids : List Int) (w : World) (e : Ending) (w' : World) : Prop :=
  match newM [] ids with
  | some c => e = .returned (.tuple #[.pointer none, .int .i64 c]) ∧ St w w' []
  | none => ∃ u F, e = .returned (.tuple #[u, .int .i64 0]) ∧ ProgU u ids (List.range ids.length) F ∧ St w w' F
theorem npost_no {ids : List Int} {w w' : World} {e : Ending} {c : Int} (h : newM [] ids = some c) (he : e = .returned (.tuple #[.pointer none, .int .i64 c])) (hS : St w w' []) : NewPost ids w e w' := by
  unfold NewPost; rw [h]; exact ⟨he, hS⟩
theorem npost_ok {ids : List Int} {w w' : World} {e : Ending} (h : newM [] ids = none) {u : Value} {F : Frag} (he : e = .returned (.tuple #[u, .int .i64 0])) (h1 : ProgU u ids (List.range ids.length) F) (h2 : St w w' F) : NewPost ids w e w' := by
  unfold NewPost; rw [h]; exact ⟨u, F, he, h1, h2⟩

set_option maxRecDepth 100000 in
set_option maxHeartbeats 4000000 in
theorem new_c (w : World) (v : Value) (ids : List Int) (hv : RowOf w v (ints ids)) (hn : ids.length ≤ 10000000) (hids : ∀ x ∈ ids, -9223372036854775808 ≤ x ∧ x ≤ 9223372036854775807) :
    Calls Try.prog 4 #[v] w (NewPost ids w) := by
  obtain ⟨i1, hi1, hy0, hy1, hy2⟩ := parts3 infoInt
  have HC := hid (clone_c w v ids hv hn)
  have HIDS := hid hids
  clear hv hids
  go_enter Try.func4, Try.ntmps4
  go_wp2_with fail
  refine HC.out.mono ?_
  rintro e w1 ⟨idv, Fi, rfl, hRi, hS⟩
  obtain ⟨ai, ci, rfl, q1, q2, _⟩ := hRi.form
  unfold maxLen at q2
  have HRi := hid hRi; have HS := hid hS
  clear hRi hS HC
  have hmk : ∀ w, (Instr.makeMap 42 none).run Try.prog w = .ok (.map (some w.heap.size)) (w.alloc (.map #[] 0)) := fun w => run_makeMap _ w
  go_wp2_with fail
  go_loopw [19] (fun iv wr => ∃ (k : Nat) (es : Array MapEntry) (clock : Nat) (ovv : Value) (Fo : Frag), k ≤ ids.length ∧ iv = .int .i64 k ∧ newM [] ids = newM (ids.take k) (ids.drop k) ∧ MapM es (ids.take k) ∧ Rw 3 1 ovv k (nats (List.range k)) Fo ∧ St w wr ((w1.heap.size + 1, .cells #[.slice ai ids.length ci, .map (some w1.heap.size), ovv] 44 (0, 0)) :: ((w1.heap.size, .map es clock) :: (Fo ++ Fi)))) (fun iv _ => ids.length - (intOf iv).toNat)
  case atStart =>
    refine ⟨0, #[], 0, .slice none 0 0, [], Nat.zero_le _, rfl, by simp, rfl, Rw.nil _ _, ?_⟩
    have h := (HS.out.alloc (.map #[] 0)).alloc (.cells #[.slice ai ids.length ci, .map (some w1.heap.size), .slice none 0 0] 44)
    simpa using h
  case round =>
    obtain ⟨k, es, clock, ovv, Fo, hk, rfl, hN, hM, hRo, hS⟩ := hrel
    have hidk : ∀ x ∈ ids.take k, -9223372036854775808 ≤ x ∧ x ≤ 9223372036854775807 := fun x hx => HIDS.out x (List.mem_of_mem_take hx)
    obtain ⟨ao, co, rfl, o1, o2, _⟩ := hRo.form
    unfold maxLen at o2
    have HN := hid hN; have HM := hid hM; have HRo := hid hRo; have HIDK := hid hidk
    clear hN hM hRo hidk
    have hFi : St w wr (Fi ++ []) := by rw [List.append_nil]; exact hS.tail.tail.appR
    have HROW := hid (HRi.out.rowOf hFi)
    have y0 := hS.cellH 0; have y1 := hS.cellH 1; have y2 := hS.cellH 2
    simp only [List.getElem?_toArray, List.getElem?_cons_zero, List.getElem?_cons_succ] at y0 y1 y2
    have HS1 := hid hS
    clear hFi hS
    by_cases hlt : k < ids.length
    · obtain ⟨ad', cap', e', _, _, hcells⟩ := HROW.out.cells
      cases e'
      obtain ⟨bi, oi, rfl, ck⟩ := hcells k hlt
      clear hcells
      obtain ⟨x, hx⟩ : ∃ x, x = ids.getD k 0 := ⟨_, rfl⟩
      rw [← hx] at ck
      have HX := hid hx
      have hx64 := HIDS.out x (by rw [hx]; exact idAt_mem hlt)
      clear hx
      by_cases hrange : x < 0 ∨ 281474976710656 < x
      · have HF : Hid (newM [] ids = some 60) := hid (by rw [HN.out, drop_at ids k hlt, ← HX.out, newM_out _ _ _ hrange])
        rcases hrange with h1 | h1
        · go_wp2_with fail
          exact bodyPost_ret (v := .tuple #[.pointer none, .int .i64 60]) (by simp [results, Try.results4, go_sem]) rfl (npost_no HF.out rfl HS1.out.toSt0)
        · have h2 : ¬ x < 0 := by omega
          go_wp2_with fail
          exact bodyPost_ret (v := .tuple #[.pointer none, .int .i64 60]) (by simp [results, Try.results4, go_sem]) rfl (npost_no HF.out rfl HS1.out.toSt0)
      · have h1 : ¬ x < 0 := by omega
        have h2 : ¬ 281474976710656 < x := by omega
        have HRG := hid hrange
        clear hrange
        have hlk := look_run (HS1.out.tail.get) HM.out HIDK.out hx64
        rcases hlk with ⟨q, hq, hqx, hrun⟩ | ⟨hnx, hrun⟩
        · have HF : Hid (newM [] ids = some 130) := hid (by rw [HN.out, drop_at ids k hlt, ← HX.out, newM_twice _ _ _ HRG.out (by rw [← hqx]; exact idAt_mem hq)])
          clear hqx hq
          go_wp2_with fail
          exact bodyPost_ret (v := .tuple #[.pointer none, .int .i64 130]) (by simp [results, Try.results4, go_sem]) rfl (npost_no HF.out rfl HS1.out.toSt0)
        · have hlenk : (ids.take k).length = k := by rw [List.length_take]; omega
          obtain ⟨W', es', hup, hS', hM'⟩ := put_run HS1.out.swap HM.out HIDK.out hx64 hnx (by rw [hlenk]; unfold maxLen; omega)
          rw [hlenk] at hup
          have HS' := hid hS'.swap
          have HM' : Hid (MapM es' (ids.take (k + 1))) := hid (by rw [take_at ids k hlt, ← HX.out]; exact hM')
          have HN' : Hid (newM [] ids = newM (ids.take (k + 1)) (ids.drop (k + 1))) := hid (by rw [HN.out, drop_at ids k hlt, ← HX.out, newM_step _ _ _ HRG.out hnx, take_at ids k hlt, ← HX.out])
          have z2 : W'.cell? ⟨w1.heap.size + 1, 2, none⟩ = some (.slice ao k co) := HS'.out.cellH 2
          have HS2 : Hid (St w W' (Fo ++ ((w1.heap.size + 1, .cells #[.slice (some ⟨bi, oi, none⟩) ids.length ci, .map (some w1.heap.size), .slice ao k co] 44 (0, 0)) :: ((w1.heap.size, .map es' (clock + 1)) :: Fi)))) := hid (HS'.out.perm (by
            have h1 := List.perm_append_comm_assoc Fo [(w1.heap.size + 1, Obj.cells #[.slice (some ⟨bi, oi, none⟩) ids.length ci, .map (some w1.heap.size), .slice ao k co] 44 (0, 0)), (w1.heap.size, .map es' (clock + 1))] Fi
            exact h1))
          have HNS : Hid (nats (List.range k) ++ [.int .i64 (k : Int)] = nats (List.range (k + 1))) := hid (by simp [nats, ints, List.range_succ])
          clear hS' hM' hnx hlenk
          go_wp2_with (at_builtin; refine append_st (by rfl) _ _ 22 (by rfl) 3 i1 (.int .i64 0) 1 8 Try.underlying22 hi1 hy0 hy1 hy2 (by rfl) (by decide) (.slice ao k co) k (nats (List.range k)) Fo _ (by rfl) HRo.out HS2.out 1 W'.heap.size [.int .i64 (k : Int)] (by rfl) (by rfl) (by rfl) (by intro u hu; simp at hu; subst hu; rfl) (by unfold maxLen; omega) (by omega) ?_)
          intro v2 W4 F' hR2 hS4
          rw [HNS.out] at hR2
          obtain ⟨a2, c2, rfl, _⟩ := hR2.form
          have hS4 := hS4.mid
          have y2 := hS4.cellH 2; have zz2 := hS4.freeH 2
          simp only [List.getElem?_toArray, List.getElem?_cons_zero, List.getElem?_cons_succ] at y2
          have HR2 := hid hR2
          have HS4 : Hid (St w (W4.setCell ⟨w1.heap.size + 1, 2, none⟩ (.slice a2 (k + 1) c2)) ((w1.heap.size + 1, .cells #[.slice (some ⟨bi, oi, none⟩) ids.length ci, .map (some w1.heap.size), .slice a2 (k + 1) c2] 44 (0, 0)) :: ((w1.heap.size, .map es' (clock + 1)) :: (F' ++ Fi)))) := hid (((hS4.set 2 (.slice a2 (k + 1) c2)).perm (by
            refine List.Perm.cons _ ?_
            exact (List.perm_middle (l₁ := F')).symm)))
          clear hR2 hS4
          go_wp2_with fail
          exact ⟨⟨k + 1, es', clock + 1, _, F', by omega, by go_num, HN'.out, HM'.out, HR2.out, HS4.out⟩, by simp [intOf]; omega⟩
    · have hkn : k = ids.length := by omega
      have HF : Hid (newM [] ids = none) := hid (by rw [HN.out, hkn, List.drop_length]; rfl)
      subst hkn
      rw [List.take_length] at HM
      go_wp2_with fail
      refine bodyPost_ret (v := .tuple #[.pointer (some ⟨w1.heap.size + 1, 0, none⟩), .int .i64 0]) (by simp [results, Try.results4, go_sem]) rfl ?_
      refine npost_ok HF.out rfl ⟨w1.heap.size + 1, _, _, w1.heap.size, es, clock, Fi, Fo, rfl, rfl, HM.out, HRi.out, HRo.out⟩ ?_
      refine HS1.out.perm ?_
      rw [← List.append_assoc]
      exact (List.perm_append_comm (l₁ := Fo ++ Fi) (l₂ := [_, _]))
end Go.Proofs.Ytgohdcegplbkjaa
