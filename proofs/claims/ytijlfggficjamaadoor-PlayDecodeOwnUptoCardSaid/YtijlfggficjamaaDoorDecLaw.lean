/- The walk of the law PlayDecodeExact. -/
import Derived.Test.YtijlfggficjamaaDoorDecPlay
import Derived.Test.YtijlfggficjamaaDoorPlayLaw
namespace Go.Proofs.YtijlfggficjamaaDoor
set_option linter.unusedVariables false
set_option linter.unusedSimpArgs false
open Go Go.RowKit
open Go.Lib (hid)

theorem StepFr.isStep {s : StepM} {cs : List Value} {F : Frag} {W0 W : World} (h : StepFr s (.agg cs.toArray) F) (hS : St W0 W F) : cs.length = 6 ∧ StepIs W cs.toArray s := by
  obtain ⟨nv, sv, F1, F2, he, rfl, h1, h2⟩ := h
  injection he with he
  refine ⟨by have := congrArg Array.size he; simpa using this, nv, sv, he, h1.rowOf hS, ?_⟩
  exact h2.rowOf (M := F1) hS.comm
theorem StepRows.get : ∀ {xs : List StepM} {L : List (List Value)} {F : Frag} {i : Nat} {s : StepM}, StepRows xs L F → xs[i]? = some s →
    ∃ cs Fi, L[i]? = some cs ∧ StepFr s (.agg cs.toArray) Fi ∧ Fi.Sublist F
  | x :: xs, c :: L, F, 0, s, h, hs => by
    obtain ⟨F1, F2, rfl, h1, h2⟩ := h
    simp at hs; subst hs
    exact ⟨c, F1, rfl, h1, List.sublist_append_left _ _⟩
  | x :: xs, c :: L, F, i + 1, s, h, hs => by
    obtain ⟨F1, F2, rfl, h1, h2⟩ := h
    obtain ⟨cs, Fi, e1, e2, e3⟩ := h2.get (i := i) (by simpa using hs)
    exact ⟨cs, Fi, by simpa using e1, e2, e3.trans (List.sublist_append_right _ _)⟩
  | [], _, _, i, s, _, hs => by simp at hs
  | _ :: _, [], _, _, _, h, _ => h.elim
/-- what the readers hand over reads as the steps -/
theorem StepsM.stepsOf {v : Value} {xs : List StepM} {F : Frag} {W0 W : World} (h : StepsM v xs F) (hS : St W0 W F) : StepsOf W v xs := by
  obtain ⟨L, F0, F1, rfl, hR, hQ⟩ := h
  obtain ⟨ad, cap, he, h1, h2, _⟩ := hR.form
  refine ⟨ad, cap, he, h1, h2, fun hne => ?_⟩
  have hL := hQ.len
  have h6 : ∀ c ∈ L, c.length = 6 := by
    intro c hc
    obtain ⟨i, hi⟩ := List.mem_iff_getElem?.1 hc
    have hil := (List.getElem?_eq_some_iff.1 hi).1
    obtain ⟨cs, Fi, e1, e2, e3⟩ := hQ.get (i := i) (List.getElem?_eq_getElem (by omega))
    rw [hi] at e1; cases e1
    exact (e2.isStep (hS.sub (e3.trans (List.sublist_append_right _ _)))).1
  have hfl := flat_len L h6
  have hfne : L.flatten ≠ [] := by
    intro e
    rw [e, List.length_nil] at hfl
    have := List.length_pos_iff.2 hne
    omega
  obtain ⟨g, c, he', hc⟩ := hR.cells hS hfne
  rw [he] at he'
  injection he' with a b d
  subst a
  refine ⟨g, 0, rfl, fun i s hi => ?_⟩
  obtain ⟨cs, Fi, e1, e2, e3⟩ := hQ.get hi
  obtain ⟨hl6, hst⟩ := e2.isStep (hS.sub (e3.trans (List.sublist_append_right _ _)))
  refine ⟨cs.toArray, hst, fun j x hx => ?_⟩
  have hx' : cs[j]? = some x := by simpa using hx
  have hj : j < 6 := by have := (List.getElem?_eq_some_iff.1 hx').1; omega
  rw [← flat_get L h6 i j hj cs e1] at hx'
  rw [Nat.zero_add]
  exact hc _ _ hx'
theorem stepsOf_nil (W : World) : StepsOf W (.slice none 0 0) [] := ⟨none, 0, rfl, Nat.le_refl _, by unfold maxLen; omega, fun h => absurd rfl h⟩

set_option maxRecDepth 100000 in
set_option maxHeartbeats 4000000 in
theorem decodeExact_c (s : ByteArray) (w : World) (hs : s.size ≤ 10000000) (he : DEnv w) :
    Calls Tryd.prog 4 #[.string s] w fun e w' => e = .returned (.bool true) ∧ Below w.heap.size w w' := by
  obtain ⟨T, hT⟩ : ∃ T, T = s.data.toList := ⟨_, rfl⟩
  have h1 := playDecode_c s w (by omega) he
  have h2 := fun (W : World) (hW : Tab W) => refDecode_c s W hs hW
  rw [← hT] at h1
  simp only [← hT] at h2
  have HE := hid he; have H1 := hid h1; have H2 := hid h2
  clear he h1 h2 hT
  go_enter Tryd.func4, Tryd.ntmps4
  go_wp2_with fail
  refine H1.out.mono ?_
  intro e W1 hp1
  cases hd : decS T with
  | no n c =>
    unfold DecPost at hp1
    rw [hd] at hp1
    obtain ⟨rfl, hS1⟩ := hp1
    have HD := hid hd; have HS1 := hid hS1
    clear hd hS1
    go_wp2_with fail
    refine (H2.out W1 (HE.out.st HS1.out).tab).mono ?_
    intro e W2 hp2
    unfold DecPost at hp2
    rw [HD.out] at hp2
    obtain ⟨rfl, hS2⟩ := hp2
    have HS2 := hid (HS1.out.callB hS2.below)
    clear hS2
    go_wp2_with fail
    refine (sameSteps_c _ _ _ [] (stepsOf_nil _) (stepsOf_nil _)).mono ?_
    rintro e W3 ⟨rfl, m, rfl⟩
    go_wp2_with fail
    go_ret
    exact ⟨rfl, drewN_below HS2.out.below m⟩
  | ok xs =>
    unfold DecPost at hp1
    rw [hd] at hp1
    obtain ⟨v1, F1, rfl, hM1, hS1⟩ := hp1
    have HD := hid hd; have HS1 := hid hS1; have HM1 := hid hM1
    clear hd hS1 hM1
    go_wp2_with fail
    refine (H2.out W1 (HE.out.st HS1.out).tab).mono ?_
    intro e W2 hp2
    unfold DecPost at hp2
    rw [HD.out] at hp2
    obtain ⟨v2, F2, rfl, hM2, hS2⟩ := hp2
    have HS2 := hid (HS1.out.callB hS2.below)
    have HQ := hid (And.intro (HM1.out.stepsOf HS2.out) (hM2.stepsOf hS2))
    clear hS2 hM2
    go_wp2_with fail
    refine (sameSteps_c _ _ _ xs HQ.out.1 HQ.out.2).mono ?_
    rintro e W3 ⟨rfl, m, rfl⟩
    go_wp2_with fail
    go_ret
    exact ⟨rfl, drewN_below HS2.out.below m⟩
end Go.Proofs.YtijlfggficjamaaDoor
