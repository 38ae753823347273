/- The program's unions: Join. -/
import Derived.Test.YtgohdcegplbkjaaGuNew
import Derived.Deep.RegionHeld3
import Derived.Deep.DrawnRows
namespace Go.Proofs.Ytgohdcegplbkjaa
set_option linter.unusedVariables false
set_option linter.unusedSimpArgs false
open Go Go.RowKit
open Go.Lib (hid)
attribute [local go_sem ↓] Go.wp_at_zero Go.wp_at_succ

def JoinPost (W0 : World) (M : Frag) (u : Value) (ids : List Int) (Rf : Nat → Nat) (a b : Int) (e : Ending) (w' : World) : Prop :=
  ∃ ov' F' Rf' h', e = .returned (.int .i64 (if a ∈ ids ∧ b ∈ ids then 0 else 131)) ∧ UInv ids.length ov' Rf' h' ∧ ProgU u ids ov' F' ∧ St W0 w' (F' ++ M) ∧
    (a ∈ ids ∧ b ∈ ids → ∃ i k, i < ids.length ∧ k < ids.length ∧ idAt ids i = a ∧ idAt ids k = b ∧ Rf' = joinR Rf (Rf i) (Rf k)) ∧ (¬ (a ∈ ids ∧ b ∈ ids) → Rf' = Rf)

set_option maxRecDepth 100000 in
set_option maxHeartbeats 4000000 in
theorem join_c (W0 w : World) (M F : Frag) (u : Value) (ids : List Int) (ov : List Nat) (Rf h : Nat → Nat) (hU : ProgU u ids ov F) (hV : UInv ids.length ov Rf h) (hS : St W0 w (F ++ M)) (a b : Int) (ha : -9223372036854775808 ≤ a ∧ a ≤ 9223372036854775807) (hb : -9223372036854775808 ≤ b ∧ b ≤ 9223372036854775807) (hids : ∀ x ∈ ids, -9223372036854775808 ≤ x ∧ x ≤ 9223372036854775807) (hn : ids.length ≤ 10000000) :
    Calls Try.prog 10 #[u, .int .i64 a, .int .i64 b] w (JoinPost W0 M u ids Rf a b) := by
  obtain ⟨bu, idv, ovv, bm, es, clock, Fi, Fo, rfl, rfl, hM, hRi, hRo⟩ := hU
  obtain ⟨R, hR⟩ : ∃ R, R = Fi ++ ([(bu, Obj.cells #[idv, .map (some bm), ovv] 44 (0, 0)), (bm, .map es clock)] ++ M) := ⟨_, rfl⟩
  have HR := hid hR
  have hS : St W0 w (Fo ++ R) := by rw [hR]; simpa only [List.append_assoc] using hS
  have HU : Hid (∀ W G, St W0 W (G ++ R) → W.cell? ⟨bu, 1, none⟩ = some (.map (some bm)) ∧ W.cell? ⟨bu, 2, none⟩ = some ovv ∧ W.heap[bm]? = some (.map es clock)) := hid (fun W G h => by
    rw [HR.out] at h
    have h1 := h.appR.appR
    exact ⟨h1.rd (i := 1) (List.mem_append_left _ List.mem_cons_self) rfl, h1.rd (i := 2) (List.mem_append_left _ List.mem_cons_self) rfl, (h1.at' _ (List.mem_append_left _ (List.mem_cons_of_mem _ List.mem_cons_self))).2⟩)
  have HBack : Hid (∀ W ov' Fo', Rw 3 1 ovv ids.length (nats ov') Fo' → St W0 W (Fo' ++ R) → ∃ F', ProgU (.pointer (some ⟨bu, 0, none⟩)) ids ov' F' ∧ St W0 W (F' ++ M)) := hid (fun W ov' Fo' h1 h2 => by
    refine ⟨Fo' ++ (Fi ++ [(bu, Obj.cells #[idv, .map (some bm), ovv] 44 (0, 0)), (bm, .map es clock)]), ⟨bu, idv, ovv, bm, es, clock, Fi, Fo', rfl, rfl, hM, hRi, h1⟩, ?_⟩
    rw [HR.out] at h2
    simpa only [List.append_assoc] using h2)
  have HRoot := hid (fun (W : World) (ov : List Nat) (Fo : Frag) (hV : UInv ids.length ov Rf h) (hR : Rw 3 1 ovv ids.length (nats ov) Fo) (hS : St W0 W (Fo ++ R)) (i : Nat) (hi : i < ids.length) => root_c W0 W R Fo bu ovv ids.length ov Rf h hV hR hS (fun W G hh => (HU.out W G hh).2.1) i hi (by omega))
  obtain ⟨u1, u2, ub⟩ := HU.out _ _ hS
  have la := look_run ub hM hids ha
  have lb := look_run ub hM hids hb
  have HV := hid hV; have HRo := hid hRo; have HS := hid hS
  clear hR hV hRo hS hM hRi ub u2 hids
  go_enter Try.func10, Try.ntmps10
  rcases la with ⟨i, hi, hia, hra⟩ | ⟨hna, hra⟩
  · rcases lb with ⟨k, hk, hkb, hrb⟩ | ⟨hnb, hrb⟩
    · have hma : a ∈ ids := by rw [← hia]; exact idAt_mem hi
      have hmb : b ∈ ids := by rw [← hkb]; exact idAt_mem hk
      have HIA := hid hia; have HKB := hid hkb
      clear hia hkb
      have hri := HV.out.rlt i hi
      have hrk := HV.out.rlt k hk
      obtain ⟨g, c, e0, _, _, _⟩ := HRo.out.put HS.out i hi
      subst e0
      obtain ⟨x, hx⟩ : ∃ x, x = Rf i := ⟨_, rfl⟩
      obtain ⟨y, hy⟩ : ∃ y, y = Rf k := ⟨_, rfl⟩
      have HCi := hid (fun (W : World) (ov : List Nat) (Fo : Frag) hV hR hS => by have h := HRoot.out W ov Fo hV hR hS i hi; rw [← hx] at h; exact h)
      have HCk := hid (fun (W : World) (ov : List Nat) (Fo : Frag) hV hR hS => by have h := HRoot.out W ov Fo hV hR hS k hk; rw [← hy] at h; exact h)
      rw [← hx] at hri
      rw [← hy] at hrk
      have HX := hid hx; have HY := hid hy
      clear hx hy HRoot
      have u2 := (HU.out _ _ HS.out).2.1
      go_wp2_with fail
      go_region_held3 (fun w' => w'.cell? ⟨bu, 2, none⟩ = some (.slice (some ⟨g, 0, none⟩) ids.length c))
        (first | exact u2 | exact (HU.out _ _ hS3).2.1 | exact (HU.out _ _ hS2).2.1 | exact (HU.out _ _ hS1).2.1 | go_keep)
        (first | (go_at_call 16; refine (HCk.out _ _ _ hV1 hR1 hS1).mono ?_; rintro e w2 ⟨ov2, Fo2, rfl, hV2, hR2, hS2⟩; obtain ⟨g', c', e', hc, hf, hw⟩ := hR2.put hS2 x hri; cases e'; rw [nats_at _ _ (by rw [hV2.len]; exact hri)] at hc; obtain ⟨F3, hR3, hS3⟩ := hw 0 (.int .i64 (y : Int))) | (go_at_call 16; refine (HCi.out _ _ _ HV.out HRo.out HS.out.drew).mono ?_; rintro e w1 ⟨ov1, Fo1, rfl, hV1, hR1, hS1⟩))
      all_goals
        rw [nats_set] at hR3
        obtain ⟨h', hJ⟩ := hV2.join hri hrk (by rw [HX.out]; exact HV.out.idem i hi) (by rw [HY.out]; exact HV.out.idem k hk)
        obtain ⟨F', h1, h2⟩ := HBack.out _ _ _ hR3 hS3
        have HF := hid (And.intro hJ (And.intro h1 h2))
        clear hR3 hS3 hw hR2 hS2 hR1 hS1 hV1 hV2 hJ h1 h2 hc hf u2 u1 hra hrb
        go_wp2_with fail
        go_ret
        exact ⟨_, F', _, h', by rw [if_pos ⟨hma, hmb⟩]; rfl, HF.out.1, HF.out.2.1, HF.out.2.2, fun _ => ⟨i, k, hi, hk, HIA.out, HKB.out, by rw [HX.out, HY.out]⟩, fun hh => absurd ⟨hma, hmb⟩ hh⟩
    · go_wp2_with fail
      go_ret
      obtain ⟨F', h1, h2⟩ := HBack.out _ _ _ HRo.out HS.out
      exact ⟨ov, F', Rf, h, by rw [if_neg (fun h => hnb h.2)]; rfl, HV.out, h1, h2, fun h => absurd h.2 hnb, fun _ => rfl⟩
  · rcases lb with ⟨k, hk, hkb, hrb⟩ | ⟨hnb, hrb⟩
    · go_wp2_with fail
      go_ret
      obtain ⟨F', h1, h2⟩ := HBack.out _ _ _ HRo.out HS.out
      exact ⟨ov, F', Rf, h, by rw [if_neg (fun h => hna h.1)]; rfl, HV.out, h1, h2, fun h => absurd h.1 hna, fun _ => rfl⟩
    · go_wp2_with fail
      go_ret
      obtain ⟨F', h1, h2⟩ := HBack.out _ _ _ HRo.out HS.out
      exact ⟨ov, F', Rf, h, by rw [if_neg (fun h => hna h.1)]; rfl, HV.out, h1, h2, fun h => absurd h.1 hna, fun _ => rfl⟩
end Go.Proofs.Ytgohdcegplbkjaa
