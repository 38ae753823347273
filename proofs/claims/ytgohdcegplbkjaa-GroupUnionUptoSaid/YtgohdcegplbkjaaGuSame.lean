/- The law's helper groups: two lists of groups that read alike. -/
import Derived.Test.YtgohdcegplbkjaaGuRef
namespace Go.Proofs.Ytgohdcegplbkjaa
set_option linter.unusedVariables false
set_option linter.unusedSimpArgs false
open Go Go.RowKit
open Go.Lib (hid)

/-- the slice v reads as these groups -/
def GroupsOf (w : World) (v : Value) (G : List (List Int)) : Prop :=
  ∃ ad cap, v = .slice ad G.length cap ∧ G.length ≤ cap ∧ cap ≤ maxLen ∧ ∀ k, k < G.length → ∃ b o rv, ad = some ⟨b, o, none⟩ ∧ w.cell? ⟨b, o + k, none⟩ = some rv ∧ RowOf w rv (ints (G.getD k []))
theorem GroupsOf.drewN {w : World} {v : Value} {G : List (List Int)} (h : GroupsOf w v G) (n : Nat) : GroupsOf (w.drewN n) v G := h
theorem groupsOf_rows {W0 W : World} {e t : TypeId} {v : Value} {T : List Row} {F0 M : Frag} (hR : Rw e 1 v T.length (vals T) F0) (hT : ∀ r ∈ T, r.ok t) (hS : St W0 W (F0 ++ (frags T ++ M))) : GroupsOf W v (lists T) := by
  obtain ⟨ad, cap, he, h1, h2, _⟩ := hR.form
  refine ⟨ad, cap, by rw [he]; simp [lists], by simpa [lists] using h1, h2, fun k hk => ?_⟩
  have hkT : k < T.length := by simpa [lists] using hk
  obtain ⟨A, B, hAB, hA⟩ := split_at (List.getElem?_eq_getElem hkT)
  obtain ⟨r, hr⟩ : ∃ r, r = T[k] := ⟨_, rfl⟩
  rw [← hr] at hAB
  obtain ⟨g, c, he', hc⟩ := hR.cells hS (by intro e0; have := congrArg List.length e0; simp [vals] at this; rw [this] at hkT; simp at hkT)
  rw [he] at he'
  injection he' with a b d
  subst a
  refine ⟨g, 0, r.v, rfl, ?_, ?_⟩
  · rw [Nat.zero_add]; exact hc k _ (by simp [vals, hr, hkT])
  · have hg : (lists T).getD k [] = r.g := by simp [lists, List.getD_eq_getElem?_getD, hkT, hr]
    rw [hg]
    have hS2 : St W0 W (frags T ++ M) := hS.appR
    rw [hAB, frags_app, frags_cons] at hS2
    have hS3 : St W0 W (r.F ++ (frags A ++ (frags B ++ M))) := hS2.perm (by
      have := List.perm_append_comm_assoc r.F (frags A) (frags B ++ M)
      simpa only [List.append_assoc] using this)
    exact Rw.rowOf (hT r (by rw [hr]; exact List.getElem_mem hkT)) hS3

set_option maxRecDepth 100000 in
set_option maxHeartbeats 4000000 in
theorem groups_c (w : World) (v1 v2 : Value) (G : List (List Int)) (h1 : GroupsOf w v1 G) (h2 : GroupsOf w v2 G) :
    Calls Try.prog 7 #[v1, v2] w fun e w' => e = .returned (.bool true) ∧ ∃ m, w' = w.drewN m := by
  obtain ⟨a1, c1, rfl, p1, q1, r1⟩ := h1
  obtain ⟨a2, c2, rfl, p2, q2, r2⟩ := h2
  unfold maxLen at q1 q2
  have HA := hid r1; have HB := hid r2
  clear r1 r2
  go_enter Try.func7, Try.ntmps7
  go_wp2_with fail
  go_loopw [5] (fun i wr => ∃ k m : Nat, k ≤ G.length ∧ i = .int .i64 k ∧ wr = w.drewN m) (fun i _ => G.length - (intOf i).toNat)
  case atStart => exact ⟨0, 0, Nat.zero_le _, rfl, rfl⟩
  case round =>
    obtain ⟨k, m, hk, rfl, rfl⟩ := hrel
    by_cases hlt : k < G.length
    · obtain ⟨b1, o1, rv1, rfl, x1, y1⟩ := HA.out k hlt
      obtain ⟨b2, o2, rv2, rfl, x2, y2⟩ := HB.out k hlt
      obtain ⟨g, hg⟩ : ∃ g, g = G.getD k [] := ⟨_, rfl⟩
      rw [← hg] at y1 y2
      obtain ⟨d1, e1, rfl, s1, t1, u1⟩ := y1.cells
      obtain ⟨d2, e2, rfl, s2, t2, u2⟩ := y2.cells
      unfold maxLen at t1 t2
      have U1 := hid u1; have U2 := hid u2
      clear u1 u2 y1 y2 hg
      go_wp2_with fail
      go_quiet (fail)
      go_wp2_with fail
      go_loopw [6] (fun i wr => ∃ j m : Nat, j ≤ g.length ∧ i = .int .i64 j ∧ wr = w.drewN m) (fun i _ => g.length - (intOf i).toNat)
      case atStart => exact ⟨0, _, Nat.zero_le _, rfl, World.drewN_drewN _ _ _⟩
      case round =>
        obtain ⟨j, m, hj, rfl, rfl⟩ := hrel
        by_cases hlj : j < g.length
        · obtain ⟨f1, z1, rfl, w1⟩ := U1.out j hlj
          obtain ⟨f2, z2, rfl, w2⟩ := U2.out j hlj
          obtain ⟨y, hy⟩ : ∃ y, y = g.getD j 0 := ⟨_, rfl⟩
          rw [← hy] at w1 w2
          clear hy
          go_wp2_with fail
          go_quiet (fail)
          go_wp2_with fail
          exact ⟨⟨j + 1, _, by omega, by go_num, rfl⟩, by simp [intOf]; omega⟩
        · go_wp2_with fail
          exact ⟨⟨k + 1, m, by omega, by go_num, rfl⟩, by simp [intOf]; omega⟩
    · go_wp2_with fail
      go_ret
      exact ⟨rfl, m, rfl⟩
end Go.Proofs.Ytgohdcegplbkjaa
