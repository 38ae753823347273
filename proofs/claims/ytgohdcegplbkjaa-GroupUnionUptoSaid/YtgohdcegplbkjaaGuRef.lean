/- The document's unions: at, Join. -/
import Derived.Test.YtgohdcegplbkjaaGuKit
import Derived.Test.YtgohdcegplbkjaaGuPlain
import Derived.Deep.DeepCutAuto
import Derived.Deep.CutRange
import Derived.Deep.QuietTactic
import Derived.BigQuiet
import Derived.IntWalk
import Derived.Laws.Small
import Derived.BigFrame
namespace Go.Proofs.Ytgohdcegplbkjaa
set_option linter.unusedVariables false
set_option linter.unusedSimpArgs false
open Go Go.RowKit
open Go.Lib (hid)

theorem infoInt : (Try.prog.info? 3).map (fun i => (i.zero, i.size, i.bytes)) = some (some (.int .i64 0), 1, 8) := by kernel_rfl
/-- the document's union -/
def RefU (u : Value) (S : List Int) (L : Int → Int) (F : Frag) : Prop :=
  ∃ bu sv lv Fs Fl, u = .pointer (some ⟨bu, 0, none⟩) ∧ F = Fl ++ (Fs ++ [(bu, .cells #[sv, lv] 47 (0, 0))]) ∧ Rw 3 1 sv S.length (ints S) Fs ∧ Rw 3 1 lv S.length (ints (S.map L)) Fl
/-- what a row of numbers holds, cell by cell -/
theorem RowOf.cells {w : World} {v : Value} {l : List Int} (h : RowOf w v (ints l)) : ∃ ad cap, v = .slice ad l.length cap ∧ l.length ≤ cap ∧ cap ≤ maxLen ∧ ∀ k, k < l.length → ∃ b o, ad = some ⟨b, o, none⟩ ∧ w.cell? ⟨b, o + k, none⟩ = some (.int .i64 (l.getD k 0)) := by
  obtain ⟨ad, cap, rfl, h1, h2, h3⟩ := h
  rw [ints_len] at h1 ⊢
  refine ⟨ad, cap, rfl, h1, h2, fun k hk => ?_⟩
  obtain ⟨b, o, e, hc⟩ := h3 (by intro e; have := ints_len l; rw [e] at this; simp at this; omega)
  exact ⟨b, o, e, hc k _ (ints_get l k hk)⟩

set_option maxRecDepth 100000 in
set_option maxHeartbeats 1000000 in
theorem at_c (w : World) (bu : Nat) (sv : Value) (S : List Int) (x : Int) (hu : w.cell? ⟨bu, 0, none⟩ = some sv) (hs : RowOf w sv (ints S)) (hn : S.length ≤ 100000000) :
    Calls Try.prog 15 #[.pointer (some ⟨bu, 0, none⟩), .int .i64 x] w fun e w' => ((∃ i : Nat, i < S.length ∧ S.getD i 0 = x ∧ e = .returned (.int .i64 i)) ∨ (x ∉ S ∧ e = .returned (.int .i64 (-1)))) ∧ ∃ m, w' = w.drewN m := by
  obtain ⟨ad, cap, rfl, h1, h2, h3⟩ := hs.cells
  unfold maxLen at h2
  have HC := hid h3
  clear h3 hs
  go_enter Try.func15, Try.ntmps15
  go_wp2_with fail
  go_loopw [5] (fun i wr => ∃ k m : Nat, k ≤ S.length ∧ i = .int .i64 k ∧ (∀ j, j < k → S.getD j 0 ≠ x) ∧ wr = w.drewN m) (fun i _ => S.length - (intOf i).toNat)
  case atStart => exact ⟨0, 0, Nat.zero_le _, rfl, fun j hj => absurd hj (Nat.not_lt_zero j), rfl⟩
  case round =>
    obtain ⟨k, m, hk, rfl, hno, rfl⟩ := hrel
    have HNO := hid hno
    clear hno
    by_cases hlt : k < S.length
    · obtain ⟨b, o, rfl, hc⟩ := HC.out k hlt
      obtain ⟨y, hy⟩ : ∃ y, y = S.getD k 0 := ⟨_, rfl⟩
      rw [← hy] at hc
      have HY := hid hy
      clear hy
      by_cases he : y = x
      · subst he
        go_wp2_with fail
        go_ret
        exact ⟨.inl ⟨k, hlt, HY.out.symm, rfl⟩, _, rfl⟩
      · have hno : ∀ j, j < k + 1 → S.getD j 0 ≠ x := fun j hj => by
          by_cases e : j = k
          · subst e; rw [← HY.out]; exact he
          · exact HNO.out j (by omega)
        have HN2 := hid hno
        clear hno
        go_wp2_with fail
        exact ⟨⟨k + 1, m, by omega, by go_num, HN2.out, rfl⟩, by simp [intOf]; omega⟩
    · have hnm : x ∉ S := fun hm => by
        obtain ⟨i, hi, e⟩ := idAt_of_mem hm
        exact HNO.out i (by omega) e
      have HM := hid hnm
      clear hnm
      go_wp2_with fail
      go_ret
      exact ⟨.inr ⟨HM.out, rfl⟩, _, rfl⟩

theorem map_at (S : List Int) (L : Int → Int) (i : Nat) (h : i < S.length) : (S.map L).getD i 0 = L (S.getD i 0) := by
  simp [List.getD_eq_getElem?_getD, h]
theorem upd_skip {α : Type} (f : α → α) (j : Nat) (l : List α) (h : j < l.length) (he : f l[j] = l[j]) : upd f (j + 1) l = upd f j l := by
  rw [← upd_set f j l h, he]
  have hg := upd_get f j l h
  rw [List.getElem?_eq_getElem h] at hg
  obtain ⟨hl, e⟩ := List.getElem?_eq_some_iff.1 hg
  conv => lhs; rw [← e]
  exact List.set_getElem_self hl
theorem joinL_map (S : List Int) (L : Int → Int) (a b : Int) : (S.map L).map (fun z => if z = max (L a) (L b) then min (L a) (L b) else z) = S.map (joinL L a b) := by
  rw [List.map_map]; rfl

def RefJoinPost (W0 : World) (M : Frag) (u : Value) (S : List Int) (L : Int → Int) (a b : Int) (e : Ending) (w' : World) : Prop :=
  ∃ F' L', e = .returned (.int .i64 (if a ∈ S ∧ b ∈ S then 0 else 131)) ∧ L' = (if a ∈ S ∧ b ∈ S then joinL L a b else L) ∧ RefU u S L' F' ∧ St W0 w' (F' ++ M)

set_option maxRecDepth 100000 in
set_option maxHeartbeats 4000000 in
theorem refJoin_c (W0 w : World) (M F : Frag) (u : Value) (S : List Int) (L : Int → Int) (hU : RefU u S L F) (hS : St W0 w (F ++ M)) (a b : Int) (hn : S.length ≤ 100000000) :
    Calls Try.prog 11 #[u, .int .i64 a, .int .i64 b] w (RefJoinPost W0 M u S L a b) := by
  obtain ⟨bu, sv, lv, Fs, Fl, rfl, rfl, hRs, hRl⟩ := hU
  obtain ⟨R, hR⟩ : ∃ R, R = Fs ++ ([(bu, Obj.cells #[sv, lv] 47 (0, 0))] ++ M) := ⟨_, rfl⟩
  have HR := hid hR
  have hS : St W0 w (Fl ++ R) := by rw [hR]; simpa only [List.append_assoc] using hS
  have HU : Hid (∀ W G, St W0 W (G ++ R) → W.cell? ⟨bu, 0, none⟩ = some sv ∧ W.cell? ⟨bu, 1, none⟩ = some lv ∧ RowOf W sv (ints S)) := hid (fun W G h => by
    rw [HR.out] at h
    have h1 := h.appR
    have h2 := h1.appR
    exact ⟨h2.rd (i := 0) (List.mem_append_left _ List.mem_cons_self) rfl, h2.rd (i := 1) (List.mem_append_left _ List.mem_cons_self) rfl, hRs.rowOf h1⟩)
  have HBack : Hid (∀ W Fl' L', Rw 3 1 lv S.length (ints (S.map L')) Fl' → St W0 W (Fl' ++ R) → ∃ F', RefU (.pointer (some ⟨bu, 0, none⟩)) S L' F' ∧ St W0 W (F' ++ M)) := hid (fun W Fl' L' h1 h2 => by
    refine ⟨Fl' ++ (Fs ++ [(bu, Obj.cells #[sv, lv] 47 (0, 0))]), ⟨bu, sv, lv, Fs, Fl', rfl, rfl, hRs, h1⟩, ?_⟩
    rw [HR.out] at h2
    simpa only [List.append_assoc] using h2)
  have HA := hid (fun (W : World) (G : Frag) (h : St W0 W (G ++ R)) (x : Int) => at_c W bu sv S x (HU.out W G h).1 (HU.out W G h).2.2 hn)
  have HS := hid hS; have HRl := hid hRl
  clear hR hS hRs hRl
  go_enter Try.func11, Try.ntmps11
  go_wp2_with fail
  refine (HA.out w Fl HS.out a).mono ?_
  rintro e w1 ⟨hp, m1, hw1⟩
  have HS1 : Hid (St W0 w1 (Fl ++ R)) := hid (by rw [hw1]; exact HS.out.drewN m1)
  clear hw1
  rcases hp with ⟨i, hi, hia, rfl⟩ | ⟨hna, rfl⟩
  · have hma : a ∈ S := by rw [← hia]; exact idAt_mem hi
    go_wp2_with fail
    refine (HA.out _ Fl HS1.out b).mono ?_
    rintro e w2 ⟨hp, m2, hw2⟩
    have HS2 : Hid (St W0 w2 (Fl ++ R)) := hid (by rw [hw2]; exact HS1.out.drewN m2)
    clear hw2
    rcases hp with ⟨k, hk, hkb, rfl⟩ | ⟨hnb, rfl⟩
    · have hmb : b ∈ S := by rw [← hkb]; exact idAt_mem hk
      have ni : ¬ ((i : Int) < 0) := by omega
      have nk : ¬ ((k : Int) < 0) := by omega
      have hla := map_at S L i hi
      have hlb := map_at S L k hk
      rw [hia] at hla
      rw [hkb] at hlb
      obtain ⟨al, cl, hlv, l1, l2, l3⟩ := (HRl.out.rowOf HS2.out).cells
      simp only [List.length_map] at l1 l3 hlv
      subst hlv
      unfold maxLen at l2
      obtain ⟨bl, ol, rfl, ci⟩ := l3 i hi
      obtain ⟨bl', ol', e', ck⟩ := l3 k hk
      cases e'
      rw [hla] at ci
      rw [hlb] at ck
      obtain ⟨u0, u1, _⟩ := HU.out _ _ HS2.out
      obtain ⟨la, hla'⟩ : ∃ la, la = L a := ⟨_, rfl⟩
      obtain ⟨lb, hlb'⟩ : ∃ lb, lb = L b := ⟨_, rfl⟩
      rw [← hla'] at ci
      rw [← hlb'] at ck
      have HLA := hid hla'; have HLB := hid hlb'
      obtain ⟨mn, hmn⟩ : ∃ mn : Int, (if lb < la then lb else la) = mn := ⟨_, rfl⟩
      obtain ⟨mx, hmx⟩ : ∃ mx : Int, (if la < lb then lb else la) = mx := ⟨_, rfl⟩
      have HMN : Hid (mn = min la lb ∧ mx = max la lb) := hid ⟨by rw [← hmn]; split <;> omega, by rw [← hmx]; split <;> omega⟩
      clear hla hlb hla' hlb' l3 HA
      go_wp2_with fail
      go_quiet (fail)
      go_wp2_with fail
      go_quiet (fail)
      go_wp2_with fail
      clear hmn hmx ci ck
      obtain ⟨f, hf⟩ : ∃ f : Int → Int, f = fun z => if z = mx then mn else z := ⟨_, rfl⟩
      have HF := hid hf
      clear hf
      go_loopw [11] (fun jv wr => ∃ (j : Nat) (G : Frag), j ≤ S.length ∧ jv = .int .i64 j ∧ Rw 3 1 (.slice (some ⟨bl, ol, none⟩) S.length cl) S.length (ints (upd f j (S.map L))) G ∧ St W0 wr (G ++ R)) (fun jv _ => S.length - (intOf jv).toNat)
      case atStart => exact ⟨0, Fl, Nat.zero_le _, rfl, by rw [upd_zero]; exact HRl.out, (HS2.out.drewN _).drewN _⟩
      case round =>
        obtain ⟨j, G, hj, rfl, hRj, hSj⟩ := hrel
        obtain ⟨u0, u1, _⟩ := HU.out _ _ hSj
        by_cases hlj : j < S.length
        · have hlj' : j < (S.map L).length := by rw [List.length_map]; exact hlj
          obtain ⟨g, c, e, hc, hfz, hw⟩ := hRj.put hSj j hlj
          cases e
          obtain ⟨z, hz⟩ : ∃ z, z = (S.map L)[j] := ⟨_, rfl⟩
          have hc' : wr.cell? ⟨bl, j, none⟩ = some (.int .i64 z) := by
            rw [hc, ints, List.getElem?_map, upd_get _ _ _ hlj', List.getElem?_eq_getElem hlj', hz]; rfl
          by_cases he : z = mx
          · have hfz2 : f (S.map L)[j] = mn := by rw [← hz, HF.out]; exact if_pos he
            obtain ⟨F', hw1, hw2⟩ := hw 0 (.int .i64 mn)
            rw [ints_set, ← hfz2, upd_set _ _ _ hlj'] at hw1
            rw [he] at hc'
            have HW := hid (And.intro hw1 hw2)
            clear hw hw1 hw2 hRj hSj hc hz hfz2 he
            go_wp2_with fail
            exact ⟨⟨j + 1, F', by omega, by go_num, HW.out.1, HW.out.2⟩, by simp [intOf]; omega⟩
          · have hfz2 : f (S.map L)[j] = (S.map L)[j] := by rw [← hz, HF.out]; exact if_neg he
            rw [← upd_skip f j _ hlj' hfz2] at hRj
            have HW := hid (And.intro hRj hSj)
            clear hw hRj hSj hc hz hfz2
            go_wp2_with fail
            exact ⟨⟨j + 1, G, by omega, by go_num, HW.out.1, HW.out.2⟩, by simp [intOf]; omega⟩
        · have hjn : j = (S.map L).length := by rw [List.length_map]; omega
          subst hjn
          rw [upd_full, HF.out, HMN.out.1, HMN.out.2, HLA.out, HLB.out, joinL_map] at hRj
          have HB := hid (HBack.out _ G _ hRj hSj)
          clear hRj hSj
          rw [List.length_map]
          go_wp2_with fail
          go_ret
          obtain ⟨F', h1, h2⟩ := HB.out
          exact ⟨F', _, by rw [if_pos ⟨hma, hmb⟩]; rfl, by rw [if_pos ⟨hma, hmb⟩], h1, h2⟩
    · have ni : ¬ ((i : Int) < 0) := by omega
      have HB := hid (HBack.out _ Fl L HRl.out HS2.out)
      go_wp2_with fail
      go_ret
      obtain ⟨F', h1, h2⟩ := HB.out
      exact ⟨F', L, by rw [if_neg (fun h => hnb h.2)]; rfl, by rw [if_neg (fun h => hnb h.2)], h1, h2⟩
  · go_wp2_with fail
    refine (HA.out _ Fl HS1.out b).mono ?_
    rintro e w2 ⟨hp, m2, hw2⟩
    have HS2 : Hid (St W0 w2 (Fl ++ R)) := hid (by rw [hw2]; exact HS1.out.drewN m2)
    clear hw2
    have HB := hid (HBack.out _ Fl L HRl.out HS2.out)
    rcases hp with ⟨k, hk, hkb, rfl⟩ | ⟨hnb, rfl⟩
    · go_wp2_with fail
      go_ret
      obtain ⟨F', h1, h2⟩ := HB.out
      exact ⟨F', L, by rw [if_neg (fun h => hna h.1)]; rfl, by rw [if_neg (fun h => hna h.1)], h1, h2⟩
    · go_wp2_with fail
      go_ret
      obtain ⟨F', h1, h2⟩ := HB.out
      exact ⟨F', L, by rw [if_neg (fun h => hna h.1)]; rfl, by rw [if_neg (fun h => hna h.1)], h1, h2⟩
end Go.Proofs.Ytgohdcegplbkjaa
