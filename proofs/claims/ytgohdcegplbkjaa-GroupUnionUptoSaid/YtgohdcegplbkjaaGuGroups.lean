/- The program's unions: Groups. -/
import Derived.Test.YtgohdcegplbkjaaGuSortF
import Derived.Deep.RegionLaw
namespace Go.Proofs.Ytgohdcegplbkjaa
set_option linter.unusedVariables false
set_option linter.unusedSimpArgs false
open Go Go.RowKit
open Go.Lib (hid)
attribute [local go_sem ↓] Go.wp_at_zero Go.wp_at_succ

theorem memK_hd {ids : List Int} {Rf : Nat → Nat} {k x : Nat} {g : List Int} (hg : g = memK ids Rf k x) (hx : Rf k = x) : memK ids Rf (k + 1) x = g ++ [idAt ids k] := by
  rw [memK_yes hx, hg]
theorem grow_lists {ids : List Int} {Rf : Nat → Nat} {n k x : Nat} {A B : List Row} {r r' : Row} (hx : Rf k = x) (hA : A.length = x) (h : lists (A ++ r :: B) = (List.range n).map (memK ids Rf k)) (hr : r'.g = r.g ++ [idAt ids k]) :
    r.g = memK ids Rf k x ∧ lists (A ++ r' :: B) = (List.range n).map (memK ids Rf (k + 1)) := by
  have h1 : ∀ q : Row, lists (A ++ q :: B) = lists A ++ q.g :: lists B := fun q => by simp [lists]
  rw [h1] at h
  have hl := congrArg List.length h
  simp [lists] at hl
  have hxn : x < n := by omega
  have hLA : (lists A).length = x := by simp [lists, hA]
  have hg : r.g = memK ids Rf k x := by
    have h2 := congrArg (fun l => l[x]?) h
    simp [← hLA] at h2
    rw [hLA] at h2
    simp [hxn] at h2
    exact h2
  refine ⟨hg, ?_⟩
  rw [h1, hr, ← (memK_hd hg hx)]
  apply List.ext_getElem?
  intro i
  have h2 := congrArg (fun l => l[i]?) h
  simp only [List.getElem?_append, List.getElem?_map, hLA] at h2 ⊢
  by_cases hi : i < x
  · rw [if_pos hi] at h2 ⊢
    rw [h2]
    have : Rf k ≠ i := by omega
    simp [List.getElem?_range (show i < n by omega), memK_no this]
  · rw [if_neg hi] at h2 ⊢
    by_cases he : i = x
    · subst he
      simp [hxn]
    · obtain ⟨d, hd⟩ : ∃ d, i - x = d + 1 := ⟨i - x - 1, by omega⟩
      rw [hd] at h2 ⊢
      simp only [List.getElem?_cons_succ] at h2 ⊢
      rw [h2]
      have : Rf k ≠ i := by omega
      by_cases hin : i < n
      · simp [List.getElem?_range hin, memK_no this]
      · simp [List.getElem?_eq_none (l := List.range n) (i := i) (by simp; omega)]

/-- the program's groups of the first j roots -/
def selL (ids : List Int) (Rf : Nat → Nat) (least : Int) (j : Nat) : List (List Int) := ((List.range j).map fun k => sortM (memR ids Rf k)).filter fun l => 0 < l.length ∧ least ≤ (l.length : Int)
theorem selL_yes {ids : List Int} {Rf : Nat → Nat} {least : Int} {j n : Nat} (hn : n = (memR ids Rf j).length) (h1 : 0 < n) (h2 : least ≤ (n : Int)) : selL ids Rf least (j + 1) = selL ids Rf least j ++ [sortM (memR ids Rf j)] := by
  have h3 : (sortM (memR ids Rf j)).length = n := by rw [hn]; exact (sortM_perm _).length_eq
  simp [selL, List.range_succ, List.filter_append, h3, h1, h2]
theorem selL_no {ids : List Int} {Rf : Nat → Nat} {least : Int} {j n : Nat} (hn : n = (memR ids Rf j).length) (h : ¬ (0 < n ∧ least ≤ (n : Int))) : selL ids Rf least (j + 1) = selL ids Rf least j := by
  have h3 : (sortM (memR ids Rf j)).length = n := by rw [hn]; exact (sortM_perm _).length_eq
  simp [selL, List.range_succ, List.filter_append, h3, -not_and]
  exact h

theorem selL_heads {ids : List Int} (hnd : ids.Nodup) (Rf : Nat → Nat) (least : Int) (n : Nat) : ((selL ids Rf least n).map fun l => l.headD 0).Nodup := by
  have hmem : ∀ k, 0 < (sortM (memR ids Rf k)).length → (sortM (memR ids Rf k)).headD 0 ∈ memR ids Rf k := by
    intro k h
    rw [← (sortM_perm _).mem_iff]
    cases hs : sortM (memR ids Rf k) with
    | nil => rw [hs] at h; cases h
    | cons a q => simp
  unfold selL
  show List.Pairwise (· ≠ ·) _
  rw [List.pairwise_map]
  have h1 : List.Pairwise (fun a b : List Int => 0 < a.length → 0 < b.length → a.headD 0 ≠ b.headD 0) ((List.range n).map fun k => sortM (memR ids Rf k)) := by
    rw [List.pairwise_map]
    refine (List.pairwise_lt_range (n := n)).imp ?_
    intro a b hab ha hb e
    have m1 := hmem a ha
    have m2 := hmem b hb
    rw [← e] at m2
    obtain ⟨i, hi, hri, hxi⟩ := memR_mem.1 m1
    obtain ⟨j, hj, hrj, hxj⟩ := memR_mem.1 m2
    have := idAt_inj hnd hi hj (hxi.trans hxj.symm)
    subst this
    omega
  refine (h1.filter _).imp_of_mem ?_
  intro a b ha hb h
  have h2 := (List.mem_filter.1 ha).2
  have h3 := (List.mem_filter.1 hb).2
  simp at h2 h3
  exact h h2.1 h3.1

def GroupsPost (W0 : World) (M : Frag) (u : Value) (ids S : List Int) (Rf h : Nat → Nat) (L : Int → Int) (least : Int) (e : Ending) (w' : World) : Prop :=
  ∃ v ov' F' T F0, e = .returned v ∧ UInv ids.length ov' Rf h ∧ ProgU u ids ov' F' ∧ Rw 50 1 v T.length (vals T) F0 ∧ (∀ r ∈ T, r.ok 3) ∧ lists T = refGroups S L least ∧ St W0 w' ((F0 ++ frags T) ++ (F' ++ M))

set_option maxRecDepth 100000 in
set_option maxHeartbeats 4000000 in
theorem groupsP_c (W0 w : World) (M F : Frag) (u : Value) (ids S : List Int) (ov : List Nat) (Rf h : Nat → Nat) (L : Int → Int) (hU : ProgU u ids ov F) (hV : UInv ids.length ov Rf h) (hS : St W0 w (F ++ M)) (least : Int) (hRel : Rel ids Rf L) (hnd : ids.Nodup) (hSr : S.Pairwise (· < ·)) (hSm : ∀ x, x ∈ S ↔ x ∈ ids) (hn : ids.length ≤ 10000000) :
    Calls Try.prog 8 #[u, .int .i64 least] w (GroupsPost W0 M u ids S Rf h L least) := by
  obtain ⟨bu, idv, ovv, bm, es, clock, Fi, Fo, rfl, rfl, hM, hRi, hRo⟩ := hU
  have hS00 := hS
  clear hS
  obtain ⟨i1, hi1, hy0, hy1, hy2⟩ := parts3 infoInt
  obtain ⟨i2, hi2, hx0, hx1, hx2⟩ := parts3 infoGroup
  obtain ⟨i3, hi3, hq0, hq1, hq2⟩ := parts3 info_ints
  obtain ⟨ai, ci, rfl, a1, a2, _⟩ := hRi.form
  unfold maxLen at a2
  obtain ⟨R, hR⟩ : ∃ R, R = Fi ++ ([(bu, Obj.cells #[.slice ai ids.length ci, .map (some bm), ovv] 44 (0, 0)), (bm, .map es clock)] ++ M) := ⟨_, rfl⟩
  have HR := hid hR
  have hS : St W0 w (Fo ++ R) := by rw [hR]; simpa only [List.append_assoc] using hS00
  clear hS00
  have HU : Hid (∀ W G, St W0 W (G ++ R) → W.cell? ⟨bu, 0, none⟩ = some (.slice ai ids.length ci) ∧ W.cell? ⟨bu, 2, none⟩ = some ovv ∧ RowOf W (.slice ai ids.length ci) (ints ids)) := hid (fun W G h => by
    rw [HR.out] at h
    have h1 := h.appR
    have h2 := h1.appR
    exact ⟨h2.rd (i := 0) (List.mem_append_left _ List.mem_cons_self) rfl, h2.rd (i := 2) (List.mem_append_left _ List.mem_cons_self) rfl, hRi.rowOf h1⟩)
  have HBack : Hid (∀ W ov' Fo' G, Rw 3 1 ovv ids.length (nats ov') Fo' → St W0 W (G ++ (Fo' ++ R)) → ∃ F', ProgU (.pointer (some ⟨bu, 0, none⟩)) ids ov' F' ∧ St W0 W (G ++ (F' ++ M))) := hid (fun W ov' Fo' G h1 h2 => by
    refine ⟨Fo' ++ (Fi ++ [(bu, Obj.cells #[.slice ai ids.length ci, .map (some bm), ovv] 44 (0, 0)), (bm, .map es clock)]), ⟨bu, _, ovv, bm, es, clock, Fi, Fo', rfl, rfl, hM, hRi, h1⟩, ?_⟩
    rw [HR.out] at h2
    simpa only [List.append_assoc] using h2)
  obtain ⟨u0, u2, _⟩ := HU.out _ _ hS
  have HV := hid hV; have HRo := hid hRo; have HS := hid hS
  clear hR hV hRo hS hM hRi
  go_enter Try.func8, Try.ntmps8
  obtain ⟨wm, hmk, om, gm⟩ := run_make_full (P := Try.prog) w w.heap.size 51 22 i3 (.slice none 0 0) 1 Try.underlying51 hi3 hq0 hq1 .i64 .i64 ids.length (by rw [hq2]; omega) (by unfold maxLen; omega) (Nat.le_refl _)
  obtain ⟨Fm, hRm, hSm0⟩ := St.ofOwn om ((Below.refl _ _).grown gm (Nat.le_refl _) (fun k hk => by cases hk))
  rw [Nat.mul_one, made_none, ← vals_none] at hRm
  have HSm := hid (HS.out.call hSm0)
  have HRm := hid hRm
  have HPm : Hid (wm.cell? ⟨bu, 0, none⟩ = some (.slice ai ids.length ci)) := hid ((HU.out _ _ (by rw [← List.append_assoc] at HSm; exact HSm.out)).1)
  clear om gm hRm hSm0
  have hnI : (ids.length : Int) ≤ 10000000 := by omega
  have um := HPm.out
  obtain ⟨mb, hmb⟩ : ∃ mb, mb = w.heap.size := ⟨_, rfl⟩
  go_wp2_with fail
  rw [← hmb] at HRm ⊢
  clear hmb
  clear um
  go_loopw [23] (fun i wr => ∃ (k : Nat) (ov' : List Nat) (Fo' Fm' : Frag) (T : List Row), i = .int .i64 k ∧ k ≤ ids.length ∧ UInv ids.length ov' Rf h ∧ Rw 3 1 ovv ids.length (nats ov') Fo' ∧ Rw 22 1 (.slice (some ⟨mb, 0, none⟩) ids.length ids.length) ids.length (vals T) Fm' ∧ (∀ r ∈ T, r.ok 3) ∧ lists T = (List.range ids.length).map (memK ids Rf k) ∧ St W0 wr ((Fm' ++ frags T) ++ (Fo' ++ R))) (fun i _ => ids.length - (intOf i).toNat)
  case atStart =>
    refine ⟨0, ov, Fo, Fm, List.replicate ids.length noRow, rfl, Nat.zero_le _, HV.out, HRo.out, HRm.out, fun r hr => by rw [List.eq_of_mem_replicate hr]; exact Rw.nil _ _, ?_, by rw [frags_none, List.append_nil]; exact HSm.out⟩
    apply List.ext_getElem
    · simp [lists]
    · intro i h1 h2
      simp [lists, noRow, memK]
  case round =>
    obtain ⟨k, ov', Fo', Fm', T, rfl, hk, hV, hRo, hRm, hT, hL, hS⟩ := hrel
    obtain ⟨wo, rfl⟩ : ∃ wo : World, wo = wr := ⟨_, rfl⟩
    have hS9 : St W0 wo (((Fm' ++ frags T) ++ Fo') ++ R) := by simpa only [List.append_assoc] using hS
    obtain ⟨u0, -, hrow⟩ := HU.out wo _ hS9
    clear hS9
    by_cases hlt : k < ids.length
    · obtain ⟨ad, cap, e1, -, -, hc⟩ := hrow.cells
      injection e1 with e1 e2 e3
      subst e1 e3
      obtain ⟨b, o, rfl, ck⟩ := hc k hlt
      clear e2 hc hrow
      obtain ⟨x, hx⟩ : ∃ x, x = ids.getD k 0 := ⟨_, rfl⟩
      rw [← hx] at ck
      have HX := hid hx
      obtain ⟨y, hy⟩ : ∃ y, y = Rf k := ⟨_, rfl⟩
      have HC : Hid (Calls Try.prog 16 #[.pointer (some ⟨bu, 0, none⟩), .int .i64 k] wo fun e w' => ∃ ov' Fo', e = .returned (.int .i64 y) ∧ UInv ids.length ov' Rf h ∧ Rw 3 1 ovv ids.length (nats ov') Fo' ∧ St W0 w' (Fo' ++ ((Fm' ++ frags T) ++ R))) := hid (by rw [hy]; exact root_c W0 wo ((Fm' ++ frags T) ++ R) Fo' bu ovv ids.length ov' Rf h hV hRo hS.rot (fun W G hh => (HU.out W (G ++ (Fm' ++ frags T)) (by simpa only [List.append_assoc] using hh)).2.1) k hlt (by omega))
      have hyn : y < ids.length := by rw [hy]; exact hV.rlt k hlt
      have HY := hid hy
      have hTl : T.length = ids.length := by have := congrArg List.length hL; simpa [lists] using this
      obtain ⟨A, B, hAB, hA⟩ := split_at (T := T) (k := y) (r := T[y]'(by omega)) (by simp)
      obtain ⟨⟨rg, rv, rF⟩, hr⟩ : ∃ r, r = T[y]'(by omega) := ⟨_, rfl⟩
      rw [← hr] at hAB
      clear hr
      subst hAB
      have hG := grow_lists (r' := ⟨rg ++ [x], rv, rF⟩) hy.symm hA hL (by rw [HX.out]; rfl)
      have hrl : rg.length ≤ k := by rw [show rg = memK ids Rf k y from hG.1]; exact memK_len _ _ _ _
      have hrok : Rw 3 1 rv rg.length (ints rg) rF := hT _ (List.mem_append_right _ List.mem_cons_self)
      obtain ⟨ar, cr, rfl, r1, r2, -⟩ := hrok.form
      unfold maxLen at r2
      obtain ⟨rn, hrn⟩ : ∃ rn, rn = rg.length := ⟨_, rfl⟩
      rw [← hrn] at hrl hrok r1 hG hRm hT hL hS HC
      have HRN := hid hrn
      have HV := hid hV; have HRo := hid hRo; have HRm := hid hRm; have HT := hid hT; have HG := hid hG.2; have HROK := hid hrok; have HA := hid hA
      clear hx hy hV hRo hRm hT hL hS hG hrok hA hrn hTl
      go_upto_region 6 with (go_at_call 16; refine HC.out.mono ?_; rintro e w1 ⟨ov1, Fo1, rfl, hV1, hR1, hS1⟩)
      have hvy : (vals (A ++ ⟨rg, .slice ar rn cr, rF⟩ :: B))[y]? = some (.slice ar rn cr) := by rw [← HA.out]; simp [vals]
      have HVY := hid hvy
      have HS1 : Hid (St W0 w1 (rF ++ (Fm' ++ (frags A ++ (frags B ++ (Fo1 ++ R)))))) := hid (by
        have h1 : St W0 w1 ((Fm' ++ frags (A ++ ⟨rg, .slice ar rn cr, rF⟩ :: B)) ++ (Fo1 ++ R)) := hS1.perm ((List.perm_append_comm_assoc _ _ _).trans (by simp only [List.append_assoc]; exact List.Perm.refl _))
        exact h1.perm (perm_row A B ⟨rg, .slice ar rn cr, rF⟩ Fm' (Fo1 ++ R)))
      obtain ⟨g0, c0, e0, ym, zm, -⟩ := HRm.out.put HS1.out.rot y hyn
      cases e0
      rw [hvy] at ym
      have hbm : mb < w1.heap.size := World.block_lt_of_cell? w1 _ ym
      have HV1 := hid hV1; have HR1 := hid hR1
      clear hS1 hvy hV1 hR1 u0 ck zm
      go_wp2_with (at_builtin; refine append_st (by rfl) _ _ 22 (by rfl) 3 i1 (.int .i64 0) 1 8 Try.underlying22 hi1 hy0 hy1 hy2 (by rfl) (by decide) (.slice ar rn cr) rn (ints rg) rF _ (by rfl) HROK.out HS1.out 1 w1.heap.size [.int .i64 x] (by rfl) (by rfl) (by rfl) (by intro u hu; simp at hu; subst hu; rfl) (by unfold maxLen; omega) (by omega) ?_)
      intro v' w2 F' hR' hS'
      rw [ints_snoc] at hR'
      obtain ⟨a', c', rfl, -⟩ := hR'.form
      obtain ⟨g1, c1, e1, hb1, hf1, hw1⟩ := HRm.out.put hS'.rot y hyn
      cases e1
      rw [HVY.out] at hb1
      obtain ⟨F3, hR3, hS3⟩ := hw1 0 (.slice a' (rn + 1) c')
      have HF : Hid (Rw 3 1 (.slice a' (rn + 1) c') (rn + 1) (ints (rg ++ [x])) F' ∧ Rw 22 1 (.slice (some ⟨mb, 0, none⟩) ids.length ids.length) ids.length (vals (A ++ ⟨rg ++ [x], .slice a' (rn + 1) c', F'⟩ :: B)) F3 ∧ St W0 ((w2.drewN 0).setCell ⟨mb, y, none⟩ (.slice a' (rn + 1) c')) ((F3 ++ frags (A ++ ⟨rg ++ [x], .slice a' (rn + 1) c', F'⟩ :: B)) ++ (Fo1 ++ R))) := hid ⟨hR', by
        have e : vals (A ++ ⟨rg ++ [x], .slice a' (rn + 1) c', F'⟩ :: B) = (vals (A ++ ⟨rg, .slice ar rn cr, rF⟩ :: B)).set y (.slice a' (rn + 1) c') := by rw [← HA.out]; simp [vals]
        rw [e]; exact hR3, (hS3.rot).perm (perm_row A B ⟨rg ++ [x], .slice a' (rn + 1) c', F'⟩ F3 (Fo1 ++ R)).symm⟩
      clear hR3 hS3 hw1 hR' hS' ym
      go_wp2_with fail
      refine ⟨⟨k + 1, ov1, Fo1, F3, A ++ ⟨rg ++ [x], .slice a' (rn + 1) c', F'⟩ :: B, by go_num, by omega, HV1.out, HR1.out, HF.out.2.1, ?_, by simpa [lists] using HG.out, HF.out.2.2⟩, by simp [intOf]; omega⟩
      intro r hr
      rcases List.mem_append.1 hr with hr | hr
      · exact HT.out r (List.mem_append_left _ hr)
      · rcases List.mem_cons.1 hr with rfl | hr
        · have e : (rg ++ [x]).length = rn + 1 := by rw [List.length_append, HRN.out]; rfl
          unfold Row.ok
          rw [e]
          exact HF.out.1
        · exact HT.out r (List.mem_append_right _ (List.mem_cons_of_mem _ hr))
    · have hkn : k = ids.length := by omega
      subst hkn
      have hTl : T.length = ids.length := by have := congrArg List.length hL; simpa [lists] using this
      have HV := hid hV; have HRo := hid hRo; have HRm := hid hRm; have HT := hid hT; have HL := hid hL; have HS := hid hS; have HTl := hid hTl
      clear hV hRo hRm hT hL hS hrow hTl
      go_wp2_with fail
      obtain ⟨Z, hZ⟩ : ∃ Z, Z = Fm' ++ (Fo' ++ R) := ⟨_, rfl⟩
      have HZ := hid hZ
      have HM : Hid (∀ W G j r, St W0 W (G ++ Z) → T[j]? = some r → W.cell? ⟨mb, j, none⟩ = some r.v) := hid (fun W G j r h1 h2 => by
        rw [HZ.out] at h1
        have hj : j < ids.length := by rw [← HTl.out]; exact (List.getElem?_eq_some_iff.1 h2).1
        obtain ⟨g, c, e, hc, -, -⟩ := HRm.out.put (M := Fo' ++ R) h1.appR j hj
        cases e
        rw [hc]
        simp [vals, h2])
      have HS2 : Hid (St W0 wo (([] ++ frags []) ++ (frags (T.drop 0) ++ Z))) := hid (by
        rw [hZ, List.drop_zero]
        exact HS.out.perm (by simp only [frags, List.flatMap_nil, List.nil_append, List.append_assoc]; exact List.perm_append_comm_assoc _ _ _))
      clear hZ
      go_loopw [9, 44] (fun gv i wr => ∃ (j : Nat) (D : List Row) (F0 : Frag) (v : Value), v = gv ∧ i = .int .i64 j ∧ j ≤ ids.length ∧ Rw 50 1 v D.length (vals D) F0 ∧ (∀ r ∈ D, r.ok 3) ∧ lists D = selL ids Rf least j ∧ D.length ≤ j ∧ St W0 wr ((F0 ++ frags D) ++ (frags (T.drop j) ++ Z))) (fun _ i _ => ids.length - (intOf i).toNat)
      case atStart => exact ⟨0, [], [], _, rfl, rfl, Nat.zero_le _, Rw.nil _ _, by simp, rfl, Nat.le_refl _, HS2.out⟩
      case round =>
        obtain ⟨j, D, F0, gv, rfl, rfl, hj, hR, hD, hG, hDj, hS⟩ := hrel
        by_cases hlt : j < ids.length
        · have hTj : j < T.length := by rw [HTl.out]; exact hlt
          obtain ⟨⟨rg, rv, rF⟩, hr⟩ : ∃ r, r = T[j] := ⟨_, rfl⟩
          have hget : T[j]? = some ⟨rg, rv, rF⟩ := by rw [hr]; simp
          have hdrop : T.drop j = ⟨rg, rv, rF⟩ :: T.drop (j + 1) := by rw [hr]; exact List.drop_eq_getElem_cons hTj
          have hrok : Rw 3 1 rv rg.length (ints rg) rF := HT.out _ (List.mem_of_getElem? hget)
          have hrg : rg = memR ids Rf j := by
            have := congrArg (fun l => l[j]?) HL.out
            simp [lists, hget, hlt] at this
            exact this
          have ym := HM.out wr _ j _ (by rw [← List.append_assoc] at hS; exact hS) hget
          obtain ⟨ar, cr, rfl, r1, r2, -⟩ := hrok.form
          unfold maxLen at r2
          simp only at ym
          have hrl : rg.length ≤ ids.length := by rw [hrg]; exact memK_len _ _ _ _
          obtain ⟨rn, hrn⟩ : ∃ rn, rn = rg.length := ⟨_, rfl⟩
          rw [← hrn] at hrl r1 ym
          have HRN := hid hrn
          have HRG := hid hrg
          have HROK := hid hrok
          rw [hdrop, frags_cons] at hS
          have HS1 : Hid (St W0 wr (rF ++ ((F0 ++ frags D) ++ (frags (T.drop (j + 1)) ++ Z)))) := hid (hS.perm (by simp only [List.append_assoc]; exact (List.perm_append_comm_assoc _ _ _).trans (List.Perm.append_left _ (List.perm_append_comm_assoc _ _ _))))
          have HR := hid hR; have HD := hid hD; have HG := hid hG
          clear hS hget hdrop hr hrg hrok hrn hR hD hG hTj
          by_cases hp : 0 < rn
          · by_cases hle : least ≤ (rn : Int)
            · have HG' : Hid (lists D ++ [sortM rg] = selL ids Rf least (j + 1)) := hid (by rw [selL_yes (by rw [HRN.out, HRG.out]) hp hle, HG.out, HRG.out])
              have hne : rg ≠ [] := by intro e; rw [e] at HRN; have := HRN.out; simp at this; omega
              have HC : Hid (Calls Try.prog 17 #[.slice ar rn cr] wr fun e w' => e = .returned (.tuple #[]) ∧ ∃ F', Rw 3 1 (.slice ar rn cr) rg.length (ints (sortM rg)) F' ∧ St W0 w' (F' ++ ((F0 ++ frags D) ++ (frags (T.drop (j + 1)) ++ Z)))) := hid (sort_c W0 wr _ rF _ rg (by rw [HRN.out]; exact HROK.out) HS1.out hne (by rw [← HRN.out]; omega))
              clear hne
              have hpi : (0 : Int) < (rn : Int) := by omega
              go_upto_region 14 with (go_at_call 17; refine HC.out.mono ?_; rintro e w1 ⟨rfl, F1, hR1, hS1⟩)
              have HR1 := hid hR1
              have HS3 : Hid (St W0 w1 (F0 ++ (F1 ++ (frags D ++ (frags (T.drop (j + 1)) ++ Z))))) := hid (hS1.perm (by simp only [List.append_assoc]; exact List.perm_append_comm_assoc _ _ _))
              clear hR1 hS1 ym
              go_wp2_with (at_builtin; refine append_st (by rfl) _ _ 33 (by rfl) 50 i2 (.agg #[.slice none 0 0]) 1 24 Try.underlying33 hi2 hx0 hx1 hx2 (by rfl) (by decide) gv D.length (vals D) F0 _ (by rfl) HR.out HS3.out 1 w1.heap.size [.slice ar rn cr] (by rfl) (by rfl) (by rfl) (by intro u hu; simp at hu; subst hu; rfl) (by unfold maxLen; omega) (by omega) ?_)
              intro v' w2 F' hR' hS'
              have HR' := hid hR'
              have HS4 : Hid (St W0 w2 ((F' ++ frags (D ++ [⟨sortM rg, .slice ar rn cr, F1⟩])) ++ (frags (T.drop (j + 1)) ++ Z))) := hid (hS'.perm (by
                rw [frags_app, frags_cons]
                simp only [frags, List.flatMap_nil, List.append_nil, List.append_assoc]
                exact List.Perm.append_left _ (List.perm_append_comm_assoc _ _ _)))
              clear hR' hS'
              go_wp2_with fail
              refine ⟨⟨j + 1, D ++ [⟨sortM rg, .slice ar rn cr, F1⟩], F', _, rfl, by go_num, by omega, by simpa [vals] using HR'.out, ?_, by rw [← HG'.out]; simp [lists], by simp; omega, HS4.out⟩, by simp [intOf]; omega⟩
              intro r hr
              rcases List.mem_append.1 hr with hr | hr
              · exact HD.out r hr
              · simp only [List.mem_singleton] at hr
                subst hr
                have e : (sortM rg).length = rg.length := (sortM_perm rg).length_eq
                unfold Row.ok
                rw [e]
                exact HR1.out
            · have HG' : Hid (lists D = selL ids Rf least (j + 1)) := hid (by rw [selL_no (by rw [HRN.out, HRG.out]) (fun h => hle h.2), HG.out])
              have hpi : (0 : Int) < (rn : Int) := by omega
              go_wp2_with fail
              exact ⟨⟨j + 1, D, F0, _, rfl, by go_num, by omega, HR.out, HD.out, HG'.out, by omega, HS1.out.appR⟩, by simp [intOf]; omega⟩
          · have HG' : Hid (lists D = selL ids Rf least (j + 1)) := hid (by rw [selL_no (by rw [HRN.out, HRG.out]) (fun h => hp h.1), HG.out])
            have hrn0 : rn = 0 := by omega
            clear hp
            subst hrn0
            go_wp2_with fail
            exact ⟨⟨j + 1, D, F0, _, rfl, by go_num, by omega, HR.out, HD.out, HG'.out, by omega, HS1.out.appR⟩, by simp [intOf]; omega⟩
        · have hjn : j = ids.length := by omega
          subst hjn
          have HR := hid hR; have HD := hid hD; have HG := hid hG; have HS := hid hS
          clear hS hR hD hG
          have hinj : (D.map hd).Nodup := by
            have h1 := selL_heads hnd Rf least ids.length
            rw [← HG.out] at h1
            unfold lists at h1
            rw [List.map_map] at h1
            exact h1
          have hne : ∀ r ∈ D, r.g ≠ [] := by
            intro r hr e
            have h1 : r.g ∈ lists D := List.mem_map.2 ⟨r, hr, rfl⟩
            rw [HG.out] at h1
            have h2 := (List.mem_filter.1 h1).2
            simp [e] at h2
          have hcall := sortF_c W0 wr (frags (T.drop ids.length) ++ Z) gv D F0 HR.out HD.out hne hinj HS.out (by omega)
          have HC := hid hcall
          clear hcall hinj hne
          go_wp2_with (go_at_call 18; refine HC.out.mono ?_; rintro e w1 ⟨rfl, D', F1, q1, q2, q3, q4⟩)
          have hD' : ∀ r ∈ D', r.ok 3 := fun r hr => HD.out r (q1.mem_iff.1 hr)
          have hL' : lists D' = refGroups S L least := by
            refine groups_eq hRel (fun i hi => ⟨HV.out.idem i hi, HV.out.rlt i hi⟩) hSr hSm (fun k => sortM (memR ids Rf k)) (fun k _ => sortM_rising (memK_nodup hnd Rf k)) (fun k x _ => (sortM_perm _).mem_iff) (lists D') ?_ ?_
            · have h1 : (lists D').Perm (lists D) := q1.map _
              rw [HG.out] at h1
              exact h1
            · show List.Pairwise _ (D'.map (·.g))
              rw [List.pairwise_map]
              exact q2
          have hst : St W0 w1 ((F1 ++ frags D') ++ (Fo' ++ R)) := by
            rw [HZ.out] at q4
            exact q4.sub (List.Sublist.append (List.Sublist.refl _) ((List.sublist_append_right _ _).trans (List.sublist_append_right _ _)))
          obtain ⟨F', h1, h2⟩ := HBack.out _ _ _ _ HRo.out hst
          have HF : Hid (GroupsPost W0 M (.pointer (some ⟨bu, 0, none⟩)) ids S Rf h L least (.returned gv) w1) := hid ⟨gv, ov', F', D', F1, rfl, HV.out, h1, q3, hD', hL', h2⟩
          clear h1 h2 hst hL' hD' q1 q2 q3 q4
          go_wp2_with fail
          go_ret
          exact HF.out
end Go.Proofs.Ytgohdcegplbkjaa
