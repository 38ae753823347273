/- The law GroupUnion. -/
import Derived.Test.YtgohdcegplbkjaaGuParted
import Derived.Deep.RegionHeld3
import Derived.Deep.DrawnRows
namespace Go.Proofs.Ytgohdcegplbkjaa
set_option linter.unusedVariables false
set_option linter.unusedSimpArgs false
open Go Go.RowKit
open Go.Lib (hid)
attribute [local go_sem ↓] Go.wp_at_zero Go.wp_at_succ

theorem num_c (w : World) (x : Int) : Calls Try.prog 6 #[.int .i64 x] w fun e w' => e = .returned (.int .i64 x) ∧ w' = w := by
  go_enter Try.func6, Try.ntmps6
  go_wp2_with fail
  go_ret
  exact ⟨rfl, rfl⟩

/-- no refusal: the ids are in bounds, none twice -/
theorem newM_none {l : List Int} : ∀ {seen : List Int}, newM seen l = none → (∀ x ∈ l, 0 ≤ x ∧ x ≤ 281474976710656) ∧ (∀ x ∈ l, x ∉ seen) ∧ l.Nodup := by
  induction l with
  | nil => intro seen _; simp
  | cons x r ih =>
    intro seen h
    unfold newM at h
    split at h
    · cases h
    · rename_i hb
      split at h
      · cases h
      · rename_i hs
        obtain ⟨h1, h2, h3⟩ := ih h
        refine ⟨?_, ?_, ?_⟩
        · intro y hy
          rcases List.mem_cons.1 hy with rfl | hy
          · omega
          · exact h1 y hy
        · intro y hy
          rcases List.mem_cons.1 hy with rfl | hy
          · exact hs
          · exact fun hm => h2 y hy (List.mem_append_left _ hm)
        · refine List.nodup_cons.2 ⟨fun hm => h2 x hm (by simp), h3⟩

/-- a step of the law -/
structure JStep where
  a : Int
  b : Int
  told : Bool
  least : Int
def JStep.cells (s : JStep) : List Value := [.int .i64 s.a, .int .i64 s.b, .bool s.told, .int .i64 s.least]
def inI (x : Int) : Prop := -9223372036854775808 ≤ x ∧ x ≤ 9223372036854775807
def JStep.ok (s : JStep) : Prop := inI s.a ∧ inI s.b ∧ inI s.least
def flatJ (xs : List JStep) : List Value := xs.flatMap (·.cells)
theorem flatJ_len (xs : List JStep) : (flatJ xs).length = xs.length * 4 := by
  induction xs with
  | nil => rfl
  | cons x r ih => simp only [flatJ, List.flatMap_cons, List.length_append, List.length_cons] at ih ⊢; rw [ih]; simp [JStep.cells]; omega
theorem flatJ_app (xs ys : List JStep) : flatJ (xs ++ ys) = flatJ xs ++ flatJ ys := by simp [flatJ]
theorem flatJ_at {xs : List JStep} {k : Nat} {s : JStep} (h : xs[k]? = some s) : (flatJ xs)[k * 4]? = some (.int .i64 s.a) ∧ (flatJ xs)[k * 4 + 1]? = some (.int .i64 s.b) ∧ (flatJ xs)[k * 4 + 2]? = some (.bool s.told) ∧ (flatJ xs)[k * 4 + 3]? = some (.int .i64 s.least) := by
  obtain ⟨A, B, rfl, hA⟩ := split_at h
  rw [flatJ_app, show flatJ (s :: B) = s.cells ++ flatJ B from by simp [flatJ]]
  have hl := flatJ_len A
  rw [hA] at hl
  refine ⟨?_, ?_, ?_, ?_⟩ <;> (rw [List.getElem?_append_right (by omega), hl]; simp [JStep.cells])
theorem flatJ_one {xs : List JStep} : ∀ u ∈ flatJ xs, u.oneCell' = true := by
  intro u hu
  obtain ⟨s, _, hs⟩ := List.mem_flatMap.1 hu
  simp [JStep.cells] at hs
  rcases hs with rfl | rfl | rfl | rfl <;> rfl
/-- a slice of steps -/
def StepsJ (w : World) (v : Value) (xs : List JStep) : Prop :=
  ∃ ad cap, v = .slice ad xs.length cap ∧ xs.length ≤ cap ∧ cap ≤ maxLen ∧ (ad = none → cap = 0) ∧ (xs ≠ [] → ∃ b o, ad = some ⟨b, o, none⟩ ∧ ∀ (i : Nat) u, (flatJ xs)[i]? = some u → w.cell? ⟨b, o + i, none⟩ = some u)
theorem StepsJ.below {w w' : World} {v : Value} {xs : List JStep} {B : Nat} (h : StepsJ w v xs) (hb : Below B w w') (hB : w.heap.size ≤ B) : StepsJ w' v xs := by
  obtain ⟨ad, cap, rfl, h1, h2, h3, h4⟩ := h
  refine ⟨ad, cap, rfl, h1, h2, h3, fun hne => ?_⟩
  obtain ⟨b, o, rfl, hc⟩ := h4 hne
  exact ⟨b, o, rfl, fun i u hu => by rw [hb.cell (p := ⟨b, o + i, none⟩) (Nat.lt_of_lt_of_le (World.block_lt_of_cell? w _ (hc i u hu)) hB)]; exact hc i u hu⟩

theorem infoStep : (Try.prog.info? 36).map (fun i => (i.zero, i.size, i.bytes)) = some (some (.agg #[.int .i64 0, .int .i64 0, .bool false, .int .i64 0]), 4, 32) := by kernel_rfl

theorem npost_some {ids : List Int} {w w' : World} {e : Ending} {c : Int} (h : newM [] ids = some c) (hp : NewPost ids w e w') : e = .returned (.tuple #[.pointer none, .int .i64 c]) ∧ St w w' [] := by
  unfold NewPost at hp; rw [h] at hp; exact hp
theorem npost_none {ids : List Int} {w w' : World} {e : Ending} (h : newM [] ids = none) (hp : NewPost ids w e w') : ∃ bu F, e = .returned (.tuple #[.pointer (some ⟨bu, 0, none⟩), .int .i64 0]) ∧ ProgU (.pointer (some ⟨bu, 0, none⟩)) ids (List.range ids.length) F ∧ St w w' F := by
  unfold NewPost at hp; rw [h] at hp
  obtain ⟨u, F, h1, h2, h3⟩ := hp
  have h4 := h2
  obtain ⟨bu, _, _, _, _, _, _, _, rfl, _⟩ := h4
  exact ⟨bu, F, h1, h2, h3⟩
theorem rpost_some {ids : List Int} {w w' : World} {e : Ending} {c : Int} (h : newM [] ids = some c) (hp : RefNewPost ids w e w') : e = .returned (.tuple #[.pointer none, .int .i64 c]) ∧ St w w' [] := by
  unfold RefNewPost at hp; rw [h] at hp; exact hp
theorem rpost_none {ids : List Int} {w w' : World} {e : Ending} (h : newM [] ids = none) (hp : RefNewPost ids w e w') : ∃ br F S, e = .returned (.tuple #[.pointer (some ⟨br, 0, none⟩), .int .i64 0]) ∧ RefU (.pointer (some ⟨br, 0, none⟩)) S id F ∧ St w w' F ∧ S.Pairwise (· < ·) ∧ (∀ x, x ∈ S ↔ x ∈ ids) ∧ S.length = ids.length := by
  unfold RefNewPost at hp; rw [h] at hp
  obtain ⟨u, F, S, h1, h2, h3, h4, h5, h6⟩ := hp
  have h7 := h2
  obtain ⟨br, _, _, _, _, rfl, _⟩ := h7
  exact ⟨br, F, S, h1, h2, h3, h4, h5, h6⟩

theorem npost_any {ids : List Int} {w w' : World} {e : Ending} (hp : NewPost ids w e w') : ∃ yv kv F, e = .returned (.tuple #[yv, .int .i64 kv]) ∧ St w w' F ∧ (∀ c, newM [] ids = some c → yv = .pointer none ∧ kv = c) ∧ (newM [] ids = none → ∃ bu, yv = .pointer (some ⟨bu, 0, none⟩) ∧ kv = 0 ∧ ProgU yv ids (List.range ids.length) F) := by
  rcases hq : newM [] ids with _ | c
  · obtain ⟨bu, F, h1, h2, h3⟩ := npost_none hq hp
    exact ⟨_, _, F, h1, h3, by simp, fun _ => ⟨bu, rfl, rfl, h2⟩⟩
  · obtain ⟨h1, h2⟩ := npost_some hq hp
    exact ⟨_, _, [], h1, h2, by simp, by simp⟩
theorem rpost_any {ids : List Int} {w w' : World} {e : Ending} (hp : RefNewPost ids w e w') : ∃ yv kv F, e = .returned (.tuple #[yv, .int .i64 kv]) ∧ St w w' F ∧ (∀ c, newM [] ids = some c → yv = .pointer none ∧ kv = c) ∧ (newM [] ids = none → ∃ br S, yv = .pointer (some ⟨br, 0, none⟩) ∧ kv = 0 ∧ RefU yv S id F ∧ S.Pairwise (· < ·) ∧ (∀ x, x ∈ S ↔ x ∈ ids) ∧ S.length = ids.length) := by
  rcases hq : newM [] ids with _ | c
  · obtain ⟨br, F, S, h1, h2, h3, h4, h5, h6⟩ := rpost_none hq hp
    exact ⟨_, _, F, h1, h3, by simp, fun _ => ⟨br, S, rfl, rfl, h2, h4, h5, h6⟩⟩
  · obtain ⟨h1, h2⟩ := rpost_some hq hp
    exact ⟨_, _, [], h1, h2, by simp, by simp⟩
/-- append(own, row...), of elements of whatever size -/
theorem append_lies_st {P : Program} {W0 W : World} {ops : Array Oper} {rest : List Oper} {o : Oper} {a : Act} {Q : Exit → Act → World → Prop} (hgd : o.guard = none) (s x : Operand) (t : TypeId)
    (ho : o.op = .call { callee := .builtin .append, args := #[s, x], argTypes := #[t, t] })
    (e : TypeId) (i : TypeInfo) (z : Value) (size bytes : Nat) (ht : P.underlying t = some (.slice e)) (hi : P.info? e = some i) (hz : i.zero = some z)
    (hsize : i.size = size) (hby : i.bytes = bytes) (hzs : z.cells.size = size) (hsz : 0 < size)
    (v : Value) (n : Nat) (xs : List Value) (F M : Frag) (hs : a.eval s = v) (hR : Rw e size v n xs F) (hS : St W0 W (F ++ M))
    (ad : Option Addr) (m cap : Nat) (news : List Value) (hx : a.eval x = .slice ad m cap) (hl : news.length = m * size) (hnone : ad = none → m = 0 ∧ cap = 0)
    (hcell : ∀ p, ad = some p → ∀ (j : Nat) u, news[j]? = some u → W.cell? (p.add j) = some u) (h1 : ∀ u ∈ news, u.oneCell' = true)
    (h63 : n + m ≤ maxLen) (hbytes : (n + m) * bytes ≤ 140737488355328)
    (h : ∀ v' W' F', Rw e size v' (n + m) (xs ++ news) F' → St W0 W' (F' ++ M) → wpList P ops Q rest (a.put o.dst v') W') :
    wpList P ops Q (o :: rest) a W := by
  cases ad with
  | none =>
    obtain ⟨rfl, rfl⟩ := hnone rfl
    have hv : news = [] := List.length_eq_zero_iff.1 (by omega)
    subst hv
    exact wpList_append_own_none hgd s x t ho W0.heap.size e i size ht hi v n xs hs (hR.owns hS) hx (h v W F (by simpa using hR) hS)
  | some p =>
    refine wpList_append_own_at W hgd s x t ho W0.heap.size e i z size bytes ht hi hz hsize hby hzs hsz v n xs hs (hR.owns hS) p m cap news hx hl (hcell p rfl) h1 h63 hbytes hS.sz ?_
    intro v' w' h2 h3 h4 h5
    obtain ⟨F', hR', hS'⟩ := St.appended hR hS h2 h3 (fun e => (h4.1 e).1) h5
    exact h v' w' F' hR' hS'
/-- the document's groups of a union that stands in the state -/
theorem refGroupsU_c (W0 w : World) (M F : Frag) (br : Nat) (S : List Int) (L : Int → Int) (hU : RefU (.pointer (some ⟨br, 0, none⟩)) S L F) (hS : St W0 w (F ++ M)) (least : Int) (hn : S.length ≤ 100000000) :
    Calls Try.prog 9 #[.pointer (some ⟨br, 0, none⟩), .int .i64 least] w fun e w' => ∃ v T F0, e = .returned v ∧ Rw 50 1 v T.length (vals T) F0 ∧ (∀ r ∈ T, r.ok 3) ∧ lists T = refGroups S L least ∧ St w w' (F0 ++ frags T) := by
  obtain ⟨bu, sv, lv, Fs, Fl, e, rfl, h1, h2⟩ := hU
  cases e
  have hS1 : St W0 w (Fl ++ (Fs ++ ([(br, .cells #[sv, lv] 47 (0, 0))] ++ M))) := by simpa only [List.append_assoc] using hS
  exact refGroups_c w br sv lv S L least (hS1.appR.appR.appL.cellH 0) (hS1.appR.appR.appL.cellH 1) (h1.rowOf hS1.appR) (h2.rowOf hS1) hn

/-- F B's: A, C, F -/
theorem ahead3 (F B C A N : Frag) : (F ++ (B ++ (A ++ (C ++ N)))).Perm (B ++ (C ++ (A ++ (F ++ N)))) := by
  refine (List.perm_append_comm_assoc F B _).trans (List.Perm.append_left B ?_)
  have h1 : (F ++ (A ++ (C ++ N))).Perm (A ++ (F ++ (C ++ N))) := List.perm_append_comm_assoc _ _ _
  have h2 : (F ++ (C ++ N)).Perm (C ++ (F ++ N)) := List.perm_append_comm_assoc _ _ _
  exact (h1.trans (h2.append_left A)).trans (List.perm_append_comm_assoc _ _ _)

set_option maxRecDepth 100000 in
set_option maxHeartbeats 4000000 in
theorem unionLaw_c (w : World) (iv sv : Value) (ids : List Int) (xs : List JStep) (hi : RowOf w iv (ints ids)) (hin : VNil iv) (hids : ∀ x ∈ ids, inI x) (hs : StepsJ w sv xs) (hok : ∀ s ∈ xs, s.ok) (hn : ids.length ≤ 2000000) (hx : xs.length ≤ 2000000) :
    Calls Try.prog 3 #[iv, sv] w fun e w' => e = .returned (.bool true) ∧ Below w.heap.size w w' := by
  obtain ⟨i1, hi1, hy0, hy1, hy2⟩ := parts3 infoInt
  obtain ⟨i4, hi4, hx0, hx1, hx2⟩ := parts3 infoStep
  obtain ⟨ai, ci, rfl, a1, a2, a3⟩ := hi.cells
  unfold maxLen at a2
  have HI := hid hi; have HIN := hid hin; have HIDS := hid hids; have HSJ := hid hs; have HOK := hid hok; have HIC := hid a3
  clear hi hin hids hs hok a3
  have hone : ∀ u ∈ ints ids, u.oneCell' = true := by intro u hu; obtain ⟨x, _, rfl⟩ := List.mem_map.1 hu; rfl
  have HONE := hid hone
  clear hone
  go_enter Try.func3, Try.ntmps3
  go_wp2_with (at_builtin; refine append_rows_st (by rfl) _ _ 22 (by rfl) 3 i1 (.int .i64 0) 8 Try.underlying22 hi1 hy0 hy1 hy2 (by rfl) (.slice none 0 0) 0 [] [] [] (by rfl) (Rw.nil _ _) (St.refl w) (.slice ai ids.length ci) (ints ids) (by rfl) HI.out HIN.out HONE.out (by rw [ints_len]; unfold maxLen; omega) (by rw [ints_len]; omega) ?_)
  intro v1 w1 F1 hR1 hS1
  rw [ints_len] at hR1
  have HR1 := hid hR1
  have HS1 : Hid (St w w1 (F1 ++ [])) := hid (by rw [List.append_nil]; exact hS1)
  obtain ⟨ad1, c1, rfl, -⟩ := hR1.form
  clear hR1 hS1
  go_wp2_with (at_builtin; refine append_st (by rfl) _ _ 22 (by rfl) 3 i1 (.int .i64 0) 1 8 Try.underlying22 hi1 hy0 hy1 hy2 (by rfl) (by decide) (.slice ad1 ids.length c1) ids.length (ints ids) F1 [] (by rfl) HR1.out HS1.out 1 w1.heap.size [.int .i64 (-7)] (by rfl) (by rfl) (by rfl) (by intro u hu; simp at hu; subst hu; rfl) (by unfold maxLen; omega) (by omega) ?_)
  intro v2 w2 F2 hR2 hS2
  rw [ints_snoc] at hR2
  obtain ⟨ad2, c2, rfl, f1, f2, -⟩ := hR2.form
  unfold maxLen at f2
  obtain ⟨g2, rfl⟩ : ∃ g, ad2 = some ⟨g, 0, none⟩ := by
    obtain ⟨g, c, e, _⟩ := hR2.cells (by rw [List.append_nil]; exact hS2 : St w w2 (F2 ++ [])) (by simp [ints])
    cases e
    exact ⟨g, rfl⟩
  -- the part of it that is handed in
  have HPart : Hid (∀ W M l x, l.length = ids.length → Rw 3 1 (.slice (some ⟨g2, 0, none⟩) (ids.length + 1) c2) (ids.length + 1) (ints (l ++ [x])) M → ∀ R, St w W (M ++ R) → RowOf W (.slice (some ⟨g2, 0, none⟩) ids.length c2) (ints l)) := hid (fun W M l x hl hR R hS => by
    obtain ⟨ad', e1, e2, e3⟩ := row_lo (k := ids.length) Try.underlying22 hi1 (hR.rowOf hS) hR.vnil (Nat.le_succ _)
    have h := hR.rowOf hS
    obtain ⟨ad, cap, e, h1, h2, h3⟩ := h
    injection e with e1 e2 e3
    subst e1 e3
    refine ⟨_, _, by rw [ints_len, hl], by rw [ints_len, hl]; omega, h2, fun hne => ?_⟩
    obtain ⟨b, o, e0, hc⟩ := h3 (by simp [ints])
    refine ⟨b, o, e0, fun i u hu => hc i u ?_⟩
    have hi := (List.getElem?_eq_some_iff.1 hu).1
    rw [show ints (l ++ [x]) = ints l ++ ints [x] from by simp [ints], List.getElem?_append_left hi]
    exact hu)
  have hcut : ∀ W, (Instr.slice 22 (.slice (some ⟨g2, 0, none⟩) (ids.length + 1) c2) none (some (.int .i64 (ids.length : Int))) none).run Try.prog W = .ok (.slice (some ⟨g2, 0, none⟩) ids.length c2) W := fun W => by
    have hle : (ids.length : Int) ≤ (c2 : Int) := by omega
    have hc0 : ¬ c2 = 0 := by omega
    simp [Instr.slice, Instr.sliceBounds, run_underlying Try.underlying22, go_sem, hle, sizeOf, typeInfo, hi1, hc0, Addr.add]
  have hNew := new_c w2 (.slice (some ⟨g2, 0, none⟩) ids.length c2) ids (HPart.out w2 F2 ids (-7) rfl hR2 [] (by simpa using hS2)) (by omega) HIDS.out
  have HN := hid hNew
  have HR2 := hid hR2
  have HS2 : Hid (St w w2 F2) := hid (by simpa using hS2)
  clear hR2 hS2 hNew HR1 HS1
  have HREF : Hid (∀ W F, St w W F → Calls Try.prog 5 #[.slice ai ids.length ci] W (RefNewPost ids W)) := hid (fun W F h => refNew_c W _ ids (HI.out.below h.below (Nat.le_refl _)) (by omega))
  have HCell : Hid (∀ W, St w W F2 → W.cell? ⟨g2, ids.length, none⟩ = some (.int .i64 (-7)) ∧ ∀ k, k < ids.length → W.cell? ⟨g2, k, none⟩ = some (.int .i64 (ids.getD k 0))) := hid (fun W h => by
    obtain ⟨g, c', e, hc⟩ := HR2.out.cells (by rw [List.append_nil]; exact h : St w W (F2 ++ [])) (by simp [ints])
    cases e
    refine ⟨hc _ _ (by simp [ints]), fun k hk => hc k _ ?_⟩
    rw [show ints (ids ++ [-7]) = ints ids ++ ints [-7] from by simp [ints], List.getElem?_append_left (by simpa [ints] using hk)]
    exact ints_get ids k hk)
  rcases hq : newM [] ids with _ | c
  · obtain ⟨hb0, -, hnd⟩ := newM_none hq
    have HQ := hid hq; have HB0 := hid hb0
    clear hq hb0
    go_upto_region 4 with (go_at_call 4; refine HN.out.mono ?_; rintro e w3 hp; obtain ⟨bu, Fu, rfl, hPU, hS3⟩ := npost_none HQ.out hp; clear hp)
    refine ((HS2.out.call hS3).alloc _).nameC ?_
    intro w4 hS4
    have hpu := hS4.cellH 0
    simp only [List.getElem?_toArray, List.getElem?_cons_zero] at hpu
    obtain ⟨pu, hpu0⟩ : ∃ pu, pu = w3.heap.size := ⟨_, rfl⟩
    rw [← hpu0] at hpu hS4 ⊢
    clear hpu0 hS3
    have HS4 := hid hS4; have HPU := hid hPU
    clear hS4 hPU
    go_upto_region 5 with (go_at_call 5; refine (HREF.out _ _ HS4.out).mono ?_; rintro e w5 hp; obtain ⟨br, Fr, S, rfl, hRU, hS5, hSr, hSm, hSl⟩ := rpost_none HQ.out hp; clear hp)
    have hS6 := HS4.out.call hS5
    clear hS5 hpu
    have hSI : S.length ≤ 2000000 := by omega
    have HSL := hid hSl; have HSR := hid hSr; have HSM := hid hSm; have HRU := hid hRU
    clear hSl hSr hSm hRU
    obtain ⟨Y, hY⟩ : ∃ Y, Y = Fr ++ ((pu, Obj.cells #[.pointer (some ⟨bu, 0, none⟩)] 24 (0, 0)) :: Fu) := ⟨_, rfl⟩
    have HY := hid hY
    have HPC : Hid (∀ W, St w W Y → W.cell? ⟨pu, 0, none⟩ = some (.pointer (some ⟨bu, 0, none⟩))) := hid (fun W h => by
      rw [HY.out] at h
      exact h.rd (i := 0) (List.mem_append_right _ List.mem_cons_self) rfl)
    have HS7 : Hid (St w w5 (F2 ++ Y)) := hid (hS6.perm (by
      rw [hY]
      refine (List.perm_append_comm_assoc F2 Fr _).trans (List.Perm.append_left Fr ?_)
      refine List.perm_middle.trans (List.Perm.cons _ ?_)
      exact List.perm_append_comm))
    clear hY hS6
    have hpu := HPC.out _ HS7.out.appR
    have q7 := (HCell.out _ HS7.out.appL).1
    go_wp2_with (go_at_call 6; refine (num_c _ _).mono ?_; rintro e w6 ⟨rfl, rfl⟩)
    clear hpu q7
    go_loopw [10] (fun iv wr => ∃ k : Nat, k ≤ ids.length ∧ iv = .int .i64 k ∧ St w wr (F2 ++ Y)) (fun iv _ => ids.length - (intOf iv).toNat)
    case atStart => exact ⟨0, Nat.zero_le _, rfl, HS7.out⟩
    case round =>
      obtain ⟨k, hk, rfl, hS⟩ := hrel
      clear HS7
      by_cases hlt : k < ids.length
      · obtain ⟨bs, os, rfl, ck⟩ := HIC.out k hlt
        have ck := hS.old ck
        have dk := (HCell.out _ hS.appL).2 k hlt
        obtain ⟨x, hx⟩ : ∃ x, x = ids.getD k 0 := ⟨_, rfl⟩
        rw [← hx] at ck dk
        have HS := hid hS
        clear hx hS
        go_wp2_with fail
        go_quiet (fail)
        go_wp2_with fail
        exact ⟨⟨k + 1, by omega, by go_num, HS.out.drewN _⟩, by simp [intOf]; omega⟩
      · have HS7 := hid hS
        clear hS
        go_wp2_with fail
        clear hlt hk
        go_loopw [11] (fun iv wr => ∃ (k : Nat) (M : Frag), k ≤ ids.length ∧ iv = .int .i64 k ∧ Rw 3 1 (.slice (some ⟨g2, 0, none⟩) (ids.length + 1) c2) (ids.length + 1) (ints (upd (· + 1) k ids ++ [-7])) M ∧ St w wr (M ++ Y)) (fun iv _ => ids.length - (intOf iv).toNat)
        case atStart => exact ⟨0, F2, Nat.zero_le _, rfl, by rw [upd_zero]; exact HR2.out, HS7.out⟩
        case round =>
          obtain ⟨k, M, hk, rfl, hR, hS⟩ := hrel
          clear HS7
          by_cases hlt : k < ids.length
          · obtain ⟨bs, os, rfl, ck⟩ := HIC.out k hlt
            have ck := hS.old ck
            obtain ⟨g, c', e, hc, hf, hw⟩ := hR.put hS k (by omega)
            cases e
            obtain ⟨x, hx⟩ : ∃ x, x = ids.getD k 0 := ⟨_, rfl⟩
            rw [← hx] at ck
            have hxm : x ∈ ids := by rw [hx]; exact idAt_mem hlt
            have hx0 := (HB0.out x hxm).1
            have hx1 := (HB0.out x hxm).2
            have hul : k < (upd (· + 1) k ids).length := by rw [upd_len]; exact hlt
            rw [show ints (upd (· + 1) k ids ++ [-7]) = ints (upd (· + 1) k ids) ++ ints [-7] from by simp [ints], List.getElem?_append_left (by simpa [ints] using hul), ints, List.getElem?_map, upd_get _ _ _ hlt, List.getElem?_eq_getElem hlt] at hc
            simp only [Option.map_some] at hc
            obtain ⟨F', hw1, hw2⟩ := hw 0 (.int .i64 (x + 1))
            have he : (ints (upd (· + 1) k ids ++ [-7])).set k (.int .i64 (x + 1)) = ints (upd (· + 1) (k + 1) ids ++ [-7]) := by
              rw [ints_set, List.set_append_left _ _ hul, show x + 1 = (· + 1) ids[k] from by rw [hx]; simp [List.getD_eq_getElem?_getD, List.getElem?_eq_getElem hlt], upd_set _ _ _ hlt]
            rw [he] at hw1
            have HW := hid (And.intro hw1 hw2)
            clear hw hw1 hw2 hR hS hx he hxm hul
            go_wp2_with fail
            exact ⟨⟨k + 1, F', by omega, by go_num, HW.out.1, HW.out.2⟩, by simp [intOf]; omega⟩
          · have hkn : k = ids.length := by omega
            subst hkn
            rw [upd_full] at hR
            obtain ⟨ids1, he1⟩ : ∃ l, l = ids.map (· + 1) := ⟨_, rfl⟩
            rw [← he1] at hR
            have hl1 : ids1.length = ids.length := by rw [he1]; simp
            have hin1 : ∀ x ∈ ids1, inI x := by
              intro x hx
              rw [he1] at hx
              obtain ⟨y, hy, rfl⟩ := List.mem_map.1 hx
              have := HB0.out y hy
              unfold inI
              omega
            have HL1 := hid hl1; have HIN1 := hid hin1; have HR8 := hid hR; have HS8 := hid hS
            have HRow := hid (HPart.out wr M ids1 (-7) hl1 hR Y hS)
            have hvn : VNil (.slice (some ⟨g2, 0, none⟩) ids.length c2) := VNil.of_some _ _ _
            have hone : ∀ u ∈ ints ids1, u.oneCell' = true := by intro u hu; obtain ⟨x, _, rfl⟩ := List.mem_map.1 hu; rfl
            have HVN := hid hvn; have HONE1 := hid hone
            clear hl1 hin1 hR hS he1 hvn hone
            go_upto_region 19 with (at_builtin; refine append_rows_st (by rfl) _ _ 22 (by rfl) 3 i1 (.int .i64 0) 8 Try.underlying22 hi1 hy0 hy1 hy2 (by rfl) (.slice none 0 0) 0 [] [] (M ++ Y) (by rfl) (Rw.nil _ _) HS8.out (.slice (some ⟨g2, 0, none⟩) ids.length c2) (ints ids1) (by rfl) HRow.out HVN.out HONE1.out (by rw [ints_len, HL1.out]; unfold maxLen; omega) (by rw [ints_len, HL1.out]; omega) ?_)
            intro v8 w8 F8 hR8 hS8
            rw [ints_len] at hR8
            have HN8 := hid (refNew_c w8 v8 ids1 (hR8.rowOf hS8) (by rw [HL1.out]; omega))
            obtain ⟨a8, c8, rfl, -⟩ := hR8.form
            have HS9 := hid hS8.appR
            clear hR8 hS8
            go_upto_region 19 with (go_at_call 5; refine HN8.out.mono ?_; rintro e w9 hp; obtain ⟨yv, kv, Fy, rfl, hS10, hA1, hA2⟩ := rpost_any hp; clear hp)
            have HA1 := hid hA1; have HA2 := hid hA2
            have HS11 : Hid (St w w9 (M ++ (Fy ++ Y))) := hid ((HS9.out.call hS10).perm (List.perm_append_comm_assoc _ _ _))
            have HN9 := hid (new_c w9 (.slice (some ⟨g2, 0, none⟩) ids.length c2) ids1 (HPart.out w9 M ids1 (-7) HL1.out HR8.out _ HS11.out) (by rw [HL1.out]; omega) HIN1.out)
            clear hA1 hA2 hS10 HS9 HN8 HS8
            go_upto_region 20 with (go_at_call 4; refine HN9.out.mono ?_; rintro e w10 hp; obtain ⟨vv, hv, Fv, rfl, hS12, hB1, hB2⟩ := npost_any hp; clear hp)
            have HB1 := hid hB1; have HB2 := hid hB2
            have HS12 : Hid (St w w10 (M ++ (Fv ++ (Fy ++ Y)))) := hid ((HS11.out.call hS12).perm (List.perm_append_comm_assoc _ _ _))
            obtain ⟨Z, hZ⟩ : ∃ Z, Z = Fv ++ (Fy ++ Y) := ⟨_, rfl⟩
            rw [← hZ] at HS12
            have HZ := hid hZ
            clear hB1 hB2 hS12 HS11 HN9 hZ
            go_wp2_with fail
            go_loopw [16] (fun iv wr => ∃ (k : Nat) (M : Frag), k ≤ ids.length ∧ iv = .int .i64 k ∧ Rw 3 1 (.slice (some ⟨g2, 0, none⟩) (ids.length + 1) c2) (ids.length + 1) (ints (upd (fun _ => -5) k ids1 ++ [-7])) M ∧ St w wr (M ++ Z)) (fun iv _ => ids.length - (intOf iv).toNat)
            case atStart => exact ⟨0, M, Nat.zero_le _, rfl, by rw [upd_zero]; exact HR8.out, HS12.out⟩
            case round =>
              obtain ⟨k, M, hk, rfl, hR, hS⟩ := hrel
              clear HS12 HR8 HRow HVN HONE1 hlt hk
              by_cases hlt : k < ids.length
              · have hl1 : k < ids1.length := by rw [HL1.out]; exact hlt
                obtain ⟨g, c', e, hc, hf, hw⟩ := hR.put hS k (by omega)
                cases e
                have hul : k < (upd (fun _ => (-5 : Int)) k ids1).length := by rw [upd_len]; exact hl1
                rw [show ints (upd (fun _ => (-5 : Int)) k ids1 ++ [-7]) = ints (upd (fun _ => (-5 : Int)) k ids1) ++ ints [-7] from by simp [ints], List.getElem?_append_left (by simpa [ints] using hul), ints, List.getElem?_map, upd_get _ _ _ hl1, List.getElem?_eq_getElem hl1] at hc
                simp only [Option.map_some] at hc
                obtain ⟨F', hw1, hw2⟩ := hw 0 (.int .i64 (-5))
                have he : (ints (upd (fun _ => (-5 : Int)) k ids1 ++ [-7])).set k (.int .i64 (-5)) = ints (upd (fun _ => (-5 : Int)) (k + 1) ids1 ++ [-7]) := by
                  rw [ints_set, List.set_append_left _ _ hul, show (-5 : Int) = (fun _ => (-5 : Int)) ids1[k] from rfl, upd_set _ _ _ hl1]
                rw [he] at hw1
                have HW := hid (And.intro hw1 hw2)
                clear hw hw1 hw2 hR hS he hul
                go_wp2_with fail
                exact ⟨⟨k + 1, F', by omega, by go_num, HW.out.1, HW.out.2⟩, by simp [intOf]; omega⟩
              · have HS13 := hid hS.appR
                clear hR hS
                rcases hq1 : newM [] ids1 with _ | c
                case' none =>
                  obtain ⟨br1, S1, rfl, rfl, hRU1, hSr1, hSm1, hSl1⟩ := HA2.out hq1
                  obtain ⟨bu1, rfl, rfl, hPU1⟩ := HB2.out hq1
                  have hnd1 := (newM_none hq1).2.2
                  have hS14 : St w wr (Fv ++ (Fy ++ Y)) := by rw [← HZ.out]; exact HS13.out
                  have HG1 := hid (groupsP_c w wr (Fy ++ Y) Fv _ ids1 S1 _ id id id hPU1 (UInv.start _) hS14 1 (Rel.start ids1 hnd1) hnd1 hSr1 hSm1 (by rw [HL1.out]; omega))
                  have hSl1' : S1.length ≤ 100000000 := by rw [hSl1, HL1.out]; omega
                  have HRU1 := hid hRU1; have HSL1 := hid hSl1'
                  clear hRU1 hSr1 hSm1 hSl1 hPU1 hnd1 hS14 HA1 HA2 HB1 HB2 hq1 hSl1'
                  go_wp2_with (first | (go_at_call 6; refine (num_c _ _).mono ?_; rintro e wz ⟨rfl, rfl⟩) | (go_at_call 8; refine HG1.out.mono ?_; rintro e w14 ⟨va, ova, Fva, Ta, Ra, rfl, _, _, hRa, hTa, hLa, hS14⟩))
                  obtain ⟨ada, cca, rfl, -⟩ := hRa.form
                  have hS15 : St w w14 (Fy ++ ((Ra ++ frags Ta) ++ (Fva ++ Y))) := hS14.perm ((List.perm_append_comm_assoc Fy (Ra ++ frags Ta) _).trans ((List.perm_append_comm_assoc Fy Fva Y).append_left (Ra ++ frags Ta)))
                  have HG2 := hid (refGroupsU_c w w14 _ Fy br1 S1 id HRU1.out hS15 1 HSL1.out)
                  have HRa := hid hRa; have HTa := hid hTa; have HLa := hid hLa; have HS15 := hid hS15
                  clear hRa hTa hLa hS14 hS15 HG1
                  go_wp2_with (go_at_call 9; refine HG2.out.mono ?_; rintro e w15 ⟨vb, Tb, Rb, rfl, hRb, hTb, hLb, hS16⟩)
                  obtain ⟨adb, ccb, rfl, -⟩ := hRb.form
                  have hS17 := HS15.out.call hS16
                  have hga : GroupsOf w15 (.slice ada Ta.length cca) (refGroups S1 id 1) := by
                    rw [← HLa.out]
                    exact groupsOf_rows HRa.out HTa.out (by have h := hS17.appR.appR; rwa [List.append_assoc] at h)
                  have hgb : GroupsOf w15 (.slice adb Tb.length ccb) (refGroups S1 id 1) := by
                    rw [← hLb]
                    exact groupsOf_rows hRb hTb (by have h := hS17; rwa [List.append_assoc] at h)
                  have HG3 := hid (groups_c w15 _ _ _ hga hgb)
                  have HS18 := hid hS17.appR.appR.appR.appR
                  clear hRb hTb hLb hS16 hS17 hga hgb HG2
                  go_upto_region 26 with (go_at_call 7; refine HG3.out.mono ?_; rintro e w16 ⟨rfl, m, hm⟩; replace hm := hid hm)
                  have hfin : St w w16 Y := by rw [hm.out]; exact HS18.out.drewN m
                  clear HG3 HS18 hm
                  refine hfin.nameC ?_
                  clear hfin
                  intro wY hSY
                case' some =>
                  obtain ⟨rfl, rfl⟩ := HA1.out _ hq1
                  obtain ⟨rfl, rfl⟩ := HB1.out _ hq1
                  have hfin : St w wr Y := by have h := HS13.out; rw [HZ.out] at h; exact h.appR.appR
                  have HFIN := hid hfin
                  clear hfin HA1 HA2 HB1 HB2 hq1
                  go_upto_region 26 with (go_at_call 6; refine (num_c _ _).mono ?_; rintro e wz ⟨rfl, rfl⟩)
                  refine HFIN.out.nameC ?_
                  intro wY hSY
                all_goals
                  have HSY := hid hSY
                  clear hSY HS13 HZ hlt hk HL1 HIN1 HIC HPart hcut
                  obtain ⟨asj, csj, rfl, j1, j2, j3, j4⟩ := HSJ.out
                  unfold maxLen at j2
                  have HJN : Hid (asj = none → xs.length = 0 ∧ csj = 0) := hid (fun e => by have := j3 e; exact ⟨by omega, this⟩)
                  have HJC : Hid (∀ p, asj = some p → ∀ (j : Nat) u, (flatJ xs)[j]? = some u → wY.cell? (p.add j) = some u) := hid (fun p e j u hu => by
                    have hne : xs ≠ [] := by intro e0; rw [e0] at hu; simp [flatJ] at hu
                    obtain ⟨b, o, e1, hc⟩ := j4 hne
                    rw [e] at e1
                    cases e1
                    have h0 : (⟨b, o, none⟩ : Addr).add j = ⟨b, o + j, none⟩ := by
                      unfold Addr.add
                      split
                      · rename_i h; rw [h]; rfl
                      · rfl
                    rw [h0]
                    exact HSY.out.old (hc j u hu))
                  clear j3 j4
                  go_wp2_with (at_builtin; refine append_lies_st (by rfl) _ _ 23 (by rfl) 36 i4 (.agg #[.int .i64 0, .int .i64 0, .bool false, .int .i64 0]) 4 32 Try.underlying23 hi4 hx0 hx1 hx2 (by rfl) (by decide) (.slice none 0 0) 0 [] [] Y (by rfl) (Rw.nil _ _) HSY.out asj xs.length csj (flatJ xs) (by rfl) (flatJ_len xs) HJN.out HJC.out flatJ_one (by unfold maxLen; omega) (by omega) ?_)
                  intro v26 w26 Fl hRl hSl
                  have HRl := hid hRl; have HSl := hid hSl
                  obtain ⟨adl, ccl, rfl, -⟩ := hRl.form
                  clear hRl hSl HSY HJN HJC
                  go_wp2_with (at_builtin; refine append_st (by rfl) _ _ 23 (by rfl) 36 i4 (.agg #[.int .i64 0, .int .i64 0, .bool false, .int .i64 0]) 4 32 Try.underlying23 hi4 hx0 hx1 hx2 (by rfl) (by decide) (.slice adl xs.length ccl) xs.length (flatJ xs) Fl Y (by rfl) HRl.out HSl.out 2 w26.heap.size (flatJ [⟨0, 0, true, 0⟩, ⟨0, 0, true, 2⟩]) (by rfl) (by rfl) (by rfl) flatJ_one (by unfold maxLen; omega) (by omega) ?_)
                  intro v27 w27 Fm hRm hSm
                  rw [← flatJ_app] at hRm
                  obtain ⟨ys, hys⟩ : ∃ ys, ys = xs ++ [⟨0, 0, true, 0⟩, ⟨0, 0, true, 2⟩] := ⟨_, rfl⟩
                  have hyl : ys.length = xs.length + 2 := by rw [hys]; simp
                  have hyok : ∀ s ∈ ys, s.ok := by
                    intro s hs
                    rw [hys] at hs
                    rcases List.mem_append.1 hs with hs | hs
                    · exact HOK.out s hs
                    · simp at hs
                      rcases hs with rfl | rfl <;> (unfold JStep.ok inI; decide)
                  rw [← hys, ← hyl] at hRm
                  obtain ⟨adm, ccm, rfl, m1, m2, -⟩ := hRm.form
                  unfold maxLen at m2
                  obtain ⟨gm, rfl⟩ : ∃ g, adm = some ⟨g, 0, none⟩ := by
                    obtain ⟨g, c, e, _⟩ := hRm.cells hSm (by intro e; have := flatJ_len ys; rw [e] at this; simp at this; omega)
                    cases e
                    exact ⟨g, rfl⟩
                  have hyn : ys.length ≤ 2000002 := by omega
                  have HRm := hid hRm; have HYOK := hid hyok; have HYS := hid hys
                  obtain ⟨N, hN⟩ : ∃ N, N = Fm ++ [(pu, Obj.cells #[.pointer (some ⟨bu, 0, none⟩)] 24 (0, 0))] := ⟨_, rfl⟩
                  have HN27 := hid hN
                  have HS27 : Hid (St w w27 (Fu ++ (Fr ++ N))) := hid (hSm.perm (by
                    rw [hN, HY.out]
                    refine (List.perm_append_comm_assoc Fu Fr _).trans ((List.Perm.append_left Fr ?_).trans (List.perm_append_comm_assoc Fr Fm _))
                    refine (List.perm_append_comm_assoc Fu Fm _).trans (List.Perm.append_left Fm ?_)
                    exact List.perm_append_singleton _ _))
                  have HRead : Hid (∀ W, St w W N → W.cell? ⟨pu, 0, none⟩ = some (.pointer (some ⟨bu, 0, none⟩)) ∧ ∀ (k : Nat) s, ys[k]? = some s → W.cell? ⟨gm, k * 4, none⟩ = some (.int .i64 s.a) ∧ W.cell? ⟨gm, k * 4 + 1, none⟩ = some (.int .i64 s.b) ∧ W.cell? ⟨gm, k * 4 + 2, none⟩ = some (.bool s.told) ∧ W.cell? ⟨gm, k * 4 + 3, none⟩ = some (.int .i64 s.least)) := hid (fun W h => by
                    rw [HN27.out] at h
                    refine ⟨h.appR.cellH 0, fun k s hs => ?_⟩
                    obtain ⟨f1, f2, f3, f4⟩ := flatJ_at hs
                    obtain ⟨g, c, e, hc⟩ := HRm.out.cells h (by intro e; rw [e] at f1; simp at f1)
                    cases e
                    exact ⟨hc _ _ f1, hc _ _ f2, hc _ _ f3, hc _ _ f4⟩)
                  clear hRm hSm hyok hys hN HRl HSl hyl
                  go_wp2_with fail
                  go_loopw [18] (fun iv wr => ∃ (k : Nat) (ov : List Nat) (F : Frag) (Rf h : Nat → Nat) (L : Int → Int) (Fr : Frag), k ≤ ys.length ∧ iv = .int .i64 k ∧ ProgU (.pointer (some ⟨bu, 0, none⟩)) ids ov F ∧ UInv ids.length ov Rf h ∧ RefU (.pointer (some ⟨br, 0, none⟩)) S L Fr ∧ Rel ids Rf L ∧ St w wr (F ++ (Fr ++ N))) (fun iv _ => ys.length - (intOf iv).toNat)
                  case atStart => exact ⟨0, List.range ids.length, Fu, id, id, id, Fr, Nat.zero_le _, rfl, HPU.out, UInv.start _, HRU.out, Rel.start ids hnd, HS27.out⟩
                  case round =>
                    clear HPU HRU HS27
                    obtain ⟨k, ov, Fp, Rf, h, L, Fr, hk, rfl, hPU, hUV, hRU, hRel, hS⟩ := hrel
                    by_cases hlt : k < ys.length
                    · obtain ⟨s, hs⟩ : ∃ s, ys[k]? = some s := ⟨_, List.getElem?_eq_getElem hlt⟩
                      obtain ⟨hoa, hob, hol⟩ := HYOK.out s (List.mem_of_getElem? hs)
                      obtain ⟨-, hrd⟩ := HRead.out _ hS.appR.appR
                      obtain ⟨r1, r2, r3, r4⟩ := hrd k s hs
                      obtain ⟨sa, sb, st, sl⟩ := s
                      simp only at r1 r2 r3 r4 hoa hob hol
                      have HPU := hid hPU; have HUV := hid hUV; have HRU := hid hRU; have HRel := hid hRel; have HS := hid hS; have HOA := hid hoa; have HOB := hid hob; have HOL := hid hol
                      clear hPU hUV hRU hRel hS hoa hob hol hs hrd
                      have m0 : (0 : Int) ≤ (k : Int) * 4 := by omega
                      go_upto_region 32 with (fail)
                      refine (HS.out.alloc _).nameC ?_
                      clear r1 r2 r3 r4 HS
                      intro w31 hS31
                      obtain ⟨ps, hps⟩ : ∃ ps, ps = wr.heap.size := ⟨_, rfl⟩
                      rw [← hps] at hS31 ⊢
                      clear hps
                      obtain ⟨N1, hN1⟩ : ∃ N1, N1 = (ps, Obj.cells #[.int .i64 sa, .int .i64 sb, .bool st, .int .i64 sl] 36 (0, 0)) :: N := ⟨_, rfl⟩
                      have HPS : Hid (∀ W, St w W N1 → W.cell? ⟨ps, 0, none⟩ = some (.int .i64 sa) ∧ W.cell? ⟨ps, 1, none⟩ = some (.int .i64 sb) ∧ W.cell? ⟨ps, 2, none⟩ = some (.bool st) ∧ W.cell? ⟨ps, 3, none⟩ = some (.int .i64 sl) ∧ W.cell? ⟨pu, 0, none⟩ = some (.pointer (some ⟨bu, 0, none⟩)) ∧ St w W N) := hid (fun W h => by
                        rw [hN1] at h
                        exact ⟨h.cellH 0, h.cellH 1, h.cellH 2, h.cellH 3, (HRead.out _ h.tail).1, h.tail⟩)
                      have HS32 : Hid (St w w31 (Fp ++ (Fr ++ N1))) := hid (hS31.perm (by rw [hN1]; exact (List.perm_middle.append_left Fp).trans List.perm_middle))
                      have HSub : Hid (N.Sublist N1) := hid (by rw [hN1]; exact List.sublist_cons_self _ _)
                      clear hS31 hN1
                      obtain ⟨p0, p1, -, -, p4, -⟩ := HPS.out _ HS32.out.appR.appR
                      have HJ := hid (join_c w w31 (Fr ++ N1) Fp _ ids ov Rf h HPU.out HUV.out HS32.out sa sb HOA.out HOB.out HIDS.out (by omega))
                      obtain ⟨jn, hjn⟩ : ∃ jn : Int, jn = if sa ∈ ids ∧ sb ∈ ids then 0 else 131 := ⟨_, rfl⟩
                      have hc : (sa ∈ S ∧ sb ∈ S) ↔ (sa ∈ ids ∧ sb ∈ ids) := by rw [HSM.out sa, HSM.out sb]
                      have hjS : (if sa ∈ S ∧ sb ∈ S then (0 : Int) else 131) = jn := by
                        rw [hjn]
                        by_cases h9 : sa ∈ ids ∧ sb ∈ ids
                        · rw [if_pos h9, if_pos (hc.2 h9)]
                        · rw [if_neg h9, if_neg (fun h => h9 (hc.1 h))]
                      have HJS := hid hjS; have HJN := hid hjn; have HC9 := hid hc
                      clear hjn hjS hc
                      go_upto_region 33 with (go_at_call 10; refine HJ.out.mono ?_; rintro e w32 ⟨ov', F', Rf', h', hee, hUV', hPU', hS', hyes, hno⟩; rw [← HJN.out] at hee; subst hee)
                      have HRel2 : Hid (Rel ids Rf' (if sa ∈ S ∧ sb ∈ S then joinL L sa sb else L)) := hid (by
                        by_cases h9 : sa ∈ ids ∧ sb ∈ ids
                        · obtain ⟨i, k, hi, hk, e1, e2, e3⟩ := hyes h9
                          rw [if_pos (HC9.out.2 h9), e3, ← e1, ← e2]
                          exact HRel.out.join rfl (fun i hi => ⟨HUV.out.idem i hi, HUV.out.rlt i hi⟩) hi hk
                        · rw [if_neg (fun h => h9 (HC9.out.1 h)), hno h9]
                          exact HRel.out)
                      have HUV2 := hid hUV'; have HPU2 := hid hPU'
                      have HS33 : Hid (St w w32 (Fr ++ (F' ++ N1))) := hid (hS'.perm (List.perm_append_comm_assoc _ _ _))
                      have HRJ := hid (refJoin_c w w32.drew (F' ++ N1) Fr _ S L HRU.out HS33.out.drew sa sb (by omega))
                      obtain ⟨p0, p1, -, -, -, -⟩ := HPS.out _ HS33.out.appR.appR
                      clear hyes hno hUV' hPU' hS' HUV HPU HRU HRel HS32 HJ p4
                      go_region_held3 (fun w' => w'.cell? ⟨ps, 0, none⟩ = some (.int .i64 sa) ∧ w'.cell? ⟨ps, 1, none⟩ = some (.int .i64 sb))
                        (first | exact ⟨p0, p1⟩ | (have h9 := HPS.out _ hS9.appR.appR; exact ⟨h9.1, h9.2.1⟩) | go_keep)
                        (first | (go_at_call 6; refine (num_c _ _).mono ?_; rintro e w9 ⟨rfl, rfl⟩) | (go_at_call 11; refine HRJ.out.mono ?_; rintro e w33 ⟨Fr', L', hee, hL', hRU', hS9⟩; rw [HJS.out] at hee; subst hee))
                      rw [← hL'] at HRel2
                      have HRU2 := hid hRU'; have HS34 := hid hS9
                      have hNS : S.length ≤ 100000000 := by omega
                      obtain ⟨-, -, p2, p3, p4, -⟩ := HPS.out _ hS9.appR.appR
                      clear hRU' hS9 hL' HRJ p0 p1 HS33
                      cases st with
                      | false =>
                        go_wp2_with fail
                        exact ⟨⟨k + 1, ov', F', Rf', h', L', Fr', by omega, by go_num, HPU2.out, HUV2.out, HRU2.out, HRel2.out, (HS34.out.perm (List.perm_append_comm_assoc _ _ _)).sub (List.Sublist.append (List.Sublist.refl _) (List.Sublist.append (List.Sublist.refl _) HSub.out))⟩, by simp [intOf]; omega⟩
                      | true =>
                        have hG1 := refGroupsU_c w w33.drew (F' ++ N1) Fr' br S L' HRU2.out HS34.out.drew sl hNS
                        have HG1 := hid hG1
                        clear hG1
                        go_upto_region 36 with (fail)
                        go_region_held3 (fun w' => w'.cell? ⟨ps, 3, none⟩ = some (.int .i64 sl))
                          (first | exact p3 | exact (HPS.out _ hS12.appR.appR.appR.appR).2.2.2.1 | exact (HPS.out _ hS11.appR.appR.appR.appR).2.2.2.1 | exact (HPS.out _ hS10'.appR.appR.appR).2.2.2.1 | go_keep)
                          (first
                            | (go_at_call 12; refine (parted_c w _ ((Rb ++ frags Tb) ++ ((Ra ++ frags Ta) ++ (Fr' ++ N1))) F' _ ids S ov' Rf' h' L' HPU2.out HUV2.out hS11 sl HRel2.out hnd HSR.out HSM.out (by omega) pu (fun W hh => (HPS.out _ hh.appR.appR.appR).2.2.2.2.1) _ _ (fun W hh => by rw [← hLa]; exact groupsOf_rows hRa hTa (by have h9 := hh.appR; rw [List.append_assoc] at h9; exact h9)) (fun W hh => by rw [← hLb]; exact groupsOf_rows hRb hTb (by have h9 := hh; rw [List.append_assoc] at h9; exact h9))).mono ?_; rintro e w36 ⟨rfl, ov3, F3, hPU3, hUV3, hS12⟩)
                            | (go_at_call_of 9 (Value.int IntKind.i64 1); refine (refGroupsU_c w _ ((Ra ++ frags Ta) ++ (F' ++ N1)) Fr' br S L' HRU2.out hS10' 1 hNS).mono ?_; rintro e w35 ⟨vb, Tb, Rb, rfl, hRb, hTb, hLb, hS11a⟩; have hS11 : St w w35 (F' ++ ((Rb ++ frags Tb) ++ ((Ra ++ frags Ta) ++ (Fr' ++ N1)))) := (hS10'.call hS11a).perm (ahead3 _ _ _ _ _))
                            | (go_at_call_of 9 (Value.int IntKind.i64 sl); refine HG1.out.mono ?_; rintro e w34 ⟨va, Ta, Ra, rfl, hRa, hTa, hLa, hS10a⟩; have hS10' : St w w34 (Fr' ++ ((Ra ++ frags Ta) ++ (F' ++ N1))) := (HS34.out.drew.call hS10a).perm (List.perm_append_comm_assoc _ _ _)))
                        all_goals
                          have HS36 := hid hS12; have HPU3 := hid hPU3; have HUV3 := hid hUV3
                          clear hS12 hPU3 hUV3
                          go_wp2_with fail
                          exact ⟨⟨k + 1, ov3, F3, Rf', h', L', Fr', by omega, by go_num, HPU3.out, HUV3.out, HRU2.out, HRel2.out, HS36.out.sub (List.Sublist.append (List.Sublist.refl _) ((List.Sublist.append (List.Sublist.refl _) HSub.out).trans ((List.sublist_append_right _ _).trans (List.sublist_append_right _ _))))⟩, by simp [intOf]; omega⟩
                    · have HSF := hid hS
                      clear hS hPU hUV hRU hRel
                      go_wp2_with fail
                      go_ret
                      exact ⟨rfl, HSF.out.below⟩
  · have HQ := hid hq
    clear hq
    go_upto_region 4 with (go_at_call 4; refine HN.out.mono ?_; rintro e w3 hp; obtain ⟨rfl, hS3⟩ := npost_some HQ.out hp; clear hp)
    refine ((HS2.out.call hS3).alloc _).nameC ?_
    intro w4 hS4
    have hpu := hS4.cellH 0
    simp only [List.getElem?_toArray, List.getElem?_cons_zero] at hpu
    obtain ⟨pu, hpu0⟩ : ∃ pu, pu = w3.heap.size := ⟨_, rfl⟩
    rw [← hpu0] at hpu hS4 ⊢
    simp only [List.nil_append] at hS4
    clear hpu0 hS3
    have HS4 := hid hS4
    clear hS4
    go_upto_region 5 with (go_at_call 5; refine (HREF.out _ _ HS4.out).mono ?_; rintro e w5 hp; obtain ⟨rfl, hS5⟩ := rpost_some HQ.out hp; clear hp)
    have hS6 := HS4.out.call hS5
    simp only [List.nil_append] at hS6
    clear hS5 hpu
    have hpu := hS6.cellH 0
    simp only [List.getElem?_toArray, List.getElem?_cons_zero] at hpu
    have hS7 := hS6.tail
    have HS7 := hid hS7
    clear hS6
    have q7 := (HCell.out _ hS7).1
    clear hS7
    go_wp2_with (go_at_call 6; refine (num_c _ _).mono ?_; rintro e w6 ⟨rfl, rfl⟩)
    go_loopw [10] (fun iv wr => ∃ k : Nat, k ≤ ids.length ∧ iv = .int .i64 k ∧ St w wr F2) (fun iv _ => ids.length - (intOf iv).toNat)
    case atStart => exact ⟨0, Nat.zero_le _, rfl, HS7.out⟩
    case round =>
      obtain ⟨k, hk, rfl, hS⟩ := hrel
      clear HS7
      by_cases hlt : k < ids.length
      · obtain ⟨bs, os, rfl, ck⟩ := HIC.out k hlt
        have ck := hS.old ck
        have dk := (HCell.out _ hS).2 k hlt
        obtain ⟨x, hx⟩ : ∃ x, x = ids.getD k 0 := ⟨_, rfl⟩
        rw [← hx] at ck dk
        have HS := hid hS
        clear hx hS
        go_wp2_with fail
        go_quiet (fail)
        go_wp2_with fail
        exact ⟨⟨k + 1, by omega, by go_num, HS.out.drewN _⟩, by simp [intOf]; omega⟩
      · have HS := hid hS
        clear hS
        go_wp2_with fail
        go_ret
        exact ⟨rfl, HS.out.below⟩
end Go.Proofs.Ytgohdcegplbkjaa
