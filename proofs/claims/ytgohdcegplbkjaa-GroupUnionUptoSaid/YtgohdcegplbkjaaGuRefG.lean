/- The document's unions: Groups. -/
import Derived.Test.YtgohdcegplbkjaaGuRef
import Derived.Deep.RegionLaw
namespace Go.Proofs.Ytgohdcegplbkjaa
set_option linter.unusedVariables false
set_option linter.unusedSimpArgs false
open Go Go.RowKit
open Go.Lib (hid)

theorem infoGroup : (Try.prog.info? 50).map (fun i => (i.zero, i.size, i.bytes)) = some (some (.agg #[.slice none 0 0]), 1, 24) := by kernel_rfl
def grpL (S : List Int) (L : Int → Int) (x : Int) : List Int := S.filter fun y => L y = x
def refG (P S : List Int) (L : Int → Int) (least : Int) : List (List Int) := ((P.filter fun x => L x = x).map (grpL S L)).filter fun l => least ≤ (l.length : Int)
theorem refG_all (S : List Int) (L : Int → Int) (least : Int) : refG S S L least = refGroups S L least := rfl
theorem refG_skip {P S : List Int} {L : Int → Int} {least x : Int} (h : L x ≠ x) : refG (P ++ [x]) S L least = refG P S L least := by
  simp [refG, List.filter_append, h]
theorem refG_few {P S : List Int} {L : Int → Int} {least x : Int} (h : L x = x) (hl : ¬ least ≤ ((grpL S L x).length : Int)) : refG (P ++ [x]) S L least = refG P S L least := by
  simp [refG, List.filter_append, h, hl]
theorem refG_one {P S : List Int} {L : Int → Int} {least x : Int} (h : L x = x) (hl : least ≤ ((grpL S L x).length : Int)) : refG (P ++ [x]) S L least = refG P S L least ++ [grpL S L x] := by
  simp [refG, List.filter_append, h, hl]
theorem take_at (S : List Int) (k : Nat) (h : k < S.length) : S.take (k + 1) = S.take k ++ [S.getD k 0] := by
  rw [List.take_succ_eq_append_getElem h]; simp [List.getD_eq_getElem?_getD, h]
theorem grp_yes {S : List Int} {L : Int → Int} {x : Int} {k : Nat} (h : k < S.length) (he : L (S.getD k 0) = x) : grpL (S.take (k + 1)) L x = grpL (S.take k) L x ++ [S.getD k 0] := by
  rw [take_at S k h]; simp only [grpL, List.filter_append, List.filter_cons, List.filter_nil, he]; simp
theorem grp_no {S : List Int} {L : Int → Int} {x : Int} {k : Nat} (h : k < S.length) (he : L (S.getD k 0) ≠ x) : grpL (S.take (k + 1)) L x = grpL (S.take k) L x := by
  rw [take_at S k h]; simp only [grpL, List.filter_append, List.filter_cons, List.filter_nil, he]; simp
theorem grp_len (S : List Int) (L : Int → Int) (x : Int) (k : Nat) : (grpL (S.take k) L x).length ≤ S.length :=
  Nat.le_trans (List.length_filter_le _ _) (List.length_take_le' _ _)

set_option maxRecDepth 100000 in
set_option maxHeartbeats 4000000 in
theorem refGroups_c (w : World) (bu : Nat) (sv lv : Value) (S : List Int) (L : Int → Int) (least : Int) (hu0 : w.cell? ⟨bu, 0, none⟩ = some sv) (hu1 : w.cell? ⟨bu, 1, none⟩ = some lv) (hs : RowOf w sv (ints S)) (hl : RowOf w lv (ints (S.map L))) (hn : S.length ≤ 100000000) :
    Calls Try.prog 9 #[.pointer (some ⟨bu, 0, none⟩), .int .i64 least] w fun e w' => ∃ v T F0, e = .returned v ∧ Rw 50 1 v T.length (vals T) F0 ∧ (∀ r ∈ T, r.ok 3) ∧ lists T = refGroups S L least ∧ St w w' (F0 ++ frags T) := by
  obtain ⟨i1, hi1, hy0, hy1, hy2⟩ := parts3 infoInt
  obtain ⟨i2, hi2, hx0, hx1, hx2⟩ := parts3 infoGroup
  obtain ⟨ad1, cs, rfl, p1, p2, p3⟩ := hs.cells
  obtain ⟨ad2, cl, hlv, l1, l2, l3⟩ := hl.cells
  simp only [List.length_map] at l1 l3 hlv
  subst hlv
  unfold maxLen at p2 l2
  have HS := hid p3; have HL := hid l3; have U0 := hid hu0; have U1 := hid hu1
  clear p3 l3 hs hl hu0 hu1
  go_enter Try.func9, Try.ntmps9
  go_wp2_with fail
  go_loopw [5, 6] (fun ov i wr => ∃ (k : Nat) (T : List Row) (F0 : Frag) (v : Value), v = ov ∧ i = .int .i64 k ∧ k ≤ S.length ∧ Rw 50 1 v T.length (vals T) F0 ∧ (∀ r ∈ T, r.ok 3) ∧ lists T = refG (S.take k) S L least ∧ T.length ≤ k ∧ St w wr (F0 ++ frags T)) (fun _ i _ => S.length - (intOf i).toNat)
  case atStart => exact ⟨0, [], [], _, rfl, rfl, Nat.zero_le _, Rw.nil _ _, by simp, rfl, Nat.le_refl _, St.refl w⟩
  case round =>
    obtain ⟨k, T, F0, v, rfl, rfl, hk, hR, hT, hG, hTk, hS⟩ := hrel
    obtain ⟨wo, rfl⟩ : ∃ wo : World, wo = wr := ⟨_, rfl⟩
    have u0 := hS.old U0.out
    have u1 := hS.old U1.out
    by_cases hlt : k < S.length
    · obtain ⟨bs, os, rfl, ck⟩ := HS.out k hlt
      obtain ⟨bl, ol, rfl, dk⟩ := HL.out k hlt
      have ck := hS.old ck
      have dk := hS.old dk
      rw [map_at S L k hlt] at dk
      obtain ⟨x, hx⟩ : ∃ x, x = S.getD k 0 := ⟨_, rfl⟩
      obtain ⟨y, hy⟩ : ∃ y, y = L x := ⟨_, rfl⟩
      have HTK := hid (take_at S k hlt)
      rw [← hx] at ck dk HTK
      have HX := hid hx
      rw [← hy] at dk
      by_cases he : y = x
      · have hLx : L x = x := by rw [← hy, he]
        rw [he] at dk
        have HR := hid hR; have HT := hid hT; have HG := hid hG; have HS0 := hid hS; have HLx := hid hLx
        clear hR hT hG hS hx hy he hLx
        go_wp2_with fail
        go_quiet (fail)
        go_wp2_with fail
        go_loopw [8] (fun jv wr => ∃ (j : Nat) (gv : Value) (Fg : Frag), j ≤ S.length ∧ jv = .int .i64 j ∧ Rw 3 1 gv (grpL (S.take j) L x).length (ints (grpL (S.take j) L x)) Fg ∧ St w wr ((wo.heap.size, .cells #[gv] 50 (0, 0)) :: (Fg ++ (F0 ++ frags T)))) (fun jv _ => S.length - (intOf jv).toNat)
        case atStart => exact ⟨0, .slice none 0 0, [], Nat.zero_le _, rfl, Rw.nil _ _, (HS0.out.drewN _).alloc _⟩
        case round =>
          obtain ⟨j, gv, Fg, hj, rfl, hRg, hS⟩ := hrel
          have u0 := hS.old U0.out
          have u1 := hS.old U1.out
          obtain ⟨ag, cg, rfl, g1, g2, g3⟩ := hRg.form
          unfold maxLen at g2
          have hgl := grp_len S L x j
          have y0 := hS.cellH 0; have z0 := hS.freeH 0
          simp only [List.getElem?_toArray, List.getElem?_cons_zero, List.getElem?_cons_succ] at y0
          by_cases hlj : j < S.length
          · obtain ⟨bs', os', e1, cj⟩ := HS.out j hlj
            obtain ⟨bl', ol', e2, dj⟩ := HL.out j hlj
            cases e1
            cases e2
            have cj := hS.old cj
            have dj := hS.old dj
            obtain ⟨bs'', os'', e1, ck⟩ := HS.out k hlt
            cases e1
            have ck := hS.old ck
            rw [← HX.out] at ck
            rw [map_at S L j hlj] at dj
            obtain ⟨z, hz⟩ : ∃ z, z = S.getD j 0 := ⟨_, rfl⟩
            obtain ⟨q, hq⟩ : ∃ q, q = L z := ⟨_, rfl⟩
            rw [← hz] at cj dj
            rw [← hq] at dj
            have HZ := hid hz
            by_cases heq : q = x
            · have HGY : Hid (grpL (S.take (j + 1)) L x = grpL (S.take j) L x ++ [z]) := hid (by rw [hz]; exact grp_yes hlj (by rw [← hz, ← hq, heq]))
              rw [heq] at dj
              have HS1 := hid hS
              have HRg := hid hRg
              have HL9 : Hid (ints (grpL (S.take j) L x) ++ [.int .i64 z] = ints (grpL (S.take (j + 1)) L x)) := hid (by rw [ints_snoc, HGY.out])
              have CJ := hid cj
              clear hS hRg hz hq heq
              go_wp2_with fail
              go_quiet (fail)
              go_upto_region 11 with (fail)
              refine (HS1.out.drewN _).nameC ?_
              clear cj dj ck u0 u1 y0 z0 HS1
              intro W4 hS
              have u0 := hS.old U0.out
              have y0 := hS.cellH 0
              simp only [List.getElem?_toArray, List.getElem?_cons_zero, List.getElem?_cons_succ] at y0
              obtain ⟨bs3, os3, e3, cj⟩ := HS.out j hlj
              cases e3
              have cj := hS.old cj
              rw [← HZ.out] at cj
              have hbg : wo.heap.size < W4.heap.size := hS.hlt
              have hbb : bu < W4.heap.size := World.block_lt_of_cell? W4 _ u0
              have HS1 : Hid (St w W4 (Fg ++ ((wo.heap.size, .cells #[.slice ag (grpL (S.take j) L x).length cg] 50 (0, 0)) :: (F0 ++ frags T)))) := hid (hS.unmid)
              clear hS
              have hlen : (grpL (S.take (j + 1)) L x).length = (grpL (S.take j) L x).length + 1 := by rw [HGY.out, List.length_append]; rfl
              have HLEN := hid hlen
              clear hlen
              obtain ⟨gl, hgl'⟩ : ∃ gl, gl = (grpL (S.take j) L x).length := ⟨_, rfl⟩
              rw [← hgl'] at hgl HS1 HRg HLEN y0 g1
              have HGL := hid hgl'
              clear hgl'
              go_region_law (((first | (refine step_append_st (by rfl) _ _ 22 (by rfl) 3 i1 (.int .i64 0) 1 8 Try.underlying22 hi1 hy0 hy1 hy2 (by rfl) (by decide) (.slice ag gl cg) gl (ints (grpL (S.take j) L x)) Fg _ (by rfl) HRg.out 1 W4.heap.size [.int .i64 z] ((HS1.out.alloc _).drew) (by rfl) (by rfl) (by intro u hu; simp at hu; subst hu; rfl) (by decide) (by unfold maxLen; omega) (by omega) ?_) | (refine step_append_st (by rfl) _ _ 22 (by rfl) 3 i1 (.int .i64 0) 1 8 Try.underlying22 hi1 hy0 hy1 hy2 (by rfl) (by decide) (.slice ag gl cg) gl (ints (grpL (S.take j) L x)) Fg _ (by rfl) HRg.out 1 W4.heap.size [.int .i64 z] (HS1.out.drew.alloc _) (by rfl) (by rfl) (by intro u hu; simp at hu; subst hu; rfl) (by decide) (by unfold maxLen; omega) (by omega) ?_)); intro g' cap' w2 F' hR' hS'; rw [HL9.out] at hR'; have hb1 := hS'.rd (b := wo.heap.size) (i := 0) (List.mem_append_right _ List.mem_cons_self) rfl; have hf1 := hS'.free (b := wo.heap.size) (List.mem_append_right _ List.mem_cons_self) 0))
              all_goals
                go_wp2_with fail
                exact ⟨⟨j + 1, .slice (some ⟨g', 0, none⟩) (gl + 1) cap', F', by omega, by go_num, by rw [HLEN.out]; exact hR', hS'.mid.set 0 _⟩, by simp [intOf]; omega⟩
            · have HGN : Hid (grpL (S.take (j + 1)) L x = grpL (S.take j) L x) := hid (grp_no hlj (by rw [← hz, ← hq]; exact heq))
              have HS1 := hid hS; have HRg := hid hRg
              clear hS hRg hz hq
              go_wp2_with fail
              go_quiet (fail)
              go_wp2_with fail
              exact ⟨⟨j + 1, _, Fg, by omega, by go_num, by rw [HGN.out]; exact HRg.out, HS1.out.drewN _⟩, by simp [intOf]; omega⟩
          · have hjn : j = S.length := by omega
            subst hjn
            rw [List.take_length] at hRg g1 y0 hgl hS
            obtain ⟨ln, hln⟩ : ∃ ln, ln = (grpL S L x).length := ⟨_, rfl⟩
            rw [← hln] at hRg g1 y0 hgl hS
            have HLN := hid hln
            clear hln
            by_cases hle : least ≤ (ln : Int)
            · have HG' : Hid (lists T ++ [grpL S L x] = refG (S.take (k + 1)) S L least) := hid (by rw [HTK.out, refG_one HLx.out (by rw [← HLN.out]; exact hle), HG.out])
              have HS1 : Hid (St w wr (F0 ++ (Fg ++ ((wo.heap.size, .cells #[.slice ag ln cg] 50 (0, 0)) :: frags T)))) := hid (by
                have h1 : St w wr (F0 ++ ((wo.heap.size, .cells #[.slice ag ln cg] 50 (0, 0)) :: (Fg ++ frags T))) := hS.perm (by
                  refine List.perm_middle.trans ?_
                  exact List.Perm.cons _ (List.perm_append_comm_assoc F0 Fg (frags T)))
                refine h1.perm ?_
                exact List.Perm.append_left F0 List.perm_middle)
              have HRg := hid hRg
              clear hS hRg
              go_wp2_with (at_builtin; refine append_st (by rfl) _ _ 33 (by rfl) 50 i2 (.agg #[.slice none 0 0]) 1 24 Try.underlying33 hi2 hx0 hx1 hx2 (by rfl) (by decide) v T.length (vals T) F0 _ (by rfl) HR.out HS1.out 1 wr.heap.size [.slice ag ln cg] (by rfl) (by rfl) (by rfl) (by intro u hu; simp at hu; subst hu; rfl) (by unfold maxLen; omega) (by omega) ?_)
              intro v' W2 F' hR' hS'
              have HR' := hid hR'
              have HS2 : Hid (St w W2 (F' ++ frags (T ++ [⟨grpL S L x, .slice ag ln cg, Fg⟩]))) := hid (by
                rw [frags_app, frags_cons]
                have h1 : St w W2 (F' ++ (Fg ++ frags T)) := hS'.sub (List.Sublist.append (List.Sublist.refl _) (List.Sublist.append (List.Sublist.refl _) (List.sublist_cons_self _ _)))
                refine h1.perm ?_
                simp only [frags, List.flatMap_nil, List.append_nil]
                exact List.Perm.append_left F' List.perm_append_comm)
              clear hR' hS'
              go_wp2_with fail
              refine ⟨⟨k + 1, T ++ [⟨grpL S L x, .slice ag ln cg, Fg⟩], F', _, rfl, by go_num, by omega, by simpa [vals] using HR'.out, ?_, by rw [← HG'.out]; simp [lists], by simp; omega, HS2.out⟩, by simp [intOf]; omega⟩
              intro r hr
              rcases List.mem_append.1 hr with hr | hr
              · exact HT.out r hr
              · simp only [List.mem_singleton] at hr
                subst hr
                unfold Row.ok
                rw [← HLN.out]
                exact HRg.out
            · have HG' : Hid (lists T = refG (S.take (k + 1)) S L least) := hid (by rw [HTK.out, refG_few HLx.out (by rw [← HLN.out]; exact hle), HG.out])
              have HS1 : Hid (St w wr (F0 ++ frags T)) := hid (hS.tail.appR)
              clear hS hRg
              go_wp2_with fail
              exact ⟨⟨k + 1, T, F0, _, rfl, by go_num, by omega, HR.out, HT.out, HG'.out, by omega, HS1.out⟩, by simp [intOf]; omega⟩
      · have hLx : L x ≠ x := by rw [← hy]; exact he
        have HG : Hid (lists T = refG (S.take (k + 1)) S L least) := hid (by rw [HTK.out, refG_skip hLx]; exact hG)
        have HR := hid hR; have HT := hid hT; have HS0 := hid hS
        clear hR hT hG hS hx hy hLx
        go_wp2_with fail
        go_quiet (fail)
        go_wp2_with fail
        exact ⟨⟨k + 1, T, F0, _, rfl, by go_num, by omega, HR.out, HT.out, HG.out, by omega, HS0.out.drewN _⟩, by simp [intOf]; omega⟩
    · have hks : k = S.length := by omega
      have HG : Hid (lists T = refGroups S L least) := hid (by rw [hG, hks, List.take_length, refG_all])
      have HR := hid hR; have HT := hid hT; have HS0 := hid hS
      clear hR hT hG hS
      go_wp2_with fail
      go_ret
      exact ⟨_, T, F0, rfl, HR.out, HT.out, HG.out, HS0.out⟩
end Go.Proofs.Ytgohdcegplbkjaa
