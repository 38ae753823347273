/- The law's helper parted: a question asked over and over. -/
import Derived.Test.YtgohdcegplbkjaaGuGroups
import Derived.Test.YtgohdcegplbkjaaGuSpoil
import Derived.BigGuard
namespace Go.Proofs.Ytgohdcegplbkjaa
set_option linter.unusedVariables false
set_option linter.unusedSimpArgs false
open Go Go.RowKit
open Go.Lib (hid)

/-- the question -/
theorem ask_c (W0 w : World) (M F : Frag) (u : Value) (ids S : List Int) (ov : List Nat) (Rf h : Nat → Nat) (L : Int → Int) (hU : ProgU u ids ov F) (hV : UInv ids.length ov Rf h) (hS : St W0 w (F ++ M)) (least : Int) (hRel : Rel ids Rf L) (hnd : ids.Nodup) (hSr : S.Pairwise (· < ·)) (hSm : ∀ x, x ∈ S ↔ x ∈ ids) (hn : ids.length ≤ 10000000) (pu : Nat) (hp : w.cell? ⟨pu, 0, none⟩ = some u) :
    Calls Try.prog 13 #[.int .i64 least, .pointer (some ⟨pu, 0, none⟩)] w (GroupsPost W0 M u ids S Rf h L least) := by
  have hc := groupsP_c W0 w M F u ids S ov Rf h L hU hV hS least hRel hnd hSr hSm hn
  obtain ⟨bu, _, _, _, _, _, _, _, rfl, _⟩ := hU
  have HC := hid hc
  clear hc hV hS
  go_enter Try.func13, Try.ntmps13
  go_wp2_with (go_at_call 8; refine HC.out.mono ?_; rintro e w1 ⟨v, ov', F', T, F0, rfl, h1, h2, h3, h4, h5, h6⟩)
  have HF : Hid (GroupsPost W0 M (.pointer (some ⟨bu, 0, none⟩)) ids S Rf h L least (.returned v) w1) := hid ⟨v, ov', F', T, F0, rfl, h1, h2, h3, h4, h5, h6⟩
  obtain ⟨ad, cap, rfl, _⟩ := h3.form
  clear h1 h2 h3 h4 h5 h6 HC
  go_wp2_with fail
  go_ret
  exact HF.out

theorem refGroups_len (S : List Int) (L : Int → Int) (least : Int) : (refGroups S L least).length ≤ S.length := by
  unfold refGroups
  refine Nat.le_trans (List.length_filter_le _ _) ?_
  rw [List.length_map]
  exact List.length_filter_le _ _
theorem refGroups_row {S : List Int} {L : Int → Int} {least : Int} {g : List Int} (h : g ∈ refGroups S L least) : g.length ≤ S.length := by
  obtain ⟨x, _, rfl⟩ := List.mem_map.1 (List.mem_filter.1 h).1
  exact List.length_filter_le _ _
/-- a part from behind, ahead -/
theorem ahead5 (A B C D E G M : Frag) : (A ++ (B ++ (C ++ (D ++ (E ++ (G ++ M)))))).Perm (B ++ (C ++ (D ++ (E ++ (G ++ (A ++ M)))))) :=
  (List.perm_append_comm_assoc A B _).trans ((((List.perm_append_comm_assoc A C _).trans ((((List.perm_append_comm_assoc A D _).trans ((((List.perm_append_comm_assoc A E _).trans ((List.perm_append_comm_assoc A G _).append_left E))).append_left D))).append_left C))).append_left B)

def PartPost (W0 : World) (M : Frag) (u : Value) (ids : List Int) (Rf h : Nat → Nat) (e : Ending) (w' : World) : Prop :=
  e = .returned (.bool true) ∧ ∃ ov' F', ProgU u ids ov' F' ∧ UInv ids.length ov' Rf h ∧ St W0 w' (F' ++ M)

set_option maxRecDepth 100000 in
set_option maxHeartbeats 4000000 in
theorem parted_c (W0 w : World) (M F : Frag) (u : Value) (ids S : List Int) (ov : List Nat) (Rf h : Nat → Nat) (L : Int → Int) (hU : ProgU u ids ov F) (hV : UInv ids.length ov Rf h) (hS : St W0 w (F ++ M)) (least : Int) (hRel : Rel ids Rf L) (hnd : ids.Nodup) (hSr : S.Pairwise (· < ·)) (hSm : ∀ x, x ∈ S ↔ x ∈ ids) (hn : ids.length ≤ 10000000)
    (pu : Nat) (hp : ∀ W, St W0 W M → W.cell? ⟨pu, 0, none⟩ = some u) (wv ov1 : Value) (hw : ∀ W, St W0 W M → GroupsOf W wv (refGroups S L least)) (ho : ∀ W, St W0 W M → GroupsOf W ov1 (refGroups S L 1)) :
    Calls Try.prog 12 #[.func (.func 13) #[] #[.pointer (some ⟨pu, 0, none⟩)], wv, ov1, .int .i64 least] w (PartPost W0 M u ids Rf h) := by
  have HASK := hid (fun (w : World) (M F : Frag) (ov : List Nat) (least : Int) (hU : ProgU u ids ov F) (hV : UInv ids.length ov Rf h) (hS : St W0 w (F ++ M)) (hp : w.cell? ⟨pu, 0, none⟩ = some u) => ask_c W0 w M F u ids S ov Rf h L hU hV hS least hRel hnd hSr hSm hn pu hp)
  obtain ⟨aw, cw, rfl, _⟩ := hw w hS.appR
  obtain ⟨ao, co, rfl, _⟩ := ho w hS.appR
  have HP := hid hp; have HW := hid hw; have HO := hid ho
  have e0 := hp w hS.appR
  have HC := hid (HASK.out w M F ov least hU hV hS e0)
  obtain ⟨bu, _, _, _, _, _, _, _, rfl, _⟩ := hU
  clear hw ho hV hS hp e0
  go_enter Try.func12, Try.ntmps12
  go_wp2_with (go_at_call 13; refine HC.out.mono ?_; rintro e wa ⟨va, ova, Fa, Ta, Ra, rfl, hU, hV, hR, hT, hL, hS⟩)
  obtain ⟨ada, caa, rfl, -⟩ := hR.form
  obtain ⟨Ga, hG⟩ : ∃ G, G = Ra ++ frags Ta := ⟨_, rfl⟩
  rw [← hG] at hS
  have HXa : Hid (∀ W X, St W0 W (Ga ++ X) → GroupsOf W (.slice ada Ta.length caa) (refGroups S L least)) := hid (fun W X h => by
    rw [hG, List.append_assoc] at h
    rw [← hL]
    exact groupsOf_rows hR hT h)
  have HRa := hid hR; have HTa := hid hT; have HGa := hid hG; have HLa := hid hL
  have hS := hS.perm (List.perm_append_comm_assoc Fa Ga (M))
  have hP := HP.out wa hS.appR.appR
  have HC := hid (HASK.out wa (Ga ++ M) Fa ova least hV hU hS hP)
  clear hV hU hR hT hL hS hG hP
  go_wp2_with (go_at_call 13; refine HC.out.mono ?_; rintro e wc ⟨vc, ovc, Fc, Tc, Rc, rfl, hU, hV, hR, hT, hL, hS⟩)
  obtain ⟨adc, cac, rfl, -⟩ := hR.form
  obtain ⟨Gc, hG⟩ : ∃ G, G = Rc ++ frags Tc := ⟨_, rfl⟩
  rw [← hG] at hS
  have HXc : Hid (∀ W X, St W0 W (Gc ++ X) → GroupsOf W (.slice adc Tc.length cac) (refGroups S L least)) := hid (fun W X h => by
    rw [hG, List.append_assoc] at h
    rw [← hL]
    exact groupsOf_rows hR hT h)
  have hS := hS.perm (List.perm_append_comm_assoc Fc Gc (Ga ++ M))
  have hP := HP.out wc hS.appR.appR.appR
  have HC := hid (HASK.out wc (Gc ++ (Ga ++ M)) Fc ovc 1 hV hU hS hP)
  clear hV hU hR hT hL hS hG hP
  go_wp2_with (go_at_call 13; refine HC.out.mono ?_; rintro e wo ⟨vo, ovo, Fo, To, Ro, rfl, hU, hV, hR, hT, hL, hS⟩)
  obtain ⟨ado, cao, rfl, -⟩ := hR.form
  obtain ⟨Go, hG⟩ : ∃ G, G = Ro ++ frags To := ⟨_, rfl⟩
  rw [← hG] at hS
  have HXo : Hid (∀ W X, St W0 W (Go ++ X) → GroupsOf W (.slice ado To.length cao) (refGroups S L 1)) := hid (fun W X h => by
    rw [hG, List.append_assoc] at h
    rw [← hL]
    exact groupsOf_rows hR hT h)
  have hS := hS.perm (List.perm_append_comm_assoc Fo Go (Gc ++ (Ga ++ M)))
  have hP := HP.out wo hS.appR.appR.appR.appR
  have HC := hid (HASK.out wo (Go ++ (Gc ++ (Ga ++ M))) Fo ovo 1 hV hU hS hP)
  clear hV hU hR hT hL hS hG hP
  go_wp2_with (go_at_call 13; refine HC.out.mono ?_; rintro e wp ⟨vp, ovp, Fp, Tp, Rp, rfl, hU, hV, hR, hT, hL, hS⟩)
  obtain ⟨adp, cap, rfl, -⟩ := hR.form
  obtain ⟨Gp, hG⟩ : ∃ G, G = Rp ++ frags Tp := ⟨_, rfl⟩
  rw [← hG] at hS
  have HXp : Hid (∀ W X, St W0 W (Gp ++ X) → GroupsOf W (.slice adp Tp.length cap) (refGroups S L 1)) := hid (fun W X h => by
    rw [hG, List.append_assoc] at h
    rw [← hL]
    exact groupsOf_rows hR hT h)
  have hS := hS.perm (List.perm_append_comm_assoc Fp Gp (Go ++ (Gc ++ (Ga ++ M))))
  have hP := HP.out wp hS.appR.appR.appR.appR.appR
  have HC := hid (HASK.out wp (Gp ++ (Go ++ (Gc ++ (Ga ++ M)))) Fp ovp least hV hU hS hP)
  clear hV hU hR hT hL hS hG hP
  go_wp2_with (go_at_call 13; refine HC.out.mono ?_; rintro e wz ⟨vz, ovz, Fz, Tz, Rz, rfl, hU, hV, hR, hT, hL, hS⟩)
  obtain ⟨adz, caz, rfl, -⟩ := hR.form
  obtain ⟨Gz, hG⟩ : ∃ G, G = Rz ++ frags Tz := ⟨_, rfl⟩
  rw [← hG] at hS
  have HXz : Hid (∀ W X, St W0 W (Gz ++ X) → GroupsOf W (.slice adz Tz.length caz) (refGroups S L least)) := hid (fun W X h => by
    rw [hG, List.append_assoc] at h
    rw [← hL]
    exact groupsOf_rows hR hT h)
  have hS := hS.perm (List.perm_append_comm_assoc Fz Gz (Gp ++ (Go ++ (Gc ++ (Ga ++ M)))))
  have HS := hid hS; have HU := hid hU; have HV := hid hV
  clear hV hU hR hT hL hS hG HC
  have HQ := hid (groups_c wz _ _ _ (HXa.out wz _ (HS.out).appR.appR.appR.appR.appR) (HW.out wz (HS.out).appR.appR.appR.appR.appR.appR))
  go_wp2_with (go_at_call_of 7 (Value.slice ada Ta.length caa); refine HQ.out.mono ?_; rintro e wq0 ⟨rfl, m0, hm⟩; replace hm := hid hm)
  have HS0 : Hid (St W0 wq0 (Fz ++ (Gz ++ (Gp ++ (Go ++ (Gc ++ (Ga ++ M))))))) := hid (by rw [hm.out]; exact (HS.out).drewN m0)
  clear hm HQ
  have HQ := hid (groups_c wq0 _ _ _ (HXc.out wq0 _ (HS0.out).appR.appR.appR.appR) (HW.out wq0 (HS0.out).appR.appR.appR.appR.appR.appR))
  go_wp2_with (go_at_call_of 7 (Value.slice adc Tc.length cac); refine HQ.out.mono ?_; rintro e wq1 ⟨rfl, m1, hm⟩; replace hm := hid hm)
  have HS1 : Hid (St W0 wq1 (Fz ++ (Gz ++ (Gp ++ (Go ++ (Gc ++ (Ga ++ M))))))) := hid (by rw [hm.out]; exact (HS0.out).drewN m1)
  clear hm HQ
  have HQ := hid (groups_c wq1 _ _ _ (HXo.out wq1 _ (HS1.out).appR.appR.appR) (HO.out wq1 (HS1.out).appR.appR.appR.appR.appR.appR))
  go_wp2_with (go_at_call_of 7 (Value.slice ado To.length cao); refine HQ.out.mono ?_; rintro e wq2 ⟨rfl, m2, hm⟩; replace hm := hid hm)
  have HS2 : Hid (St W0 wq2 (Fz ++ (Gz ++ (Gp ++ (Go ++ (Gc ++ (Ga ++ M))))))) := hid (by rw [hm.out]; exact (HS1.out).drewN m2)
  clear hm HQ
  have HQ := hid (groups_c wq2 _ _ _ (HXp.out wq2 _ (HS2.out).appR.appR) (HO.out wq2 (HS2.out).appR.appR.appR.appR.appR.appR))
  go_wp2_with (go_at_call_of 7 (Value.slice adp Tp.length cap); refine HQ.out.mono ?_; rintro e wq3 ⟨rfl, m3, hm⟩; replace hm := hid hm)
  have HS3 : Hid (St W0 wq3 (Fz ++ (Gz ++ (Gp ++ (Go ++ (Gc ++ (Ga ++ M))))))) := hid (by rw [hm.out]; exact (HS2.out).drewN m3)
  clear hm HQ
  have HQ := hid (groups_c wq3 _ _ _ (HXz.out wq3 _ (HS3.out).appR) (HW.out wq3 (HS3.out).appR.appR.appR.appR.appR.appR))
  go_wp2_with (go_at_call_of 7 (Value.slice adz Tz.length caz); refine HQ.out.mono ?_; rintro e wq4 ⟨rfl, m4, hm⟩; replace hm := hid hm)
  have HS4 : Hid (St W0 wq4 (Fz ++ (Gz ++ (Gp ++ (Go ++ (Gc ++ (Ga ++ M))))))) := hid (by rw [hm.out]; exact (HS3.out).drewN m4)
  clear hm HQ
  have hSl : S.length = ids.length := ((List.perm_ext_iff_of_nodup (rising_nodup hSr) hnd).2 hSm).length_eq
  have hb1 : Ta.length ≤ 100000000 := by
    have h1 := refGroups_len S L least
    have h2 := congrArg List.length HLa.out
    simp only [lists, List.length_map] at h2
    omega
  have hb2 : ∀ r ∈ Ta, r.g.length ≤ 100000000 := by
    intro r hr
    have h1 : r.g ∈ lists Ta := List.mem_map.2 ⟨r, hr, rfl⟩
    rw [HLa.out] at h1
    have h2 := refGroups_row h1
    omega
  have hsp := spoil_c W0 wq4 (Fz ++ (Gz ++ (Gp ++ (Go ++ (Gc ++ M))))) Ra (.slice ada Ta.length caa) Ta HRa.out HTa.out (by rw [← HGa.out]; exact HS4.out.perm (ahead5 _ _ _ _ _ _ _)) hb1 hb2
  have HSP := hid hsp
  clear hsp hb1 hb2 hSl
  go_wp2_with (go_at_call 21; refine HSP.out.mono ?_; rintro e wr ⟨rfl, Fs, hs⟩)
  have HS5 := hid hs
  clear hs HSP
  have HQ := hid (groups_c wr _ _ _ (HXc.out wr _ (HS5.out).appR.appR.appR.appR.appR) (HW.out wr (HS5.out).appR.appR.appR.appR.appR.appR))
  go_wp2_with (go_at_call_of 7 (Value.slice adc Tc.length cac); refine HQ.out.mono ?_; rintro e wq5 ⟨rfl, m5, hm⟩; replace hm := hid hm)
  have HS6 : Hid (St W0 wq5 (Fs ++ (Fz ++ (Gz ++ (Gp ++ (Go ++ (Gc ++ M))))))) := hid (by rw [hm.out]; exact (HS5.out).drewN m5)
  clear hm HQ
  have HQ := hid (groups_c wq5 _ _ _ (HXo.out wq5 _ (HS6.out).appR.appR.appR.appR) (HO.out wq5 (HS6.out).appR.appR.appR.appR.appR.appR))
  go_wp2_with (go_at_call_of 7 (Value.slice ado To.length cao); refine HQ.out.mono ?_; rintro e wq6 ⟨rfl, m6, hm⟩; replace hm := hid hm)
  have HS7 : Hid (St W0 wq6 (Fs ++ (Fz ++ (Gz ++ (Gp ++ (Go ++ (Gc ++ M))))))) := hid (by rw [hm.out]; exact (HS6.out).drewN m6)
  clear hm HQ
  have HQ := hid (groups_c wq6 _ _ _ (HXp.out wq6 _ (HS7.out).appR.appR.appR) (HO.out wq6 (HS7.out).appR.appR.appR.appR.appR.appR))
  go_wp2_with (go_at_call_of 7 (Value.slice adp Tp.length cap); refine HQ.out.mono ?_; rintro e wq7 ⟨rfl, m7, hm⟩; replace hm := hid hm)
  have HS8 : Hid (St W0 wq7 (Fs ++ (Fz ++ (Gz ++ (Gp ++ (Go ++ (Gc ++ M))))))) := hid (by rw [hm.out]; exact (HS7.out).drewN m7)
  clear hm HQ
  have HQ := hid (groups_c wq7 _ _ _ (HXz.out wq7 _ (HS8.out).appR.appR) (HW.out wq7 (HS8.out).appR.appR.appR.appR.appR.appR))
  go_wp2_with (go_at_call_of 7 (Value.slice adz Tz.length caz); refine HQ.out.mono ?_; rintro e wq8 ⟨rfl, m8, hm⟩; replace hm := hid hm)
  have HS9 : Hid (St W0 wq8 (Fs ++ (Fz ++ (Gz ++ (Gp ++ (Go ++ (Gc ++ M))))))) := hid (by rw [hm.out]; exact (HS8.out).drewN m8)
  clear hm HQ
  have hP := HP.out wq8 (HS9.out).appR.appR.appR.appR.appR.appR
  have HC := hid (HASK.out wq8 (Fs ++ (Gz ++ (Gp ++ (Go ++ (Gc ++ M))))) Fz ovz least HV.out HU.out ((HS9.out).perm (List.perm_append_comm_assoc _ _ _)) hP)
  clear hP
  go_wp2_with (go_at_call 13; refine HC.out.mono ?_; rintro e wy ⟨vy, ovy, Fy, Ty, Ry, rfl, hU, hV, hR, hT, hL, hS⟩)
  obtain ⟨ady, cay, rfl, -⟩ := hR.form
  have hgy : GroupsOf wy (.slice ady Ty.length cay) (refGroups S L least) := by
    have h := hS
    rw [List.append_assoc] at h
    rw [← hL]
    exact groupsOf_rows hR hT h
  have hE : St W0 wy (Fy ++ M) := hS.appR.sub (List.Sublist.append (List.Sublist.refl _) (by
    refine List.Sublist.trans ?_ (List.sublist_append_right Fs _)
    refine List.Sublist.trans ?_ (List.sublist_append_right Gz _)
    refine List.Sublist.trans ?_ (List.sublist_append_right Gp _)
    refine List.Sublist.trans ?_ (List.sublist_append_right Go _)
    exact List.sublist_append_right Gc M))
  have HQ := hid (groups_c wy _ _ _ hgy (HW.out wy hE.appR))
  have HE := hid (And.intro hU (And.intro hV hE))
  clear hU hV hR hT hL hS hgy hE HC
  go_wp2_with (go_at_call_of 7 (Value.slice ady Ty.length cay); refine HQ.out.mono ?_; rintro e we ⟨rfl, me, hm⟩; replace hm := hid hm)
  have HF : Hid (PartPost W0 M (.pointer (some ⟨bu, 0, none⟩)) ids Rf h (.returned (.bool true)) we) := hid ⟨rfl, ovy, Fy, HE.out.2.1, HE.out.1, by rw [hm.out]; exact HE.out.2.2.drewN me⟩
  clear HE hm HQ
  go_wp2_with fail
  go_ret
  exact HF.out
end Go.Proofs.Ytgohdcegplbkjaa
