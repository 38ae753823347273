/- The walks of few, some and clean (kind by kind; the kinds are printed by wip/tools/gen_clean.py). -/
import Derived.Test.YtijlfggficjamaaDoorPlayData
import Derived.Test.YtijlfggficjamaaDoorPlaySpec
import Derived.Test.YtijlfggficjamaaDoorSt
import Derived.IntWalk
import Derived.Deep.DeepCutAuto
import Derived.Deep.CutRange
namespace Go.Proofs.YtijlfggficjamaaDoor
set_option linter.unusedVariables false
set_option linter.unusedSimpArgs false
open Go Go.RowKit
open Go.Lib (hid)

theorem St.three {W0 W : World} {A B : Frag} {x y z : Nat × Obj} (h : St W0 W (A ++ x :: y :: z :: B)) : St W0 W (x :: y :: z :: (A ++ B)) := h.perm (by
  have h1 : (A ++ x :: y :: z :: B).Perm (x :: (A ++ y :: z :: B)) := List.perm_middle
  have h2 : (A ++ y :: z :: B).Perm (y :: (A ++ z :: B)) := List.perm_middle
  have h3 : (A ++ z :: B).Perm (z :: (A ++ B)) := List.perm_middle
  exact (h1.trans ((h2.trans (h3.cons y)).cons x)).symm)

def fewM (l : List Int) (k : Nat) : List Int := (List.range k).map fun i => l.getD i 0
def someM (l : List ByteArray) (k : Nat) : List ByteArray := (List.range k).map fun i => l.getD i ByteArray.empty
theorem fewM_len (l : List Int) (k : Nat) : (fewM l k).length = k := by simp [fewM]
theorem someM_len (l : List ByteArray) (k : Nat) : (someM l k).length = k := by simp [someM]
theorem fewM_succ (l : List Int) (k : Nat) : fewM l (k + 1) = fewM l k ++ [l.getD k 0] := by simp [fewM, List.range_succ]
theorem someM_succ (l : List ByteArray) (k : Nat) : someM l (k + 1) = someM l k ++ [l.getD k ByteArray.empty] := by simp [someM, List.range_succ]
def cleanK (k : Int) : Nat := if k < 1 ∨ 23 < k then 8 else k.toNat
/-- a step of a kind from 1 to 23 that has just what its kind names -/
def cleanM (s : StepM) : StepM :=
  let r := rowOf (cleanK s.kind)
  if r.o then ⟨cleanK s.kind, [], [], s.w, s.c, s.m⟩
  else if r.a then ⟨cleanK s.kind, fewM s.ns (s.ss.length * r.n), s.ss, 0, 0, 0⟩
  else ⟨cleanK s.kind, fewM s.ns r.n, someM s.ss r.s, 0, 0, 0⟩
theorem ints_snoc (l : List Int) (x : Int) : ints l ++ [.int .i64 x] = ints (l ++ [x]) := by simp [ints]
theorem strs_snoc (l : List ByteArray) (x : ByteArray) : strs l ++ [.string x] = strs (l ++ [x]) := by simp [strs]
theorem few_info : (Tryd.prog.info? 3).map (fun i => (i.zero, i.size, i.bytes)) = some (some (.int .i64 0), 1, 8) := by kernel_rfl
theorem some_info : (Tryd.prog.info? 9).map (fun i => (i.zero, i.size, i.bytes)) = some (some (.string ⟨#[]⟩), 1, 16) := by kernel_rfl
theorem parts3 {P : Program} {t : TypeId} {z : Value} {a b : Nat} (h : (P.info? t).map (fun i => (i.zero, i.size, i.bytes)) = some (some z, a, b)) : ∃ i, P.info? t = some i ∧ i.zero = some z ∧ i.size = a ∧ i.bytes = b := by
  cases hi : P.info? t with
  | none => rw [hi] at h; cases h
  | some i =>
    rw [hi] at h
    simp only [Option.map_some, Option.some.injEq, Prod.mk.injEq] at h
    exact ⟨i, rfl, h.1, h.2.1, h.2.2⟩

/-- a nil list has no room -/
def VNil (v : Value) : Prop := ∀ n c, v = .slice none n c → n = 0 ∧ c = 0
/-- the slice v reads l: W0's own, or one that owns a part of M -/
def RowIn (W0 : World) (M : Frag) (v : Value) (l : List Value) : Prop :=
  (RowOf W0 v l ∧ VNil v) ∨ ∃ e n F, Rw e 1 v n l F ∧ ∀ x ∈ F, x ∈ M
theorem RowIn.mono {W0 : World} {M M' : Frag} {v : Value} {l : List Value} (h : RowIn W0 M v l) (hm : ∀ x ∈ M, x ∈ M') : RowIn W0 M' v l := by
  rcases h with h | ⟨e, n, F, h1, h2⟩
  · exact .inl h
  · exact .inr ⟨e, n, F, h1, fun x hx => hm x (h2 x hx)⟩
theorem RowIn.nil (W0 : World) (M : Frag) : RowIn W0 M (.slice none 0 0) [] := .inr ⟨0, 0, [], Rw.nil _ _, by simp⟩
theorem RowIn.vnil {W0 : World} {M : Frag} {v : Value} {l : List Value} (h : RowIn W0 M v l) : VNil v := by
  rcases h with h | ⟨e, n, F, h1, h2⟩
  · exact h.2
  · intro k c hv
    rcases h1.2 with ⟨rfl, _⟩ | ⟨g, cap, cur, rfl, _⟩
    · cases hv; exact ⟨rfl, rfl⟩
    · cases hv
theorem RowIn.rowOf {W0 W : World} {M : Frag} {v : Value} {l : List Value} (h : RowIn W0 M v l) (hS : St W0 W M) : RowOf W v l := by
  rcases h with h | ⟨e, n, F, h1, h2⟩
  · exact h.1.below hS.below (Nat.le_refl _)
  · obtain ⟨hl, h1⟩ := h1
    rw [Nat.mul_one] at hl
    rcases h1 with ⟨rfl, rfl, rfl⟩ | ⟨g, cap, cur, rfl, rfl, h3, h4, h5, h6⟩
    · rw [List.length_eq_zero_iff] at hl; subst hl; exact RowOf.nil W
    · refine ⟨some ⟨g, 0, none⟩, cap, by rw [hl], by omega, h4, fun _ => ⟨g, 0, rfl, fun i x hx => ?_⟩⟩
      have hil := (List.getElem?_eq_some_iff.1 hx).1
      rw [Nat.zero_add, hS.cell (h2 _ List.mem_cons_self)]
      rw [← h6, Nat.mul_one, List.getElem?_take_of_lt (by omega)] at hx
      simpa using hx
/-- a step's cells, likewise -/
def StepIn (W0 : World) (M : Frag) (cs : List Value) (s : StepM) : Prop :=
  ∃ nv sv, cs = [.int .i64 s.kind, nv, sv, .int .i64 s.w, .int .i64 s.c, .int .i64 s.m] ∧ RowIn W0 M nv (ints s.ns) ∧ RowIn W0 M sv (strs s.ss)
theorem StepIn.mono {W0 : World} {M M' : Frag} {cs : List Value} {s : StepM} (h : StepIn W0 M cs s) (hm : ∀ x ∈ M, x ∈ M') : StepIn W0 M' cs s := by
  obtain ⟨nv, sv, e, h1, h2⟩ := h
  exact ⟨nv, sv, e, h1.mono hm, h2.mono hm⟩
def CleanPost (W0 w : World) (s : StepM) (e : Ending) (w' : World) : Prop :=
  ∃ cs M, e = .returned (.agg cs.toArray) ∧ StepIn W0 M cs (cleanM s) ∧ St w w' M

set_option maxRecDepth 100000 in
set_option maxHeartbeats 1000000 in
theorem few_c (w : World) (v : Value) (l : List Int) (n : Nat) (hv : RowOf w v (ints l)) (hn : n ≤ 1000000000) :
    Calls Tryd.prog 31 #[v, .int .i64 n] w fun e w' => ∃ v' F, e = .returned v' ∧ Rw 3 1 v' n (ints (fewM l n)) F ∧ St w w' F := by
  obtain ⟨i0, hi, hz0, hz1, hz2⟩ := parts3 few_info
  obtain ⟨ad, cap, rfl, h1, h2, h3⟩ := hv
  unfold maxLen at h2
  rw [ints_len] at h1 ⊢
  have HC : Hid (∀ k, k < l.length → ∃ b o, ad = some ⟨b, o, none⟩ ∧ w.cell? ⟨b, o + k, none⟩ = some (.int .i64 (l.getD k 0))) := hid (by
    intro k hk
    obtain ⟨b, o, e, hc⟩ := h3 (by intro e; have := ints_len l; rw [e] at this; simp at this; omega)
    exact ⟨b, o, e, hc k _ (ints_get l k hk)⟩)
  clear h3
  go_enter Tryd.func31, Tryd.ntmps31
  go_wp2_with fail
  go_loopw [5, 6] (fun o i wr => ∃ (k : Nat) (F : Frag) (lv : Value), lv = o ∧ i = .int .i64 k ∧ k ≤ n ∧ Rw 3 1 lv k (ints (fewM l k)) F ∧ St w wr F) (fun _ i _ => n - (intOf i).toNat)
  case atStart => exact ⟨0, _, _, rfl, rfl, Nat.zero_le _, Rw.lit 3 1 0 w.heap.size #[] rfl (by unfold maxLen; omega), (St.refl w).alloc _⟩
  case round =>
    obtain ⟨k, F, lv, rfl, rfl, hk, hR, hS⟩ := hrel
    by_cases hlt : k < n
    · have HX : Hid (ints (fewM l k) ++ [.int .i64 (l.getD k 0)] = ints (fewM l (k + 1))) := hid (by rw [ints_snoc, fewM_succ])
      by_cases hl : k < l.length
      · obtain ⟨b, o, rfl, hc⟩ := HC.out k hl
        have hc' := hS.old hc
        obtain ⟨x, hx⟩ : ∃ x, x = l.getD k 0 := ⟨_, rfl⟩
        rw [← hx] at hc' HX
        have HS1 : Hid (St w wr (F ++ [])) := hid (by rw [List.append_nil]; exact hS)
        have HR := hid hR
        clear hS hR hc hx
        go_wp2_with (at_builtin; refine append_st (by rfl) _ _ 27 (by rfl) 3 i0 (.int .i64 0) 1 8 Tryd.underlying27 hi hz0 hz1 hz2 (by rfl) (by decide) lv k (ints (fewM l k)) F [] (by rfl) HR.out HS1.out 1 wr.heap.size [.int .i64 x] (by rfl) (by rfl) (by rfl) (by intro u hu; simp at hu; subst hu; rfl) (by unfold maxLen; omega) (by omega) ?_)
        intro v' w2 F' hR' hS'
        rw [HX.out] at hR'
        have hS' : St w w2 F' := by simpa using hS'
        have HR' := hid hR'; have HS' := hid hS'
        clear hR' hS'
        go_wp2_with fail
        exact ⟨⟨k + 1, F', _, rfl, by go_num, by omega, HR'.out, HS'.out⟩, by simp [intOf]; omega⟩
      · have hx0 : l.getD k 0 = 0 := getD_ge l k 0 (by omega)
        rw [hx0] at HX
        have HS1 : Hid (St w wr (F ++ [])) := hid (by rw [List.append_nil]; exact hS)
        have HR := hid hR
        clear hS hR hx0
        go_wp2_with (at_builtin; refine append_st (by rfl) _ _ 27 (by rfl) 3 i0 (.int .i64 0) 1 8 Tryd.underlying27 hi hz0 hz1 hz2 (by rfl) (by decide) lv k (ints (fewM l k)) F [] (by rfl) HR.out HS1.out 1 wr.heap.size [.int .i64 0] (by rfl) (by rfl) (by rfl) (by intro u hu; simp at hu; subst hu; rfl) (by unfold maxLen; omega) (by omega) ?_)
        intro v' w2 F' hR' hS'
        rw [HX.out] at hR'
        have hS' : St w w2 F' := by simpa using hS'
        have HR' := hid hR'; have HS' := hid hS'
        clear hR' hS'
        go_wp2_with fail
        exact ⟨⟨k + 1, F', _, rfl, by go_num, by omega, HR'.out, HS'.out⟩, by simp [intOf]; omega⟩
    · have hkn : k = n := by omega
      subst hkn
      have HR := hid hR; have HS := hid hS
      clear hR hS
      go_wp2_with fail
      go_ret
      exact ⟨_, F, rfl, HR.out, HS.out⟩

set_option maxRecDepth 100000 in
set_option maxHeartbeats 1000000 in
theorem some_c (w : World) (v : Value) (l : List ByteArray) (n : Nat) (hv : RowOf w v (strs l)) (hn : n ≤ 1000000000) :
    Calls Tryd.prog 32 #[v, .int .i64 n] w fun e w' => ∃ v' F, e = .returned v' ∧ Rw 9 1 v' n (strs (someM l n)) F ∧ St w w' F := by
  obtain ⟨i0, hi, hz0, hz1, hz2⟩ := parts3 some_info
  obtain ⟨ad, cap, rfl, h1, h2, h3⟩ := hv
  unfold maxLen at h2
  rw [strs_len] at h1 ⊢
  have HC : Hid (∀ k, k < l.length → ∃ b o, ad = some ⟨b, o, none⟩ ∧ w.cell? ⟨b, o + k, none⟩ = some (.string (l.getD k ByteArray.empty))) := hid (by
    intro k hk
    obtain ⟨b, o, e, hc⟩ := h3 (by intro e; have := strs_len l; rw [e] at this; simp at this; omega)
    exact ⟨b, o, e, hc k _ (strs_get l k hk)⟩)
  clear h3
  go_enter Tryd.func32, Tryd.ntmps32
  go_wp2_with fail
  go_loopw [5, 6] (fun o i wr => ∃ (k : Nat) (F : Frag) (lv : Value), lv = o ∧ i = .int .i64 k ∧ k ≤ n ∧ Rw 9 1 lv k (strs (someM l k)) F ∧ St w wr F) (fun _ i _ => n - (intOf i).toNat)
  case atStart => exact ⟨0, _, _, rfl, rfl, Nat.zero_le _, Rw.lit 9 1 0 w.heap.size #[] rfl (by unfold maxLen; omega), (St.refl w).alloc _⟩
  case round =>
    obtain ⟨k, F, lv, rfl, rfl, hk, hR, hS⟩ := hrel
    by_cases hlt : k < n
    · have HX : Hid (strs (someM l k) ++ [.string (l.getD k ByteArray.empty)] = strs (someM l (k + 1))) := hid (by rw [strs_snoc, someM_succ])
      by_cases hl : k < l.length
      · obtain ⟨b, o, rfl, hc⟩ := HC.out k hl
        have hc' := hS.old hc
        obtain ⟨x, hx⟩ : ∃ x, x = l.getD k ByteArray.empty := ⟨_, rfl⟩
        rw [← hx] at hc' HX
        have HS1 : Hid (St w wr (F ++ [])) := hid (by rw [List.append_nil]; exact hS)
        have HR := hid hR
        clear hS hR hc hx
        go_wp2_with (at_builtin; refine append_st (by rfl) _ _ 28 (by rfl) 9 i0 (.string ⟨#[]⟩) 1 16 Tryd.underlying28 hi hz0 hz1 hz2 (by rfl) (by decide) lv k (strs (someM l k)) F [] (by rfl) HR.out HS1.out 1 wr.heap.size [.string x] (by rfl) (by rfl) (by rfl) (by intro u hu; simp at hu; subst hu; rfl) (by unfold maxLen; omega) (by omega) ?_)
        intro v' w2 F' hR' hS'
        rw [HX.out] at hR'
        have hS' : St w w2 F' := by simpa using hS'
        have HR' := hid hR'; have HS' := hid hS'
        clear hR' hS'
        go_wp2_with fail
        exact ⟨⟨k + 1, F', _, rfl, by go_num, by omega, HR'.out, HS'.out⟩, by simp [intOf]; omega⟩
      · have hx0 : l.getD k ByteArray.empty = ⟨#[]⟩ := getD_ge l k _ (by omega)
        rw [hx0] at HX
        have HS1 : Hid (St w wr (F ++ [])) := hid (by rw [List.append_nil]; exact hS)
        have HR := hid hR
        clear hS hR hx0
        go_wp2_with (at_builtin; refine append_st (by rfl) _ _ 28 (by rfl) 9 i0 (.string ⟨#[]⟩) 1 16 Tryd.underlying28 hi hz0 hz1 hz2 (by rfl) (by decide) lv k (strs (someM l k)) F [] (by rfl) HR.out HS1.out 1 wr.heap.size [.string ⟨#[]⟩] (by rfl) (by rfl) (by rfl) (by intro u hu; simp at hu; subst hu; rfl) (by unfold maxLen; omega) (by omega) ?_)
        intro v' w2 F' hR' hS'
        rw [HX.out] at hR'
        have hS' : St w w2 F' := by simpa using hS'
        have HR' := hid hR'; have HS' := hid hS'
        clear hR' hS'
        go_wp2_with fail
        exact ⟨⟨k + 1, F', _, rfl, by go_num, by omega, HR'.out, HS'.out⟩, by simp [intOf]; omega⟩
    · have hkn : k = n := by omega
      subst hkn
      have HR := hid hR; have HS := hid hS
      clear hR hS
      go_wp2_with fail
      go_ret
      exact ⟨_, F, rfl, HR.out, HS.out⟩
end Go.Proofs.YtijlfggficjamaaDoor

namespace Go.Proofs.YtijlfggficjamaaDoor
set_option linter.unusedVariables false
set_option linter.unusedSimpArgs false
open Go Go.RowKit
open Go.Lib (hid)

set_option maxRecDepth 100000 in
set_option maxHeartbeats 1000000 in
theorem clean_1 (W0 w : World) (M0 : Frag) (hS : St W0 w M0) (nv sv : Value) (ns : List Int) (ss : List ByteArray) (sw sc sm : Int) (hn : RowOf W0 nv (ints ns)) (hs : RowOf W0 sv (strs ss)) (vn : VNil nv) (vs : VNil sv) (hl : ss.length ≤ 100000000) :
    Calls Tryd.prog 16 #[.agg #[.int .i64 1, nv, sv, .int .i64 sw, .int .i64 sc, .int .i64 sm]] w (CleanPost W0 w ⟨1, ns, ss, sw, sc, sm⟩) := by
  have HN : Hid (∀ W M, St W0 W M → RowOf W nv (ints ns)) := hid fun W M h => hn.below h.below (Nat.le_refl _)
  have HSV : Hid (∀ W M, St W0 W M → RowOf W sv (strs ss)) := hid fun W M h => hs.below h.below (Nat.le_refl _)
  have HN0 := hid hn; have HS0 := hid hs; have HS := hid hS
  clear hn hs hS
  have hcm : cleanM ⟨1, ns, ss, sw, sc, sm⟩ = ⟨1, [], [], sw, sc, sm⟩ := by rfl
  unfold CleanPost
  rw [hcm]
  go_enter Tryd.func16, Tryd.ntmps16
  go_upto_region 31 with (fail)
  have hS := (((St.refl w).alloc (.cells #[.int .i64 1, nv, sv, .int .i64 sw, .int .i64 sc, .int .i64 sm] 32)).alloc (.cells #[.int .i64 0, .slice none 0 0, .slice none 0 0, .int .i64 0, .int .i64 0, .int .i64 0] 32)).alloc (.cells #[.int .i64 1, .slice none 0 0, .slice none 0 0, .int .i64 sw, .int .i64 sc, .int .i64 sm] 32)
  simp only [World.size_alloc] at hS
  refine hS.nameC ?_
  clear hS
  intro W hS
  have hr := hS.swap
  have x0 := hS.cellH 0; have x1 := hS.cellH 1; have x2 := hS.cellH 2; have x3 := hS.cellH 3; have x4 := hS.cellH 4; have x5 := hS.cellH 5
  simp only [List.getElem?_toArray, List.getElem?_cons_zero, List.getElem?_cons_succ] at x0 x1 x2 x3 x4 x5
  have y0 := hr.cellH 0
  have y1 := hr.cellH 1
  have y2 := hr.cellH 2
  have y3 := hr.cellH 3
  have y4 := hr.cellH 4
  have y5 := hr.cellH 5
  simp only [List.getElem?_toArray, List.getElem?_cons_zero, List.getElem?_cons_succ] at y0 y1 y2 y3 y4 y5
  have z0 := hr.freeH 0
  have z1 := hr.freeH 1
  have z2 := hr.freeH 2
  have z3 := hr.freeH 3
  have z4 := hr.freeH 4
  have z5 := hr.freeH 5
  clear hS
  go_wp2_with fail
  refine (hr.set6 _ _ _ _ _ _).nameB ?_
  clear hr x0 x1 x2 x3 x4 x5 y0 y1 y2 y3 y4 y5 z0 z1 z2 z3 z4 z5
  intro We hE
  have y0 := hE.cellH 0
  have y1 := hE.cellH 1
  have y2 := hE.cellH 2
  have y3 := hE.cellH 3
  have y4 := hE.cellH 4
  have y5 := hE.cellH 5
  simp only [List.getElem?_toArray, List.getElem?_cons_zero, List.getElem?_cons_succ] at y0 y1 y2 y3 y4 y5
  refine bodyPost_ret (v := .agg #[.int .i64 1, .slice none 0 0, .slice none 0 0, .int .i64 sw, .int .i64 sc, .int .i64 sm]) (by simp [results, Tryd.results16, go_sem, y0, y1, y2, y3, y4, y5]) rfl ?_
  exact ⟨[.int .i64 1, .slice none 0 0, .slice none 0 0, .int .i64 sw, .int .i64 sc, .int .i64 sm], [], rfl, ⟨_, _, rfl, RowIn.nil _ _, RowIn.nil _ _⟩, hE.tail.tail.tail⟩

set_option maxRecDepth 100000 in
set_option maxHeartbeats 1000000 in
theorem clean_2 (W0 w : World) (M0 : Frag) (hS : St W0 w M0) (nv sv : Value) (ns : List Int) (ss : List ByteArray) (sw sc sm : Int) (hn : RowOf W0 nv (ints ns)) (hs : RowOf W0 sv (strs ss)) (vn : VNil nv) (vs : VNil sv) (hl : ss.length ≤ 100000000) :
    Calls Tryd.prog 16 #[.agg #[.int .i64 2, nv, sv, .int .i64 sw, .int .i64 sc, .int .i64 sm]] w (CleanPost W0 w ⟨2, ns, ss, sw, sc, sm⟩) := by
  have HN : Hid (∀ W M, St W0 W M → RowOf W nv (ints ns)) := hid fun W M h => hn.below h.below (Nat.le_refl _)
  have HSV : Hid (∀ W M, St W0 W M → RowOf W sv (strs ss)) := hid fun W M h => hs.below h.below (Nat.le_refl _)
  have HN0 := hid hn; have HS0 := hid hs; have HS := hid hS
  clear hn hs hS
  have hcm : cleanM ⟨2, ns, ss, sw, sc, sm⟩ = ⟨2, [], [], 0, 0, 0⟩ := by rfl
  unfold CleanPost
  rw [hcm]
  go_enter Tryd.func16, Tryd.ntmps16
  go_upto_region 31 with (fail)
  have hS := (((St.refl w).alloc (.cells #[.int .i64 2, nv, sv, .int .i64 sw, .int .i64 sc, .int .i64 sm] 32)).alloc (.cells #[.int .i64 0, .slice none 0 0, .slice none 0 0, .int .i64 0, .int .i64 0, .int .i64 0] 32)).alloc (.cells #[.int .i64 2, .slice none 0 0, .slice none 0 0, .int .i64 0, .int .i64 0, .int .i64 0] 32)
  simp only [World.size_alloc] at hS
  refine hS.nameC ?_
  clear hS
  intro W hS
  have hr := hS.swap
  have x0 := hS.cellH 0; have x1 := hS.cellH 1; have x2 := hS.cellH 2; have x3 := hS.cellH 3; have x4 := hS.cellH 4; have x5 := hS.cellH 5
  simp only [List.getElem?_toArray, List.getElem?_cons_zero, List.getElem?_cons_succ] at x0 x1 x2 x3 x4 x5
  have y0 := hr.cellH 0
  have y1 := hr.cellH 1
  have y2 := hr.cellH 2
  have y3 := hr.cellH 3
  have y4 := hr.cellH 4
  have y5 := hr.cellH 5
  simp only [List.getElem?_toArray, List.getElem?_cons_zero, List.getElem?_cons_succ] at y0 y1 y2 y3 y4 y5
  have z0 := hr.freeH 0
  have z1 := hr.freeH 1
  have z2 := hr.freeH 2
  have z3 := hr.freeH 3
  have z4 := hr.freeH 4
  have z5 := hr.freeH 5
  clear hS
  go_wp2_with fail
  refine (hr.set6 _ _ _ _ _ _).nameB ?_
  clear hr x0 x1 x2 x3 x4 x5 y0 y1 y2 y3 y4 y5 z0 z1 z2 z3 z4 z5
  intro We hE
  have y0 := hE.cellH 0
  have y1 := hE.cellH 1
  have y2 := hE.cellH 2
  have y3 := hE.cellH 3
  have y4 := hE.cellH 4
  have y5 := hE.cellH 5
  simp only [List.getElem?_toArray, List.getElem?_cons_zero, List.getElem?_cons_succ] at y0 y1 y2 y3 y4 y5
  refine bodyPost_ret (v := .agg #[.int .i64 2, .slice none 0 0, .slice none 0 0, .int .i64 0, .int .i64 0, .int .i64 0]) (by simp [results, Tryd.results16, go_sem, y0, y1, y2, y3, y4, y5]) rfl ?_
  exact ⟨[.int .i64 2, .slice none 0 0, .slice none 0 0, .int .i64 0, .int .i64 0, .int .i64 0], [], rfl, ⟨_, _, rfl, RowIn.nil _ _, RowIn.nil _ _⟩, hE.tail.tail.tail⟩

set_option maxRecDepth 100000 in
set_option maxHeartbeats 1000000 in
theorem clean_3 (W0 w : World) (M0 : Frag) (hS : St W0 w M0) (nv sv : Value) (ns : List Int) (ss : List ByteArray) (sw sc sm : Int) (hn : RowOf W0 nv (ints ns)) (hs : RowOf W0 sv (strs ss)) (vn : VNil nv) (vs : VNil sv) (hl : ss.length ≤ 100000000) :
    Calls Tryd.prog 16 #[.agg #[.int .i64 3, nv, sv, .int .i64 sw, .int .i64 sc, .int .i64 sm]] w (CleanPost W0 w ⟨3, ns, ss, sw, sc, sm⟩) := by
  have HN : Hid (∀ W M, St W0 W M → RowOf W nv (ints ns)) := hid fun W M h => hn.below h.below (Nat.le_refl _)
  have HSV : Hid (∀ W M, St W0 W M → RowOf W sv (strs ss)) := hid fun W M h => hs.below h.below (Nat.le_refl _)
  have HN0 := hid hn; have HS0 := hid hs; have HS := hid hS
  clear hn hs hS
  have hcm : cleanM ⟨3, ns, ss, sw, sc, sm⟩ = ⟨3, (fewM ns 1), (someM ss 1), 0, 0, 0⟩ := by rfl
  unfold CleanPost
  rw [hcm]
  go_enter Tryd.func16, Tryd.ntmps16
  go_wp2_with fail
  have hS := (((St.refl w).alloc (.cells #[.int .i64 3, nv, sv, .int .i64 sw, .int .i64 sc, .int .i64 sm] 32)).alloc (.cells #[.int .i64 0, .slice none 0 0, .slice none 0 0, .int .i64 0, .int .i64 0, .int .i64 0] 32)).alloc (.cells #[.int .i64 3, .slice none 0 0, .slice none 0 0, .int .i64 0, .int .i64 0, .int .i64 0] 32)
  simp only [World.size_alloc] at hS
  have HC := few_c _ nv ns 1 (HN.out _ _ (HS.out.call hS)) (by omega)
  refine HC.mono ?_
  clear HC
  intro e w1 hp1
  obtain ⟨v1, F1, rfl, hR1, hS1⟩ := hp1
  obtain ⟨a1, c1, rfl, _⟩ := hR1.form
  have hS := (hS.call hS1).three
  have HR1 := hid hR1
  clear hR1 hS1
  simp only [List.append_nil] at hS
  have y1 := hS.cellH 1
  simp only [List.getElem?_toArray, List.getElem?_cons_zero, List.getElem?_cons_succ] at y1
  have z1 := hS.freeH 1
  go_upto_region 13 with (fail)
  refine (hS.set 1 _).nameC ?_
  clear hS y1 z1
  intro W1 hS
  simp only [List.setIfInBounds_toArray, List.set_cons_succ, List.set_cons_zero] at hS
  have s2 : W1.cell? ⟨w.heap.size, 2, none⟩ = some sv := hS.rd (List.mem_cons_of_mem _ (List.mem_cons_of_mem _ List.mem_cons_self)) rfl
  have HS1 := hid hS
  clear hS
  go_wp2_with fail
  have hS := HS1.out
  clear HS1
  have HC := some_c _ sv ss 1 (HSV.out _ _ (HS.out.call hS)) (by omega)
  refine HC.mono ?_
  clear HC s2
  intro e w2 hp1
  obtain ⟨v2, F2, rfl, hR2, hS2⟩ := hp1
  obtain ⟨a2, c2, rfl, _⟩ := hR2.form
  have hS := (hS.call hS2).three
  have HR2 := hid hR2
  clear hR2 hS2
  have y2 := hS.cellH 2
  simp only [List.getElem?_toArray, List.getElem?_cons_zero, List.getElem?_cons_succ] at y2
  have z2 := hS.freeH 2
  go_upto_region 31 with (fail)
  refine (hS.set 2 _).nameC ?_
  clear hS y2 z2
  intro W hS
  simp only [List.setIfInBounds_toArray, List.set_cons_succ, List.set_cons_zero] at hS
  have hr := hS.swap
  have x0 := hS.cellH 0; have x1 := hS.cellH 1; have x2 := hS.cellH 2; have x3 := hS.cellH 3; have x4 := hS.cellH 4; have x5 := hS.cellH 5
  simp only [List.getElem?_toArray, List.getElem?_cons_zero, List.getElem?_cons_succ] at x0 x1 x2 x3 x4 x5
  have y0 := hr.cellH 0
  have y1 := hr.cellH 1
  have y2 := hr.cellH 2
  have y3 := hr.cellH 3
  have y4 := hr.cellH 4
  have y5 := hr.cellH 5
  simp only [List.getElem?_toArray, List.getElem?_cons_zero, List.getElem?_cons_succ] at y0 y1 y2 y3 y4 y5
  have z0 := hr.freeH 0
  have z1 := hr.freeH 1
  have z2 := hr.freeH 2
  have z3 := hr.freeH 3
  have z4 := hr.freeH 4
  have z5 := hr.freeH 5
  clear hS
  go_wp2_with fail
  refine (hr.set6 _ _ _ _ _ _).nameB ?_
  clear hr x0 x1 x2 x3 x4 x5 y0 y1 y2 y3 y4 y5 z0 z1 z2 z3 z4 z5
  intro We hE
  have y0 := hE.cellH 0
  have y1 := hE.cellH 1
  have y2 := hE.cellH 2
  have y3 := hE.cellH 3
  have y4 := hE.cellH 4
  have y5 := hE.cellH 5
  simp only [List.getElem?_toArray, List.getElem?_cons_zero, List.getElem?_cons_succ] at y0 y1 y2 y3 y4 y5
  refine bodyPost_ret (v := .agg #[.int .i64 3, .slice a1 1 c1, .slice a2 1 c2, .int .i64 0, .int .i64 0, .int .i64 0]) (by simp [results, Tryd.results16, go_sem, y0, y1, y2, y3, y4, y5]) rfl ?_
  exact ⟨[.int .i64 3, .slice a1 1 c1, .slice a2 1 c2, .int .i64 0, .int .i64 0, .int .i64 0], F2 ++ F1, rfl, ⟨_, _, rfl, .inr ⟨_, _, F1, HR1.out, fun x hx => List.mem_append_right _ hx⟩, .inr ⟨_, _, F2, HR2.out, fun x hx => List.mem_append_left _ hx⟩⟩, hE.tail.tail.tail⟩

set_option maxRecDepth 100000 in
set_option maxHeartbeats 1000000 in
theorem clean_4 (W0 w : World) (M0 : Frag) (hS : St W0 w M0) (nv sv : Value) (ns : List Int) (ss : List ByteArray) (sw sc sm : Int) (hn : RowOf W0 nv (ints ns)) (hs : RowOf W0 sv (strs ss)) (vn : VNil nv) (vs : VNil sv) (hl : ss.length ≤ 100000000) :
    Calls Tryd.prog 16 #[.agg #[.int .i64 4, nv, sv, .int .i64 sw, .int .i64 sc, .int .i64 sm]] w (CleanPost W0 w ⟨4, ns, ss, sw, sc, sm⟩) := by
  have HN : Hid (∀ W M, St W0 W M → RowOf W nv (ints ns)) := hid fun W M h => hn.below h.below (Nat.le_refl _)
  have HSV : Hid (∀ W M, St W0 W M → RowOf W sv (strs ss)) := hid fun W M h => hs.below h.below (Nat.le_refl _)
  have HN0 := hid hn; have HS0 := hid hs; have HS := hid hS
  clear hn hs hS
  have hcm : cleanM ⟨4, ns, ss, sw, sc, sm⟩ = ⟨4, (fewM ns 1), [], 0, 0, 0⟩ := by rfl
  unfold CleanPost
  rw [hcm]
  go_enter Tryd.func16, Tryd.ntmps16
  go_wp2_with fail
  have hS := (((St.refl w).alloc (.cells #[.int .i64 4, nv, sv, .int .i64 sw, .int .i64 sc, .int .i64 sm] 32)).alloc (.cells #[.int .i64 0, .slice none 0 0, .slice none 0 0, .int .i64 0, .int .i64 0, .int .i64 0] 32)).alloc (.cells #[.int .i64 4, .slice none 0 0, .slice none 0 0, .int .i64 0, .int .i64 0, .int .i64 0] 32)
  simp only [World.size_alloc] at hS
  have HC := few_c _ nv ns 1 (HN.out _ _ (HS.out.call hS)) (by omega)
  refine HC.mono ?_
  clear HC
  intro e w1 hp1
  obtain ⟨v1, F1, rfl, hR1, hS1⟩ := hp1
  obtain ⟨a1, c1, rfl, _⟩ := hR1.form
  have hS := (hS.call hS1).three
  have HR1 := hid hR1
  clear hR1 hS1
  simp only [List.append_nil] at hS
  have y1 := hS.cellH 1
  simp only [List.getElem?_toArray, List.getElem?_cons_zero, List.getElem?_cons_succ] at y1
  have z1 := hS.freeH 1
  go_upto_region 31 with (fail)
  refine (hS.set 1 _).nameC ?_
  clear hS y1 z1
  intro W1 hS
  simp only [List.setIfInBounds_toArray, List.set_cons_succ, List.set_cons_zero] at hS
  have hr := hS.swap
  have x0 := hS.cellH 0; have x1 := hS.cellH 1; have x2 := hS.cellH 2; have x3 := hS.cellH 3; have x4 := hS.cellH 4; have x5 := hS.cellH 5
  simp only [List.getElem?_toArray, List.getElem?_cons_zero, List.getElem?_cons_succ] at x0 x1 x2 x3 x4 x5
  have y0 := hr.cellH 0
  have y1 := hr.cellH 1
  have y2 := hr.cellH 2
  have y3 := hr.cellH 3
  have y4 := hr.cellH 4
  have y5 := hr.cellH 5
  simp only [List.getElem?_toArray, List.getElem?_cons_zero, List.getElem?_cons_succ] at y0 y1 y2 y3 y4 y5
  have z0 := hr.freeH 0
  have z1 := hr.freeH 1
  have z2 := hr.freeH 2
  have z3 := hr.freeH 3
  have z4 := hr.freeH 4
  have z5 := hr.freeH 5
  clear hS
  go_wp2_with fail
  refine (hr.set6 _ _ _ _ _ _).nameB ?_
  clear hr x0 x1 x2 x3 x4 x5 y0 y1 y2 y3 y4 y5 z0 z1 z2 z3 z4 z5
  intro We hE
  have y0 := hE.cellH 0
  have y1 := hE.cellH 1
  have y2 := hE.cellH 2
  have y3 := hE.cellH 3
  have y4 := hE.cellH 4
  have y5 := hE.cellH 5
  simp only [List.getElem?_toArray, List.getElem?_cons_zero, List.getElem?_cons_succ] at y0 y1 y2 y3 y4 y5
  refine bodyPost_ret (v := .agg #[.int .i64 4, .slice a1 1 c1, .slice none 0 0, .int .i64 0, .int .i64 0, .int .i64 0]) (by simp [results, Tryd.results16, go_sem, y0, y1, y2, y3, y4, y5]) rfl ?_
  exact ⟨[.int .i64 4, .slice a1 1 c1, .slice none 0 0, .int .i64 0, .int .i64 0, .int .i64 0], F1, rfl, ⟨_, _, rfl, .inr ⟨_, _, F1, HR1.out, fun x hx => hx⟩, RowIn.nil _ _⟩, hE.tail.tail.tail⟩

set_option maxRecDepth 100000 in
set_option maxHeartbeats 1000000 in
theorem clean_5 (W0 w : World) (M0 : Frag) (hS : St W0 w M0) (nv sv : Value) (ns : List Int) (ss : List ByteArray) (sw sc sm : Int) (hn : RowOf W0 nv (ints ns)) (hs : RowOf W0 sv (strs ss)) (vn : VNil nv) (vs : VNil sv) (hl : ss.length ≤ 100000000) :
    Calls Tryd.prog 16 #[.agg #[.int .i64 5, nv, sv, .int .i64 sw, .int .i64 sc, .int .i64 sm]] w (CleanPost W0 w ⟨5, ns, ss, sw, sc, sm⟩) := by
  have HN : Hid (∀ W M, St W0 W M → RowOf W nv (ints ns)) := hid fun W M h => hn.below h.below (Nat.le_refl _)
  have HSV : Hid (∀ W M, St W0 W M → RowOf W sv (strs ss)) := hid fun W M h => hs.below h.below (Nat.le_refl _)
  have HN0 := hid hn; have HS0 := hid hs; have HS := hid hS
  clear hn hs hS
  have hcm : cleanM ⟨5, ns, ss, sw, sc, sm⟩ = ⟨5, (fewM ns 1), [], 0, 0, 0⟩ := by rfl
  unfold CleanPost
  rw [hcm]
  go_enter Tryd.func16, Tryd.ntmps16
  go_wp2_with fail
  have hS := (((St.refl w).alloc (.cells #[.int .i64 5, nv, sv, .int .i64 sw, .int .i64 sc, .int .i64 sm] 32)).alloc (.cells #[.int .i64 0, .slice none 0 0, .slice none 0 0, .int .i64 0, .int .i64 0, .int .i64 0] 32)).alloc (.cells #[.int .i64 5, .slice none 0 0, .slice none 0 0, .int .i64 0, .int .i64 0, .int .i64 0] 32)
  simp only [World.size_alloc] at hS
  have HC := few_c _ nv ns 1 (HN.out _ _ (HS.out.call hS)) (by omega)
  refine HC.mono ?_
  clear HC
  intro e w1 hp1
  obtain ⟨v1, F1, rfl, hR1, hS1⟩ := hp1
  obtain ⟨a1, c1, rfl, _⟩ := hR1.form
  have hS := (hS.call hS1).three
  have HR1 := hid hR1
  clear hR1 hS1
  simp only [List.append_nil] at hS
  have y1 := hS.cellH 1
  simp only [List.getElem?_toArray, List.getElem?_cons_zero, List.getElem?_cons_succ] at y1
  have z1 := hS.freeH 1
  go_upto_region 31 with (fail)
  refine (hS.set 1 _).nameC ?_
  clear hS y1 z1
  intro W1 hS
  simp only [List.setIfInBounds_toArray, List.set_cons_succ, List.set_cons_zero] at hS
  have hr := hS.swap
  have x0 := hS.cellH 0; have x1 := hS.cellH 1; have x2 := hS.cellH 2; have x3 := hS.cellH 3; have x4 := hS.cellH 4; have x5 := hS.cellH 5
  simp only [List.getElem?_toArray, List.getElem?_cons_zero, List.getElem?_cons_succ] at x0 x1 x2 x3 x4 x5
  have y0 := hr.cellH 0
  have y1 := hr.cellH 1
  have y2 := hr.cellH 2
  have y3 := hr.cellH 3
  have y4 := hr.cellH 4
  have y5 := hr.cellH 5
  simp only [List.getElem?_toArray, List.getElem?_cons_zero, List.getElem?_cons_succ] at y0 y1 y2 y3 y4 y5
  have z0 := hr.freeH 0
  have z1 := hr.freeH 1
  have z2 := hr.freeH 2
  have z3 := hr.freeH 3
  have z4 := hr.freeH 4
  have z5 := hr.freeH 5
  clear hS
  go_wp2_with fail
  refine (hr.set6 _ _ _ _ _ _).nameB ?_
  clear hr x0 x1 x2 x3 x4 x5 y0 y1 y2 y3 y4 y5 z0 z1 z2 z3 z4 z5
  intro We hE
  have y0 := hE.cellH 0
  have y1 := hE.cellH 1
  have y2 := hE.cellH 2
  have y3 := hE.cellH 3
  have y4 := hE.cellH 4
  have y5 := hE.cellH 5
  simp only [List.getElem?_toArray, List.getElem?_cons_zero, List.getElem?_cons_succ] at y0 y1 y2 y3 y4 y5
  refine bodyPost_ret (v := .agg #[.int .i64 5, .slice a1 1 c1, .slice none 0 0, .int .i64 0, .int .i64 0, .int .i64 0]) (by simp [results, Tryd.results16, go_sem, y0, y1, y2, y3, y4, y5]) rfl ?_
  exact ⟨[.int .i64 5, .slice a1 1 c1, .slice none 0 0, .int .i64 0, .int .i64 0, .int .i64 0], F1, rfl, ⟨_, _, rfl, .inr ⟨_, _, F1, HR1.out, fun x hx => hx⟩, RowIn.nil _ _⟩, hE.tail.tail.tail⟩

set_option maxRecDepth 100000 in
set_option maxHeartbeats 1000000 in
theorem clean_6 (W0 w : World) (M0 : Frag) (hS : St W0 w M0) (nv sv : Value) (ns : List Int) (ss : List ByteArray) (sw sc sm : Int) (hn : RowOf W0 nv (ints ns)) (hs : RowOf W0 sv (strs ss)) (vn : VNil nv) (vs : VNil sv) (hl : ss.length ≤ 100000000) :
    Calls Tryd.prog 16 #[.agg #[.int .i64 6, nv, sv, .int .i64 sw, .int .i64 sc, .int .i64 sm]] w (CleanPost W0 w ⟨6, ns, ss, sw, sc, sm⟩) := by
  have HN : Hid (∀ W M, St W0 W M → RowOf W nv (ints ns)) := hid fun W M h => hn.below h.below (Nat.le_refl _)
  have HSV : Hid (∀ W M, St W0 W M → RowOf W sv (strs ss)) := hid fun W M h => hs.below h.below (Nat.le_refl _)
  have HN0 := hid hn; have HS0 := hid hs; have HS := hid hS
  clear hn hs hS
  have hcm : cleanM ⟨6, ns, ss, sw, sc, sm⟩ = ⟨6, (fewM ns 1), (someM ss 1), 0, 0, 0⟩ := by rfl
  unfold CleanPost
  rw [hcm]
  go_enter Tryd.func16, Tryd.ntmps16
  go_wp2_with fail
  have hS := (((St.refl w).alloc (.cells #[.int .i64 6, nv, sv, .int .i64 sw, .int .i64 sc, .int .i64 sm] 32)).alloc (.cells #[.int .i64 0, .slice none 0 0, .slice none 0 0, .int .i64 0, .int .i64 0, .int .i64 0] 32)).alloc (.cells #[.int .i64 6, .slice none 0 0, .slice none 0 0, .int .i64 0, .int .i64 0, .int .i64 0] 32)
  simp only [World.size_alloc] at hS
  have HC := few_c _ nv ns 1 (HN.out _ _ (HS.out.call hS)) (by omega)
  refine HC.mono ?_
  clear HC
  intro e w1 hp1
  obtain ⟨v1, F1, rfl, hR1, hS1⟩ := hp1
  obtain ⟨a1, c1, rfl, _⟩ := hR1.form
  have hS := (hS.call hS1).three
  have HR1 := hid hR1
  clear hR1 hS1
  simp only [List.append_nil] at hS
  have y1 := hS.cellH 1
  simp only [List.getElem?_toArray, List.getElem?_cons_zero, List.getElem?_cons_succ] at y1
  have z1 := hS.freeH 1
  go_upto_region 13 with (fail)
  refine (hS.set 1 _).nameC ?_
  clear hS y1 z1
  intro W1 hS
  simp only [List.setIfInBounds_toArray, List.set_cons_succ, List.set_cons_zero] at hS
  have s2 : W1.cell? ⟨w.heap.size, 2, none⟩ = some sv := hS.rd (List.mem_cons_of_mem _ (List.mem_cons_of_mem _ List.mem_cons_self)) rfl
  have HS1 := hid hS
  clear hS
  go_wp2_with fail
  have hS := HS1.out
  clear HS1
  have HC := some_c _ sv ss 1 (HSV.out _ _ (HS.out.call hS)) (by omega)
  refine HC.mono ?_
  clear HC s2
  intro e w2 hp1
  obtain ⟨v2, F2, rfl, hR2, hS2⟩ := hp1
  obtain ⟨a2, c2, rfl, _⟩ := hR2.form
  have hS := (hS.call hS2).three
  have HR2 := hid hR2
  clear hR2 hS2
  have y2 := hS.cellH 2
  simp only [List.getElem?_toArray, List.getElem?_cons_zero, List.getElem?_cons_succ] at y2
  have z2 := hS.freeH 2
  go_upto_region 31 with (fail)
  refine (hS.set 2 _).nameC ?_
  clear hS y2 z2
  intro W hS
  simp only [List.setIfInBounds_toArray, List.set_cons_succ, List.set_cons_zero] at hS
  have hr := hS.swap
  have x0 := hS.cellH 0; have x1 := hS.cellH 1; have x2 := hS.cellH 2; have x3 := hS.cellH 3; have x4 := hS.cellH 4; have x5 := hS.cellH 5
  simp only [List.getElem?_toArray, List.getElem?_cons_zero, List.getElem?_cons_succ] at x0 x1 x2 x3 x4 x5
  have y0 := hr.cellH 0
  have y1 := hr.cellH 1
  have y2 := hr.cellH 2
  have y3 := hr.cellH 3
  have y4 := hr.cellH 4
  have y5 := hr.cellH 5
  simp only [List.getElem?_toArray, List.getElem?_cons_zero, List.getElem?_cons_succ] at y0 y1 y2 y3 y4 y5
  have z0 := hr.freeH 0
  have z1 := hr.freeH 1
  have z2 := hr.freeH 2
  have z3 := hr.freeH 3
  have z4 := hr.freeH 4
  have z5 := hr.freeH 5
  clear hS
  go_wp2_with fail
  refine (hr.set6 _ _ _ _ _ _).nameB ?_
  clear hr x0 x1 x2 x3 x4 x5 y0 y1 y2 y3 y4 y5 z0 z1 z2 z3 z4 z5
  intro We hE
  have y0 := hE.cellH 0
  have y1 := hE.cellH 1
  have y2 := hE.cellH 2
  have y3 := hE.cellH 3
  have y4 := hE.cellH 4
  have y5 := hE.cellH 5
  simp only [List.getElem?_toArray, List.getElem?_cons_zero, List.getElem?_cons_succ] at y0 y1 y2 y3 y4 y5
  refine bodyPost_ret (v := .agg #[.int .i64 6, .slice a1 1 c1, .slice a2 1 c2, .int .i64 0, .int .i64 0, .int .i64 0]) (by simp [results, Tryd.results16, go_sem, y0, y1, y2, y3, y4, y5]) rfl ?_
  exact ⟨[.int .i64 6, .slice a1 1 c1, .slice a2 1 c2, .int .i64 0, .int .i64 0, .int .i64 0], F2 ++ F1, rfl, ⟨_, _, rfl, .inr ⟨_, _, F1, HR1.out, fun x hx => List.mem_append_right _ hx⟩, .inr ⟨_, _, F2, HR2.out, fun x hx => List.mem_append_left _ hx⟩⟩, hE.tail.tail.tail⟩

set_option maxRecDepth 100000 in
set_option maxHeartbeats 1000000 in
theorem clean_7 (W0 w : World) (M0 : Frag) (hS : St W0 w M0) (nv sv : Value) (ns : List Int) (ss : List ByteArray) (sw sc sm : Int) (hn : RowOf W0 nv (ints ns)) (hs : RowOf W0 sv (strs ss)) (vn : VNil nv) (vs : VNil sv) (hl : ss.length ≤ 100000000) :
    Calls Tryd.prog 16 #[.agg #[.int .i64 7, nv, sv, .int .i64 sw, .int .i64 sc, .int .i64 sm]] w (CleanPost W0 w ⟨7, ns, ss, sw, sc, sm⟩) := by
  have HN : Hid (∀ W M, St W0 W M → RowOf W nv (ints ns)) := hid fun W M h => hn.below h.below (Nat.le_refl _)
  have HSV : Hid (∀ W M, St W0 W M → RowOf W sv (strs ss)) := hid fun W M h => hs.below h.below (Nat.le_refl _)
  have HN0 := hid hn; have HS0 := hid hs; have HS := hid hS
  clear hn hs hS
  have hcm : cleanM ⟨7, ns, ss, sw, sc, sm⟩ = ⟨7, (fewM ns 1), (someM ss 1), 0, 0, 0⟩ := by rfl
  unfold CleanPost
  rw [hcm]
  go_enter Tryd.func16, Tryd.ntmps16
  go_wp2_with fail
  have hS := (((St.refl w).alloc (.cells #[.int .i64 7, nv, sv, .int .i64 sw, .int .i64 sc, .int .i64 sm] 32)).alloc (.cells #[.int .i64 0, .slice none 0 0, .slice none 0 0, .int .i64 0, .int .i64 0, .int .i64 0] 32)).alloc (.cells #[.int .i64 7, .slice none 0 0, .slice none 0 0, .int .i64 0, .int .i64 0, .int .i64 0] 32)
  simp only [World.size_alloc] at hS
  have HC := few_c _ nv ns 1 (HN.out _ _ (HS.out.call hS)) (by omega)
  refine HC.mono ?_
  clear HC
  intro e w1 hp1
  obtain ⟨v1, F1, rfl, hR1, hS1⟩ := hp1
  obtain ⟨a1, c1, rfl, _⟩ := hR1.form
  have hS := (hS.call hS1).three
  have HR1 := hid hR1
  clear hR1 hS1
  simp only [List.append_nil] at hS
  have y1 := hS.cellH 1
  simp only [List.getElem?_toArray, List.getElem?_cons_zero, List.getElem?_cons_succ] at y1
  have z1 := hS.freeH 1
  go_upto_region 13 with (fail)
  refine (hS.set 1 _).nameC ?_
  clear hS y1 z1
  intro W1 hS
  simp only [List.setIfInBounds_toArray, List.set_cons_succ, List.set_cons_zero] at hS
  have s2 : W1.cell? ⟨w.heap.size, 2, none⟩ = some sv := hS.rd (List.mem_cons_of_mem _ (List.mem_cons_of_mem _ List.mem_cons_self)) rfl
  have HS1 := hid hS
  clear hS
  go_wp2_with fail
  have hS := HS1.out
  clear HS1
  have HC := some_c _ sv ss 1 (HSV.out _ _ (HS.out.call hS)) (by omega)
  refine HC.mono ?_
  clear HC s2
  intro e w2 hp1
  obtain ⟨v2, F2, rfl, hR2, hS2⟩ := hp1
  obtain ⟨a2, c2, rfl, _⟩ := hR2.form
  have hS := (hS.call hS2).three
  have HR2 := hid hR2
  clear hR2 hS2
  have y2 := hS.cellH 2
  simp only [List.getElem?_toArray, List.getElem?_cons_zero, List.getElem?_cons_succ] at y2
  have z2 := hS.freeH 2
  go_upto_region 31 with (fail)
  refine (hS.set 2 _).nameC ?_
  clear hS y2 z2
  intro W hS
  simp only [List.setIfInBounds_toArray, List.set_cons_succ, List.set_cons_zero] at hS
  have hr := hS.swap
  have x0 := hS.cellH 0; have x1 := hS.cellH 1; have x2 := hS.cellH 2; have x3 := hS.cellH 3; have x4 := hS.cellH 4; have x5 := hS.cellH 5
  simp only [List.getElem?_toArray, List.getElem?_cons_zero, List.getElem?_cons_succ] at x0 x1 x2 x3 x4 x5
  have y0 := hr.cellH 0
  have y1 := hr.cellH 1
  have y2 := hr.cellH 2
  have y3 := hr.cellH 3
  have y4 := hr.cellH 4
  have y5 := hr.cellH 5
  simp only [List.getElem?_toArray, List.getElem?_cons_zero, List.getElem?_cons_succ] at y0 y1 y2 y3 y4 y5
  have z0 := hr.freeH 0
  have z1 := hr.freeH 1
  have z2 := hr.freeH 2
  have z3 := hr.freeH 3
  have z4 := hr.freeH 4
  have z5 := hr.freeH 5
  clear hS
  go_wp2_with fail
  refine (hr.set6 _ _ _ _ _ _).nameB ?_
  clear hr x0 x1 x2 x3 x4 x5 y0 y1 y2 y3 y4 y5 z0 z1 z2 z3 z4 z5
  intro We hE
  have y0 := hE.cellH 0
  have y1 := hE.cellH 1
  have y2 := hE.cellH 2
  have y3 := hE.cellH 3
  have y4 := hE.cellH 4
  have y5 := hE.cellH 5
  simp only [List.getElem?_toArray, List.getElem?_cons_zero, List.getElem?_cons_succ] at y0 y1 y2 y3 y4 y5
  refine bodyPost_ret (v := .agg #[.int .i64 7, .slice a1 1 c1, .slice a2 1 c2, .int .i64 0, .int .i64 0, .int .i64 0]) (by simp [results, Tryd.results16, go_sem, y0, y1, y2, y3, y4, y5]) rfl ?_
  exact ⟨[.int .i64 7, .slice a1 1 c1, .slice a2 1 c2, .int .i64 0, .int .i64 0, .int .i64 0], F2 ++ F1, rfl, ⟨_, _, rfl, .inr ⟨_, _, F1, HR1.out, fun x hx => List.mem_append_right _ hx⟩, .inr ⟨_, _, F2, HR2.out, fun x hx => List.mem_append_left _ hx⟩⟩, hE.tail.tail.tail⟩

set_option maxRecDepth 100000 in
set_option maxHeartbeats 1000000 in
theorem clean_8 (W0 w : World) (M0 : Frag) (hS : St W0 w M0) (nv sv : Value) (ns : List Int) (ss : List ByteArray) (sw sc sm : Int) (hn : RowOf W0 nv (ints ns)) (hs : RowOf W0 sv (strs ss)) (vn : VNil nv) (vs : VNil sv) (hl : ss.length ≤ 100000000) :
    Calls Tryd.prog 16 #[.agg #[.int .i64 8, nv, sv, .int .i64 sw, .int .i64 sc, .int .i64 sm]] w (CleanPost W0 w ⟨8, ns, ss, sw, sc, sm⟩) := by
  have HN : Hid (∀ W M, St W0 W M → RowOf W nv (ints ns)) := hid fun W M h => hn.below h.below (Nat.le_refl _)
  have HSV : Hid (∀ W M, St W0 W M → RowOf W sv (strs ss)) := hid fun W M h => hs.below h.below (Nat.le_refl _)
  have HN0 := hid hn; have HS0 := hid hs; have HS := hid hS
  clear hn hs hS
  have hcm : cleanM ⟨8, ns, ss, sw, sc, sm⟩ = ⟨8, [], [], 0, 0, 0⟩ := by rfl
  unfold CleanPost
  rw [hcm]
  go_enter Tryd.func16, Tryd.ntmps16
  go_upto_region 31 with (fail)
  have hS := (((St.refl w).alloc (.cells #[.int .i64 8, nv, sv, .int .i64 sw, .int .i64 sc, .int .i64 sm] 32)).alloc (.cells #[.int .i64 0, .slice none 0 0, .slice none 0 0, .int .i64 0, .int .i64 0, .int .i64 0] 32)).alloc (.cells #[.int .i64 8, .slice none 0 0, .slice none 0 0, .int .i64 0, .int .i64 0, .int .i64 0] 32)
  simp only [World.size_alloc] at hS
  refine hS.nameC ?_
  clear hS
  intro W hS
  have hr := hS.swap
  have x0 := hS.cellH 0; have x1 := hS.cellH 1; have x2 := hS.cellH 2; have x3 := hS.cellH 3; have x4 := hS.cellH 4; have x5 := hS.cellH 5
  simp only [List.getElem?_toArray, List.getElem?_cons_zero, List.getElem?_cons_succ] at x0 x1 x2 x3 x4 x5
  have y0 := hr.cellH 0
  have y1 := hr.cellH 1
  have y2 := hr.cellH 2
  have y3 := hr.cellH 3
  have y4 := hr.cellH 4
  have y5 := hr.cellH 5
  simp only [List.getElem?_toArray, List.getElem?_cons_zero, List.getElem?_cons_succ] at y0 y1 y2 y3 y4 y5
  have z0 := hr.freeH 0
  have z1 := hr.freeH 1
  have z2 := hr.freeH 2
  have z3 := hr.freeH 3
  have z4 := hr.freeH 4
  have z5 := hr.freeH 5
  clear hS
  go_wp2_with fail
  refine (hr.set6 _ _ _ _ _ _).nameB ?_
  clear hr x0 x1 x2 x3 x4 x5 y0 y1 y2 y3 y4 y5 z0 z1 z2 z3 z4 z5
  intro We hE
  have y0 := hE.cellH 0
  have y1 := hE.cellH 1
  have y2 := hE.cellH 2
  have y3 := hE.cellH 3
  have y4 := hE.cellH 4
  have y5 := hE.cellH 5
  simp only [List.getElem?_toArray, List.getElem?_cons_zero, List.getElem?_cons_succ] at y0 y1 y2 y3 y4 y5
  refine bodyPost_ret (v := .agg #[.int .i64 8, .slice none 0 0, .slice none 0 0, .int .i64 0, .int .i64 0, .int .i64 0]) (by simp [results, Tryd.results16, go_sem, y0, y1, y2, y3, y4, y5]) rfl ?_
  exact ⟨[.int .i64 8, .slice none 0 0, .slice none 0 0, .int .i64 0, .int .i64 0, .int .i64 0], [], rfl, ⟨_, _, rfl, RowIn.nil _ _, RowIn.nil _ _⟩, hE.tail.tail.tail⟩

set_option maxRecDepth 100000 in
set_option maxHeartbeats 1000000 in
theorem clean_out (W0 w : World) (M0 : Frag) (hS : St W0 w M0) (nv sv : Value) (K : Int) (ns : List Int) (ss : List ByteArray) (sw sc sm : Int) (hn : RowOf W0 nv (ints ns)) (hs : RowOf W0 sv (strs ss)) (vn : VNil nv) (vs : VNil sv) (hl : ss.length ≤ 100000000) (hK : K < 1 ∨ 23 < K) :
    Calls Tryd.prog 16 #[.agg #[.int .i64 K, nv, sv, .int .i64 sw, .int .i64 sc, .int .i64 sm]] w (CleanPost W0 w ⟨K, ns, ss, sw, sc, sm⟩) := by
  have HN : Hid (∀ W M, St W0 W M → RowOf W nv (ints ns)) := hid fun W M h => hn.below h.below (Nat.le_refl _)
  have HSV : Hid (∀ W M, St W0 W M → RowOf W sv (strs ss)) := hid fun W M h => hs.below h.below (Nat.le_refl _)
  have HN0 := hid hn; have HS0 := hid hs; have HS := hid hS
  have hcm : cleanM ⟨K, ns, ss, sw, sc, sm⟩ = ⟨8, [], [], 0, 0, 0⟩ := by
    have h8 : cleanK K = 8 := by unfold cleanK; rw [if_pos hK]
    unfold cleanM; simp only [h8]; rfl
  unfold CleanPost
  rw [hcm]
  clear hn hs hS
  rcases hK with hK | hK
  · go_enter Tryd.func16, Tryd.ntmps16
    go_upto_region 31 with (fail)
    have hS := (((St.refl w).alloc (.cells #[.int .i64 K, nv, sv, .int .i64 sw, .int .i64 sc, .int .i64 sm] 32)).alloc (.cells #[.int .i64 0, .slice none 0 0, .slice none 0 0, .int .i64 0, .int .i64 0, .int .i64 0] 32)).alloc (.cells #[.int .i64 8, .slice none 0 0, .slice none 0 0, .int .i64 0, .int .i64 0, .int .i64 0] 32)
    simp only [World.size_alloc] at hS
    refine hS.nameC ?_
    clear hS
    intro W hS
    have hr := hS.swap
    have x0 := hS.cellH 0; have x1 := hS.cellH 1; have x2 := hS.cellH 2; have x3 := hS.cellH 3; have x4 := hS.cellH 4; have x5 := hS.cellH 5
    simp only [List.getElem?_toArray, List.getElem?_cons_zero, List.getElem?_cons_succ] at x0 x1 x2 x3 x4 x5
    have y0 := hr.cellH 0
    have y1 := hr.cellH 1
    have y2 := hr.cellH 2
    have y3 := hr.cellH 3
    have y4 := hr.cellH 4
    have y5 := hr.cellH 5
    simp only [List.getElem?_toArray, List.getElem?_cons_zero, List.getElem?_cons_succ] at y0 y1 y2 y3 y4 y5
    have z0 := hr.freeH 0
    have z1 := hr.freeH 1
    have z2 := hr.freeH 2
    have z3 := hr.freeH 3
    have z4 := hr.freeH 4
    have z5 := hr.freeH 5
    clear hS
    go_wp2_with fail
    refine (hr.set6 _ _ _ _ _ _).nameB ?_
    clear hr x0 x1 x2 x3 x4 x5 y0 y1 y2 y3 y4 y5 z0 z1 z2 z3 z4 z5
    intro We hE
    have y0 := hE.cellH 0
    have y1 := hE.cellH 1
    have y2 := hE.cellH 2
    have y3 := hE.cellH 3
    have y4 := hE.cellH 4
    have y5 := hE.cellH 5
    simp only [List.getElem?_toArray, List.getElem?_cons_zero, List.getElem?_cons_succ] at y0 y1 y2 y3 y4 y5
    refine bodyPost_ret (v := .agg #[.int .i64 8, .slice none 0 0, .slice none 0 0, .int .i64 0, .int .i64 0, .int .i64 0]) (by simp [results, Tryd.results16, go_sem, y0, y1, y2, y3, y4, y5]) rfl ?_
    exact ⟨[.int .i64 8, .slice none 0 0, .slice none 0 0, .int .i64 0, .int .i64 0, .int .i64 0], [], rfl, ⟨_, _, rfl, RowIn.nil _ _, RowIn.nil _ _⟩, hE.tail.tail.tail⟩
  · go_enter Tryd.func16, Tryd.ntmps16
    go_upto_region 31 with (fail)
    have hS := (((St.refl w).alloc (.cells #[.int .i64 K, nv, sv, .int .i64 sw, .int .i64 sc, .int .i64 sm] 32)).alloc (.cells #[.int .i64 0, .slice none 0 0, .slice none 0 0, .int .i64 0, .int .i64 0, .int .i64 0] 32)).alloc (.cells #[.int .i64 8, .slice none 0 0, .slice none 0 0, .int .i64 0, .int .i64 0, .int .i64 0] 32)
    simp only [World.size_alloc] at hS
    refine hS.nameC ?_
    clear hS
    intro W hS
    have hr := hS.swap
    have x0 := hS.cellH 0; have x1 := hS.cellH 1; have x2 := hS.cellH 2; have x3 := hS.cellH 3; have x4 := hS.cellH 4; have x5 := hS.cellH 5
    simp only [List.getElem?_toArray, List.getElem?_cons_zero, List.getElem?_cons_succ] at x0 x1 x2 x3 x4 x5
    have y0 := hr.cellH 0
    have y1 := hr.cellH 1
    have y2 := hr.cellH 2
    have y3 := hr.cellH 3
    have y4 := hr.cellH 4
    have y5 := hr.cellH 5
    simp only [List.getElem?_toArray, List.getElem?_cons_zero, List.getElem?_cons_succ] at y0 y1 y2 y3 y4 y5
    have z0 := hr.freeH 0
    have z1 := hr.freeH 1
    have z2 := hr.freeH 2
    have z3 := hr.freeH 3
    have z4 := hr.freeH 4
    have z5 := hr.freeH 5
    clear hS
    go_wp2_with fail
    refine (hr.set6 _ _ _ _ _ _).nameB ?_
    clear hr x0 x1 x2 x3 x4 x5 y0 y1 y2 y3 y4 y5 z0 z1 z2 z3 z4 z5
    intro We hE
    have y0 := hE.cellH 0
    have y1 := hE.cellH 1
    have y2 := hE.cellH 2
    have y3 := hE.cellH 3
    have y4 := hE.cellH 4
    have y5 := hE.cellH 5
    simp only [List.getElem?_toArray, List.getElem?_cons_zero, List.getElem?_cons_succ] at y0 y1 y2 y3 y4 y5
    refine bodyPost_ret (v := .agg #[.int .i64 8, .slice none 0 0, .slice none 0 0, .int .i64 0, .int .i64 0, .int .i64 0]) (by simp [results, Tryd.results16, go_sem, y0, y1, y2, y3, y4, y5]) rfl ?_
    exact ⟨[.int .i64 8, .slice none 0 0, .slice none 0 0, .int .i64 0, .int .i64 0, .int .i64 0], [], rfl, ⟨_, _, rfl, RowIn.nil _ _, RowIn.nil _ _⟩, hE.tail.tail.tail⟩

end Go.Proofs.YtijlfggficjamaaDoor

namespace Go.Proofs.YtijlfggficjamaaDoor
set_option linter.unusedVariables false
set_option linter.unusedSimpArgs false
open Go Go.RowKit
open Go.Lib (hid)

set_option maxRecDepth 100000 in
set_option maxHeartbeats 1000000 in
theorem clean_9 (W0 w : World) (M0 : Frag) (hS : St W0 w M0) (nv sv : Value) (ns : List Int) (ss : List ByteArray) (sw sc sm : Int) (hn : RowOf W0 nv (ints ns)) (hs : RowOf W0 sv (strs ss)) (vn : VNil nv) (vs : VNil sv) (hl : ss.length ≤ 100000000) :
    Calls Tryd.prog 16 #[.agg #[.int .i64 9, nv, sv, .int .i64 sw, .int .i64 sc, .int .i64 sm]] w (CleanPost W0 w ⟨9, ns, ss, sw, sc, sm⟩) := by
  have HN : Hid (∀ W M, St W0 W M → RowOf W nv (ints ns)) := hid fun W M h => hn.below h.below (Nat.le_refl _)
  have HSV : Hid (∀ W M, St W0 W M → RowOf W sv (strs ss)) := hid fun W M h => hs.below h.below (Nat.le_refl _)
  have HN0 := hid hn; have HS0 := hid hs; have HS := hid hS
  clear hn hs hS
  have hcm : cleanM ⟨9, ns, ss, sw, sc, sm⟩ = ⟨9, [], [], 0, 0, 0⟩ := by rfl
  unfold CleanPost
  rw [hcm]
  go_enter Tryd.func16, Tryd.ntmps16
  go_upto_region 31 with (fail)
  have hS := (((St.refl w).alloc (.cells #[.int .i64 9, nv, sv, .int .i64 sw, .int .i64 sc, .int .i64 sm] 32)).alloc (.cells #[.int .i64 0, .slice none 0 0, .slice none 0 0, .int .i64 0, .int .i64 0, .int .i64 0] 32)).alloc (.cells #[.int .i64 9, .slice none 0 0, .slice none 0 0, .int .i64 0, .int .i64 0, .int .i64 0] 32)
  simp only [World.size_alloc] at hS
  refine hS.nameC ?_
  clear hS
  intro W hS
  have hr := hS.swap
  have x0 := hS.cellH 0; have x1 := hS.cellH 1; have x2 := hS.cellH 2; have x3 := hS.cellH 3; have x4 := hS.cellH 4; have x5 := hS.cellH 5
  simp only [List.getElem?_toArray, List.getElem?_cons_zero, List.getElem?_cons_succ] at x0 x1 x2 x3 x4 x5
  have y0 := hr.cellH 0
  have y1 := hr.cellH 1
  have y2 := hr.cellH 2
  have y3 := hr.cellH 3
  have y4 := hr.cellH 4
  have y5 := hr.cellH 5
  simp only [List.getElem?_toArray, List.getElem?_cons_zero, List.getElem?_cons_succ] at y0 y1 y2 y3 y4 y5
  have z0 := hr.freeH 0
  have z1 := hr.freeH 1
  have z2 := hr.freeH 2
  have z3 := hr.freeH 3
  have z4 := hr.freeH 4
  have z5 := hr.freeH 5
  clear hS
  go_wp2_with fail
  refine (hr.set6 _ _ _ _ _ _).nameB ?_
  clear hr x0 x1 x2 x3 x4 x5 y0 y1 y2 y3 y4 y5 z0 z1 z2 z3 z4 z5
  intro We hE
  have y0 := hE.cellH 0
  have y1 := hE.cellH 1
  have y2 := hE.cellH 2
  have y3 := hE.cellH 3
  have y4 := hE.cellH 4
  have y5 := hE.cellH 5
  simp only [List.getElem?_toArray, List.getElem?_cons_zero, List.getElem?_cons_succ] at y0 y1 y2 y3 y4 y5
  refine bodyPost_ret (v := .agg #[.int .i64 9, .slice none 0 0, .slice none 0 0, .int .i64 0, .int .i64 0, .int .i64 0]) (by simp [results, Tryd.results16, go_sem, y0, y1, y2, y3, y4, y5]) rfl ?_
  exact ⟨[.int .i64 9, .slice none 0 0, .slice none 0 0, .int .i64 0, .int .i64 0, .int .i64 0], [], rfl, ⟨_, _, rfl, RowIn.nil _ _, RowIn.nil _ _⟩, hE.tail.tail.tail⟩

set_option maxRecDepth 100000 in
set_option maxHeartbeats 1000000 in
theorem clean_10 (W0 w : World) (M0 : Frag) (hS : St W0 w M0) (nv sv : Value) (ns : List Int) (ss : List ByteArray) (sw sc sm : Int) (hn : RowOf W0 nv (ints ns)) (hs : RowOf W0 sv (strs ss)) (vn : VNil nv) (vs : VNil sv) (hl : ss.length ≤ 100000000) :
    Calls Tryd.prog 16 #[.agg #[.int .i64 10, nv, sv, .int .i64 sw, .int .i64 sc, .int .i64 sm]] w (CleanPost W0 w ⟨10, ns, ss, sw, sc, sm⟩) := by
  have HN : Hid (∀ W M, St W0 W M → RowOf W nv (ints ns)) := hid fun W M h => hn.below h.below (Nat.le_refl _)
  have HSV : Hid (∀ W M, St W0 W M → RowOf W sv (strs ss)) := hid fun W M h => hs.below h.below (Nat.le_refl _)
  have HN0 := hid hn; have HS0 := hid hs; have HS := hid hS
  clear hn hs hS
  have hcm : cleanM ⟨10, ns, ss, sw, sc, sm⟩ = ⟨10, [], [], 0, 0, 0⟩ := by rfl
  unfold CleanPost
  rw [hcm]
  go_enter Tryd.func16, Tryd.ntmps16
  go_upto_region 31 with (fail)
  have hS := (((St.refl w).alloc (.cells #[.int .i64 10, nv, sv, .int .i64 sw, .int .i64 sc, .int .i64 sm] 32)).alloc (.cells #[.int .i64 0, .slice none 0 0, .slice none 0 0, .int .i64 0, .int .i64 0, .int .i64 0] 32)).alloc (.cells #[.int .i64 10, .slice none 0 0, .slice none 0 0, .int .i64 0, .int .i64 0, .int .i64 0] 32)
  simp only [World.size_alloc] at hS
  refine hS.nameC ?_
  clear hS
  intro W hS
  have hr := hS.swap
  have x0 := hS.cellH 0; have x1 := hS.cellH 1; have x2 := hS.cellH 2; have x3 := hS.cellH 3; have x4 := hS.cellH 4; have x5 := hS.cellH 5
  simp only [List.getElem?_toArray, List.getElem?_cons_zero, List.getElem?_cons_succ] at x0 x1 x2 x3 x4 x5
  have y0 := hr.cellH 0
  have y1 := hr.cellH 1
  have y2 := hr.cellH 2
  have y3 := hr.cellH 3
  have y4 := hr.cellH 4
  have y5 := hr.cellH 5
  simp only [List.getElem?_toArray, List.getElem?_cons_zero, List.getElem?_cons_succ] at y0 y1 y2 y3 y4 y5
  have z0 := hr.freeH 0
  have z1 := hr.freeH 1
  have z2 := hr.freeH 2
  have z3 := hr.freeH 3
  have z4 := hr.freeH 4
  have z5 := hr.freeH 5
  clear hS
  go_wp2_with fail
  refine (hr.set6 _ _ _ _ _ _).nameB ?_
  clear hr x0 x1 x2 x3 x4 x5 y0 y1 y2 y3 y4 y5 z0 z1 z2 z3 z4 z5
  intro We hE
  have y0 := hE.cellH 0
  have y1 := hE.cellH 1
  have y2 := hE.cellH 2
  have y3 := hE.cellH 3
  have y4 := hE.cellH 4
  have y5 := hE.cellH 5
  simp only [List.getElem?_toArray, List.getElem?_cons_zero, List.getElem?_cons_succ] at y0 y1 y2 y3 y4 y5
  refine bodyPost_ret (v := .agg #[.int .i64 10, .slice none 0 0, .slice none 0 0, .int .i64 0, .int .i64 0, .int .i64 0]) (by simp [results, Tryd.results16, go_sem, y0, y1, y2, y3, y4, y5]) rfl ?_
  exact ⟨[.int .i64 10, .slice none 0 0, .slice none 0 0, .int .i64 0, .int .i64 0, .int .i64 0], [], rfl, ⟨_, _, rfl, RowIn.nil _ _, RowIn.nil _ _⟩, hE.tail.tail.tail⟩

set_option maxRecDepth 100000 in
set_option maxHeartbeats 1000000 in
theorem clean_11 (W0 w : World) (M0 : Frag) (hS : St W0 w M0) (nv sv : Value) (ns : List Int) (ss : List ByteArray) (sw sc sm : Int) (hn : RowOf W0 nv (ints ns)) (hs : RowOf W0 sv (strs ss)) (vn : VNil nv) (vs : VNil sv) (hl : ss.length ≤ 100000000) :
    Calls Tryd.prog 16 #[.agg #[.int .i64 11, nv, sv, .int .i64 sw, .int .i64 sc, .int .i64 sm]] w (CleanPost W0 w ⟨11, ns, ss, sw, sc, sm⟩) := by
  have HN : Hid (∀ W M, St W0 W M → RowOf W nv (ints ns)) := hid fun W M h => hn.below h.below (Nat.le_refl _)
  have HSV : Hid (∀ W M, St W0 W M → RowOf W sv (strs ss)) := hid fun W M h => hs.below h.below (Nat.le_refl _)
  have HN0 := hid hn; have HS0 := hid hs; have HS := hid hS
  clear hn hs hS
  have hcm : cleanM ⟨11, ns, ss, sw, sc, sm⟩ = ⟨11, [], [], 0, 0, 0⟩ := by rfl
  unfold CleanPost
  rw [hcm]
  go_enter Tryd.func16, Tryd.ntmps16
  go_upto_region 31 with (fail)
  have hS := (((St.refl w).alloc (.cells #[.int .i64 11, nv, sv, .int .i64 sw, .int .i64 sc, .int .i64 sm] 32)).alloc (.cells #[.int .i64 0, .slice none 0 0, .slice none 0 0, .int .i64 0, .int .i64 0, .int .i64 0] 32)).alloc (.cells #[.int .i64 11, .slice none 0 0, .slice none 0 0, .int .i64 0, .int .i64 0, .int .i64 0] 32)
  simp only [World.size_alloc] at hS
  refine hS.nameC ?_
  clear hS
  intro W hS
  have hr := hS.swap
  have x0 := hS.cellH 0; have x1 := hS.cellH 1; have x2 := hS.cellH 2; have x3 := hS.cellH 3; have x4 := hS.cellH 4; have x5 := hS.cellH 5
  simp only [List.getElem?_toArray, List.getElem?_cons_zero, List.getElem?_cons_succ] at x0 x1 x2 x3 x4 x5
  have y0 := hr.cellH 0
  have y1 := hr.cellH 1
  have y2 := hr.cellH 2
  have y3 := hr.cellH 3
  have y4 := hr.cellH 4
  have y5 := hr.cellH 5
  simp only [List.getElem?_toArray, List.getElem?_cons_zero, List.getElem?_cons_succ] at y0 y1 y2 y3 y4 y5
  have z0 := hr.freeH 0
  have z1 := hr.freeH 1
  have z2 := hr.freeH 2
  have z3 := hr.freeH 3
  have z4 := hr.freeH 4
  have z5 := hr.freeH 5
  clear hS
  go_wp2_with fail
  refine (hr.set6 _ _ _ _ _ _).nameB ?_
  clear hr x0 x1 x2 x3 x4 x5 y0 y1 y2 y3 y4 y5 z0 z1 z2 z3 z4 z5
  intro We hE
  have y0 := hE.cellH 0
  have y1 := hE.cellH 1
  have y2 := hE.cellH 2
  have y3 := hE.cellH 3
  have y4 := hE.cellH 4
  have y5 := hE.cellH 5
  simp only [List.getElem?_toArray, List.getElem?_cons_zero, List.getElem?_cons_succ] at y0 y1 y2 y3 y4 y5
  refine bodyPost_ret (v := .agg #[.int .i64 11, .slice none 0 0, .slice none 0 0, .int .i64 0, .int .i64 0, .int .i64 0]) (by simp [results, Tryd.results16, go_sem, y0, y1, y2, y3, y4, y5]) rfl ?_
  exact ⟨[.int .i64 11, .slice none 0 0, .slice none 0 0, .int .i64 0, .int .i64 0, .int .i64 0], [], rfl, ⟨_, _, rfl, RowIn.nil _ _, RowIn.nil _ _⟩, hE.tail.tail.tail⟩

set_option maxRecDepth 100000 in
set_option maxHeartbeats 1000000 in
theorem clean_12 (W0 w : World) (M0 : Frag) (hS : St W0 w M0) (nv sv : Value) (ns : List Int) (ss : List ByteArray) (sw sc sm : Int) (hn : RowOf W0 nv (ints ns)) (hs : RowOf W0 sv (strs ss)) (vn : VNil nv) (vs : VNil sv) (hl : ss.length ≤ 100000000) :
    Calls Tryd.prog 16 #[.agg #[.int .i64 12, nv, sv, .int .i64 sw, .int .i64 sc, .int .i64 sm]] w (CleanPost W0 w ⟨12, ns, ss, sw, sc, sm⟩) := by
  have HN : Hid (∀ W M, St W0 W M → RowOf W nv (ints ns)) := hid fun W M h => hn.below h.below (Nat.le_refl _)
  have HSV : Hid (∀ W M, St W0 W M → RowOf W sv (strs ss)) := hid fun W M h => hs.below h.below (Nat.le_refl _)
  have HN0 := hid hn; have HS0 := hid hs; have HS := hid hS
  clear hn hs hS
  have hcm : cleanM ⟨12, ns, ss, sw, sc, sm⟩ = ⟨12, (fewM ns 2), [], 0, 0, 0⟩ := by rfl
  unfold CleanPost
  rw [hcm]
  go_enter Tryd.func16, Tryd.ntmps16
  go_wp2_with fail
  have hS := (((St.refl w).alloc (.cells #[.int .i64 12, nv, sv, .int .i64 sw, .int .i64 sc, .int .i64 sm] 32)).alloc (.cells #[.int .i64 0, .slice none 0 0, .slice none 0 0, .int .i64 0, .int .i64 0, .int .i64 0] 32)).alloc (.cells #[.int .i64 12, .slice none 0 0, .slice none 0 0, .int .i64 0, .int .i64 0, .int .i64 0] 32)
  simp only [World.size_alloc] at hS
  have HC := few_c _ nv ns 2 (HN.out _ _ (HS.out.call hS)) (by omega)
  refine HC.mono ?_
  clear HC
  intro e w1 hp1
  obtain ⟨v1, F1, rfl, hR1, hS1⟩ := hp1
  obtain ⟨a1, c1, rfl, _⟩ := hR1.form
  have hS := (hS.call hS1).three
  have HR1 := hid hR1
  clear hR1 hS1
  simp only [List.append_nil] at hS
  have y1 := hS.cellH 1
  simp only [List.getElem?_toArray, List.getElem?_cons_zero, List.getElem?_cons_succ] at y1
  have z1 := hS.freeH 1
  go_upto_region 31 with (fail)
  refine (hS.set 1 _).nameC ?_
  clear hS y1 z1
  intro W1 hS
  simp only [List.setIfInBounds_toArray, List.set_cons_succ, List.set_cons_zero] at hS
  have hr := hS.swap
  have x0 := hS.cellH 0; have x1 := hS.cellH 1; have x2 := hS.cellH 2; have x3 := hS.cellH 3; have x4 := hS.cellH 4; have x5 := hS.cellH 5
  simp only [List.getElem?_toArray, List.getElem?_cons_zero, List.getElem?_cons_succ] at x0 x1 x2 x3 x4 x5
  have y0 := hr.cellH 0
  have y1 := hr.cellH 1
  have y2 := hr.cellH 2
  have y3 := hr.cellH 3
  have y4 := hr.cellH 4
  have y5 := hr.cellH 5
  simp only [List.getElem?_toArray, List.getElem?_cons_zero, List.getElem?_cons_succ] at y0 y1 y2 y3 y4 y5
  have z0 := hr.freeH 0
  have z1 := hr.freeH 1
  have z2 := hr.freeH 2
  have z3 := hr.freeH 3
  have z4 := hr.freeH 4
  have z5 := hr.freeH 5
  clear hS
  go_wp2_with fail
  refine (hr.set6 _ _ _ _ _ _).nameB ?_
  clear hr x0 x1 x2 x3 x4 x5 y0 y1 y2 y3 y4 y5 z0 z1 z2 z3 z4 z5
  intro We hE
  have y0 := hE.cellH 0
  have y1 := hE.cellH 1
  have y2 := hE.cellH 2
  have y3 := hE.cellH 3
  have y4 := hE.cellH 4
  have y5 := hE.cellH 5
  simp only [List.getElem?_toArray, List.getElem?_cons_zero, List.getElem?_cons_succ] at y0 y1 y2 y3 y4 y5
  refine bodyPost_ret (v := .agg #[.int .i64 12, .slice a1 2 c1, .slice none 0 0, .int .i64 0, .int .i64 0, .int .i64 0]) (by simp [results, Tryd.results16, go_sem, y0, y1, y2, y3, y4, y5]) rfl ?_
  exact ⟨[.int .i64 12, .slice a1 2 c1, .slice none 0 0, .int .i64 0, .int .i64 0, .int .i64 0], F1, rfl, ⟨_, _, rfl, .inr ⟨_, _, F1, HR1.out, fun x hx => hx⟩, RowIn.nil _ _⟩, hE.tail.tail.tail⟩

set_option maxRecDepth 100000 in
set_option maxHeartbeats 1000000 in
theorem clean_13 (W0 w : World) (M0 : Frag) (hS : St W0 w M0) (nv sv : Value) (ns : List Int) (ss : List ByteArray) (sw sc sm : Int) (hn : RowOf W0 nv (ints ns)) (hs : RowOf W0 sv (strs ss)) (vn : VNil nv) (vs : VNil sv) (hl : ss.length ≤ 100000000) :
    Calls Tryd.prog 16 #[.agg #[.int .i64 13, nv, sv, .int .i64 sw, .int .i64 sc, .int .i64 sm]] w (CleanPost W0 w ⟨13, ns, ss, sw, sc, sm⟩) := by
  have HN : Hid (∀ W M, St W0 W M → RowOf W nv (ints ns)) := hid fun W M h => hn.below h.below (Nat.le_refl _)
  have HSV : Hid (∀ W M, St W0 W M → RowOf W sv (strs ss)) := hid fun W M h => hs.below h.below (Nat.le_refl _)
  have HN0 := hid hn; have HS0 := hid hs; have HS := hid hS
  obtain ⟨ad, cap, rfl, h1, h2, h3⟩ := hs
  unfold maxLen at h2
  rw [strs_len] at h1 HSV HS0 vs ⊢
  clear hn hS h3
  have hcm : cleanM ⟨13, ns, ss, sw, sc, sm⟩ = ⟨13, (fewM ns (2 * ss.length)), ss, 0, 0, 0⟩ := by (show StepM.mk 13 (fewM ns (ss.length * 2)) ss 0 0 0 = _; rw [Nat.mul_comm])
  unfold CleanPost
  rw [hcm]
  go_enter Tryd.func16, Tryd.ntmps16
  go_upto_region 25 with (fail)
  have hS := (((St.refl w).alloc (.cells #[.int .i64 13, nv, .slice ad ss.length cap, .int .i64 sw, .int .i64 sc, .int .i64 sm] 32)).alloc (.cells #[.int .i64 0, .slice none 0 0, .slice none 0 0, .int .i64 0, .int .i64 0, .int .i64 0] 32)).alloc (.cells #[.int .i64 13, .slice none 0 0, .slice ad ss.length cap, .int .i64 0, .int .i64 0, .int .i64 0] 32)
  simp only [World.size_alloc] at hS
  refine hS.nameC ?_
  clear hS
  intro W1 hS
  have s1 : W1.cell? ⟨w.heap.size, 1, none⟩ = some nv := hS.rd (List.mem_cons_of_mem _ (List.mem_cons_of_mem _ List.mem_cons_self)) rfl
  have s2 : W1.cell? ⟨w.heap.size, 2, none⟩ = some (.slice ad ss.length cap) := hS.rd (List.mem_cons_of_mem _ (List.mem_cons_of_mem _ List.mem_cons_self)) rfl
  have e1 : ((2 : Int) * (ss.length : Int)) = ((2 * ss.length : Nat) : Int) := by omega
  have HC := few_c W1 nv ns (2 * ss.length) (HN.out _ _ (HS.out.call hS)) (by omega)
  rw [← e1] at HC
  have HC := hid HC
  have HS1 := hid hS
  clear hS e1
  go_wp2_with fail
  refine HC.out.mono ?_
  clear HC s1 s2
  intro e w1 hp1
  obtain ⟨v1, F1, rfl, hR1, hS1⟩ := hp1
  obtain ⟨a1, c1, rfl, _⟩ := hR1.form
  have hS := (HS1.out.call hS1).three
  have HR1 := hid hR1
  clear hR1 hS1 HS1
  simp only [List.append_nil] at hS
  have y1 := hS.cellH 1
  simp only [List.getElem?_toArray, List.getElem?_cons_zero, List.getElem?_cons_succ] at y1
  have z1 := hS.freeH 1
  go_upto_region 31 with (fail)
  refine (hS.set 1 _).nameC ?_
  clear hS y1 z1
  intro W hS
  simp only [List.setIfInBounds_toArray, List.set_cons_succ, List.set_cons_zero] at hS
  have hr := hS.swap
  have x0 := hS.cellH 0; have x1 := hS.cellH 1; have x2 := hS.cellH 2; have x3 := hS.cellH 3; have x4 := hS.cellH 4; have x5 := hS.cellH 5
  simp only [List.getElem?_toArray, List.getElem?_cons_zero, List.getElem?_cons_succ] at x0 x1 x2 x3 x4 x5
  have y0 := hr.cellH 0
  have y1 := hr.cellH 1
  have y2 := hr.cellH 2
  have y3 := hr.cellH 3
  have y4 := hr.cellH 4
  have y5 := hr.cellH 5
  simp only [List.getElem?_toArray, List.getElem?_cons_zero, List.getElem?_cons_succ] at y0 y1 y2 y3 y4 y5
  have z0 := hr.freeH 0
  have z1 := hr.freeH 1
  have z2 := hr.freeH 2
  have z3 := hr.freeH 3
  have z4 := hr.freeH 4
  have z5 := hr.freeH 5
  clear hS
  go_wp2_with fail
  refine (hr.set6 _ _ _ _ _ _).nameB ?_
  clear hr x0 x1 x2 x3 x4 x5 y0 y1 y2 y3 y4 y5 z0 z1 z2 z3 z4 z5
  intro We hE
  have y0 := hE.cellH 0
  have y1 := hE.cellH 1
  have y2 := hE.cellH 2
  have y3 := hE.cellH 3
  have y4 := hE.cellH 4
  have y5 := hE.cellH 5
  simp only [List.getElem?_toArray, List.getElem?_cons_zero, List.getElem?_cons_succ] at y0 y1 y2 y3 y4 y5
  refine bodyPost_ret (v := .agg #[.int .i64 13, .slice a1 (2 * ss.length) c1, .slice ad ss.length cap, .int .i64 0, .int .i64 0, .int .i64 0]) (by simp [results, Tryd.results16, go_sem, y0, y1, y2, y3, y4, y5]) rfl ?_
  exact ⟨[.int .i64 13, .slice a1 (2 * ss.length) c1, .slice ad ss.length cap, .int .i64 0, .int .i64 0, .int .i64 0], F1, rfl, ⟨_, _, rfl, .inr ⟨_, _, F1, HR1.out, fun x hx => hx⟩, .inl ⟨HS0.out, vs⟩⟩, hE.tail.tail.tail⟩

set_option maxRecDepth 100000 in
set_option maxHeartbeats 1000000 in
theorem clean_14 (W0 w : World) (M0 : Frag) (hS : St W0 w M0) (nv sv : Value) (ns : List Int) (ss : List ByteArray) (sw sc sm : Int) (hn : RowOf W0 nv (ints ns)) (hs : RowOf W0 sv (strs ss)) (vn : VNil nv) (vs : VNil sv) (hl : ss.length ≤ 100000000) :
    Calls Tryd.prog 16 #[.agg #[.int .i64 14, nv, sv, .int .i64 sw, .int .i64 sc, .int .i64 sm]] w (CleanPost W0 w ⟨14, ns, ss, sw, sc, sm⟩) := by
  have HN : Hid (∀ W M, St W0 W M → RowOf W nv (ints ns)) := hid fun W M h => hn.below h.below (Nat.le_refl _)
  have HSV : Hid (∀ W M, St W0 W M → RowOf W sv (strs ss)) := hid fun W M h => hs.below h.below (Nat.le_refl _)
  have HN0 := hid hn; have HS0 := hid hs; have HS := hid hS
  clear hn hs hS
  have hcm : cleanM ⟨14, ns, ss, sw, sc, sm⟩ = ⟨14, [], [], 0, 0, 0⟩ := by rfl
  unfold CleanPost
  rw [hcm]
  go_enter Tryd.func16, Tryd.ntmps16
  go_upto_region 31 with (fail)
  have hS := (((St.refl w).alloc (.cells #[.int .i64 14, nv, sv, .int .i64 sw, .int .i64 sc, .int .i64 sm] 32)).alloc (.cells #[.int .i64 0, .slice none 0 0, .slice none 0 0, .int .i64 0, .int .i64 0, .int .i64 0] 32)).alloc (.cells #[.int .i64 14, .slice none 0 0, .slice none 0 0, .int .i64 0, .int .i64 0, .int .i64 0] 32)
  simp only [World.size_alloc] at hS
  refine hS.nameC ?_
  clear hS
  intro W hS
  have hr := hS.swap
  have x0 := hS.cellH 0; have x1 := hS.cellH 1; have x2 := hS.cellH 2; have x3 := hS.cellH 3; have x4 := hS.cellH 4; have x5 := hS.cellH 5
  simp only [List.getElem?_toArray, List.getElem?_cons_zero, List.getElem?_cons_succ] at x0 x1 x2 x3 x4 x5
  have y0 := hr.cellH 0
  have y1 := hr.cellH 1
  have y2 := hr.cellH 2
  have y3 := hr.cellH 3
  have y4 := hr.cellH 4
  have y5 := hr.cellH 5
  simp only [List.getElem?_toArray, List.getElem?_cons_zero, List.getElem?_cons_succ] at y0 y1 y2 y3 y4 y5
  have z0 := hr.freeH 0
  have z1 := hr.freeH 1
  have z2 := hr.freeH 2
  have z3 := hr.freeH 3
  have z4 := hr.freeH 4
  have z5 := hr.freeH 5
  clear hS
  go_wp2_with fail
  refine (hr.set6 _ _ _ _ _ _).nameB ?_
  clear hr x0 x1 x2 x3 x4 x5 y0 y1 y2 y3 y4 y5 z0 z1 z2 z3 z4 z5
  intro We hE
  have y0 := hE.cellH 0
  have y1 := hE.cellH 1
  have y2 := hE.cellH 2
  have y3 := hE.cellH 3
  have y4 := hE.cellH 4
  have y5 := hE.cellH 5
  simp only [List.getElem?_toArray, List.getElem?_cons_zero, List.getElem?_cons_succ] at y0 y1 y2 y3 y4 y5
  refine bodyPost_ret (v := .agg #[.int .i64 14, .slice none 0 0, .slice none 0 0, .int .i64 0, .int .i64 0, .int .i64 0]) (by simp [results, Tryd.results16, go_sem, y0, y1, y2, y3, y4, y5]) rfl ?_
  exact ⟨[.int .i64 14, .slice none 0 0, .slice none 0 0, .int .i64 0, .int .i64 0, .int .i64 0], [], rfl, ⟨_, _, rfl, RowIn.nil _ _, RowIn.nil _ _⟩, hE.tail.tail.tail⟩

set_option maxRecDepth 100000 in
set_option maxHeartbeats 1000000 in
theorem clean_15 (W0 w : World) (M0 : Frag) (hS : St W0 w M0) (nv sv : Value) (ns : List Int) (ss : List ByteArray) (sw sc sm : Int) (hn : RowOf W0 nv (ints ns)) (hs : RowOf W0 sv (strs ss)) (vn : VNil nv) (vs : VNil sv) (hl : ss.length ≤ 100000000) :
    Calls Tryd.prog 16 #[.agg #[.int .i64 15, nv, sv, .int .i64 sw, .int .i64 sc, .int .i64 sm]] w (CleanPost W0 w ⟨15, ns, ss, sw, sc, sm⟩) := by
  have HN : Hid (∀ W M, St W0 W M → RowOf W nv (ints ns)) := hid fun W M h => hn.below h.below (Nat.le_refl _)
  have HSV : Hid (∀ W M, St W0 W M → RowOf W sv (strs ss)) := hid fun W M h => hs.below h.below (Nat.le_refl _)
  have HN0 := hid hn; have HS0 := hid hs; have HS := hid hS
  clear hn hs hS
  have hcm : cleanM ⟨15, ns, ss, sw, sc, sm⟩ = ⟨15, (fewM ns 1), [], 0, 0, 0⟩ := by rfl
  unfold CleanPost
  rw [hcm]
  go_enter Tryd.func16, Tryd.ntmps16
  go_wp2_with fail
  have hS := (((St.refl w).alloc (.cells #[.int .i64 15, nv, sv, .int .i64 sw, .int .i64 sc, .int .i64 sm] 32)).alloc (.cells #[.int .i64 0, .slice none 0 0, .slice none 0 0, .int .i64 0, .int .i64 0, .int .i64 0] 32)).alloc (.cells #[.int .i64 15, .slice none 0 0, .slice none 0 0, .int .i64 0, .int .i64 0, .int .i64 0] 32)
  simp only [World.size_alloc] at hS
  have HC := few_c _ nv ns 1 (HN.out _ _ (HS.out.call hS)) (by omega)
  refine HC.mono ?_
  clear HC
  intro e w1 hp1
  obtain ⟨v1, F1, rfl, hR1, hS1⟩ := hp1
  obtain ⟨a1, c1, rfl, _⟩ := hR1.form
  have hS := (hS.call hS1).three
  have HR1 := hid hR1
  clear hR1 hS1
  simp only [List.append_nil] at hS
  have y1 := hS.cellH 1
  simp only [List.getElem?_toArray, List.getElem?_cons_zero, List.getElem?_cons_succ] at y1
  have z1 := hS.freeH 1
  go_upto_region 31 with (fail)
  refine (hS.set 1 _).nameC ?_
  clear hS y1 z1
  intro W1 hS
  simp only [List.setIfInBounds_toArray, List.set_cons_succ, List.set_cons_zero] at hS
  have hr := hS.swap
  have x0 := hS.cellH 0; have x1 := hS.cellH 1; have x2 := hS.cellH 2; have x3 := hS.cellH 3; have x4 := hS.cellH 4; have x5 := hS.cellH 5
  simp only [List.getElem?_toArray, List.getElem?_cons_zero, List.getElem?_cons_succ] at x0 x1 x2 x3 x4 x5
  have y0 := hr.cellH 0
  have y1 := hr.cellH 1
  have y2 := hr.cellH 2
  have y3 := hr.cellH 3
  have y4 := hr.cellH 4
  have y5 := hr.cellH 5
  simp only [List.getElem?_toArray, List.getElem?_cons_zero, List.getElem?_cons_succ] at y0 y1 y2 y3 y4 y5
  have z0 := hr.freeH 0
  have z1 := hr.freeH 1
  have z2 := hr.freeH 2
  have z3 := hr.freeH 3
  have z4 := hr.freeH 4
  have z5 := hr.freeH 5
  clear hS
  go_wp2_with fail
  refine (hr.set6 _ _ _ _ _ _).nameB ?_
  clear hr x0 x1 x2 x3 x4 x5 y0 y1 y2 y3 y4 y5 z0 z1 z2 z3 z4 z5
  intro We hE
  have y0 := hE.cellH 0
  have y1 := hE.cellH 1
  have y2 := hE.cellH 2
  have y3 := hE.cellH 3
  have y4 := hE.cellH 4
  have y5 := hE.cellH 5
  simp only [List.getElem?_toArray, List.getElem?_cons_zero, List.getElem?_cons_succ] at y0 y1 y2 y3 y4 y5
  refine bodyPost_ret (v := .agg #[.int .i64 15, .slice a1 1 c1, .slice none 0 0, .int .i64 0, .int .i64 0, .int .i64 0]) (by simp [results, Tryd.results16, go_sem, y0, y1, y2, y3, y4, y5]) rfl ?_
  exact ⟨[.int .i64 15, .slice a1 1 c1, .slice none 0 0, .int .i64 0, .int .i64 0, .int .i64 0], F1, rfl, ⟨_, _, rfl, .inr ⟨_, _, F1, HR1.out, fun x hx => hx⟩, RowIn.nil _ _⟩, hE.tail.tail.tail⟩

end Go.Proofs.YtijlfggficjamaaDoor

namespace Go.Proofs.YtijlfggficjamaaDoor
set_option linter.unusedVariables false
set_option linter.unusedSimpArgs false
open Go Go.RowKit
open Go.Lib (hid)

set_option maxRecDepth 100000 in
set_option maxHeartbeats 1000000 in
theorem clean_16 (W0 w : World) (M0 : Frag) (hS : St W0 w M0) (nv sv : Value) (ns : List Int) (ss : List ByteArray) (sw sc sm : Int) (hn : RowOf W0 nv (ints ns)) (hs : RowOf W0 sv (strs ss)) (vn : VNil nv) (vs : VNil sv) (hl : ss.length ≤ 100000000) :
    Calls Tryd.prog 16 #[.agg #[.int .i64 16, nv, sv, .int .i64 sw, .int .i64 sc, .int .i64 sm]] w (CleanPost W0 w ⟨16, ns, ss, sw, sc, sm⟩) := by
  have HN : Hid (∀ W M, St W0 W M → RowOf W nv (ints ns)) := hid fun W M h => hn.below h.below (Nat.le_refl _)
  have HSV : Hid (∀ W M, St W0 W M → RowOf W sv (strs ss)) := hid fun W M h => hs.below h.below (Nat.le_refl _)
  have HN0 := hid hn; have HS0 := hid hs; have HS := hid hS
  clear hn hs hS
  have hcm : cleanM ⟨16, ns, ss, sw, sc, sm⟩ = ⟨16, [], [], 0, 0, 0⟩ := by rfl
  unfold CleanPost
  rw [hcm]
  go_enter Tryd.func16, Tryd.ntmps16
  go_upto_region 31 with (fail)
  have hS := (((St.refl w).alloc (.cells #[.int .i64 16, nv, sv, .int .i64 sw, .int .i64 sc, .int .i64 sm] 32)).alloc (.cells #[.int .i64 0, .slice none 0 0, .slice none 0 0, .int .i64 0, .int .i64 0, .int .i64 0] 32)).alloc (.cells #[.int .i64 16, .slice none 0 0, .slice none 0 0, .int .i64 0, .int .i64 0, .int .i64 0] 32)
  simp only [World.size_alloc] at hS
  refine hS.nameC ?_
  clear hS
  intro W hS
  have hr := hS.swap
  have x0 := hS.cellH 0; have x1 := hS.cellH 1; have x2 := hS.cellH 2; have x3 := hS.cellH 3; have x4 := hS.cellH 4; have x5 := hS.cellH 5
  simp only [List.getElem?_toArray, List.getElem?_cons_zero, List.getElem?_cons_succ] at x0 x1 x2 x3 x4 x5
  have y0 := hr.cellH 0
  have y1 := hr.cellH 1
  have y2 := hr.cellH 2
  have y3 := hr.cellH 3
  have y4 := hr.cellH 4
  have y5 := hr.cellH 5
  simp only [List.getElem?_toArray, List.getElem?_cons_zero, List.getElem?_cons_succ] at y0 y1 y2 y3 y4 y5
  have z0 := hr.freeH 0
  have z1 := hr.freeH 1
  have z2 := hr.freeH 2
  have z3 := hr.freeH 3
  have z4 := hr.freeH 4
  have z5 := hr.freeH 5
  clear hS
  go_wp2_with fail
  refine (hr.set6 _ _ _ _ _ _).nameB ?_
  clear hr x0 x1 x2 x3 x4 x5 y0 y1 y2 y3 y4 y5 z0 z1 z2 z3 z4 z5
  intro We hE
  have y0 := hE.cellH 0
  have y1 := hE.cellH 1
  have y2 := hE.cellH 2
  have y3 := hE.cellH 3
  have y4 := hE.cellH 4
  have y5 := hE.cellH 5
  simp only [List.getElem?_toArray, List.getElem?_cons_zero, List.getElem?_cons_succ] at y0 y1 y2 y3 y4 y5
  refine bodyPost_ret (v := .agg #[.int .i64 16, .slice none 0 0, .slice none 0 0, .int .i64 0, .int .i64 0, .int .i64 0]) (by simp [results, Tryd.results16, go_sem, y0, y1, y2, y3, y4, y5]) rfl ?_
  exact ⟨[.int .i64 16, .slice none 0 0, .slice none 0 0, .int .i64 0, .int .i64 0, .int .i64 0], [], rfl, ⟨_, _, rfl, RowIn.nil _ _, RowIn.nil _ _⟩, hE.tail.tail.tail⟩

set_option maxRecDepth 100000 in
set_option maxHeartbeats 1000000 in
theorem clean_17 (W0 w : World) (M0 : Frag) (hS : St W0 w M0) (nv sv : Value) (ns : List Int) (ss : List ByteArray) (sw sc sm : Int) (hn : RowOf W0 nv (ints ns)) (hs : RowOf W0 sv (strs ss)) (vn : VNil nv) (vs : VNil sv) (hl : ss.length ≤ 100000000) :
    Calls Tryd.prog 16 #[.agg #[.int .i64 17, nv, sv, .int .i64 sw, .int .i64 sc, .int .i64 sm]] w (CleanPost W0 w ⟨17, ns, ss, sw, sc, sm⟩) := by
  have HN : Hid (∀ W M, St W0 W M → RowOf W nv (ints ns)) := hid fun W M h => hn.below h.below (Nat.le_refl _)
  have HSV : Hid (∀ W M, St W0 W M → RowOf W sv (strs ss)) := hid fun W M h => hs.below h.below (Nat.le_refl _)
  have HN0 := hid hn; have HS0 := hid hs; have HS := hid hS
  clear hn hs hS
  have hcm : cleanM ⟨17, ns, ss, sw, sc, sm⟩ = ⟨17, [], [], 0, 0, 0⟩ := by rfl
  unfold CleanPost
  rw [hcm]
  go_enter Tryd.func16, Tryd.ntmps16
  go_upto_region 31 with (fail)
  have hS := (((St.refl w).alloc (.cells #[.int .i64 17, nv, sv, .int .i64 sw, .int .i64 sc, .int .i64 sm] 32)).alloc (.cells #[.int .i64 0, .slice none 0 0, .slice none 0 0, .int .i64 0, .int .i64 0, .int .i64 0] 32)).alloc (.cells #[.int .i64 17, .slice none 0 0, .slice none 0 0, .int .i64 0, .int .i64 0, .int .i64 0] 32)
  simp only [World.size_alloc] at hS
  refine hS.nameC ?_
  clear hS
  intro W hS
  have hr := hS.swap
  have x0 := hS.cellH 0; have x1 := hS.cellH 1; have x2 := hS.cellH 2; have x3 := hS.cellH 3; have x4 := hS.cellH 4; have x5 := hS.cellH 5
  simp only [List.getElem?_toArray, List.getElem?_cons_zero, List.getElem?_cons_succ] at x0 x1 x2 x3 x4 x5
  have y0 := hr.cellH 0
  have y1 := hr.cellH 1
  have y2 := hr.cellH 2
  have y3 := hr.cellH 3
  have y4 := hr.cellH 4
  have y5 := hr.cellH 5
  simp only [List.getElem?_toArray, List.getElem?_cons_zero, List.getElem?_cons_succ] at y0 y1 y2 y3 y4 y5
  have z0 := hr.freeH 0
  have z1 := hr.freeH 1
  have z2 := hr.freeH 2
  have z3 := hr.freeH 3
  have z4 := hr.freeH 4
  have z5 := hr.freeH 5
  clear hS
  go_wp2_with fail
  refine (hr.set6 _ _ _ _ _ _).nameB ?_
  clear hr x0 x1 x2 x3 x4 x5 y0 y1 y2 y3 y4 y5 z0 z1 z2 z3 z4 z5
  intro We hE
  have y0 := hE.cellH 0
  have y1 := hE.cellH 1
  have y2 := hE.cellH 2
  have y3 := hE.cellH 3
  have y4 := hE.cellH 4
  have y5 := hE.cellH 5
  simp only [List.getElem?_toArray, List.getElem?_cons_zero, List.getElem?_cons_succ] at y0 y1 y2 y3 y4 y5
  refine bodyPost_ret (v := .agg #[.int .i64 17, .slice none 0 0, .slice none 0 0, .int .i64 0, .int .i64 0, .int .i64 0]) (by simp [results, Tryd.results16, go_sem, y0, y1, y2, y3, y4, y5]) rfl ?_
  exact ⟨[.int .i64 17, .slice none 0 0, .slice none 0 0, .int .i64 0, .int .i64 0, .int .i64 0], [], rfl, ⟨_, _, rfl, RowIn.nil _ _, RowIn.nil _ _⟩, hE.tail.tail.tail⟩

set_option maxRecDepth 100000 in
set_option maxHeartbeats 1000000 in
theorem clean_18 (W0 w : World) (M0 : Frag) (hS : St W0 w M0) (nv sv : Value) (ns : List Int) (ss : List ByteArray) (sw sc sm : Int) (hn : RowOf W0 nv (ints ns)) (hs : RowOf W0 sv (strs ss)) (vn : VNil nv) (vs : VNil sv) (hl : ss.length ≤ 100000000) :
    Calls Tryd.prog 16 #[.agg #[.int .i64 18, nv, sv, .int .i64 sw, .int .i64 sc, .int .i64 sm]] w (CleanPost W0 w ⟨18, ns, ss, sw, sc, sm⟩) := by
  have HN : Hid (∀ W M, St W0 W M → RowOf W nv (ints ns)) := hid fun W M h => hn.below h.below (Nat.le_refl _)
  have HSV : Hid (∀ W M, St W0 W M → RowOf W sv (strs ss)) := hid fun W M h => hs.below h.below (Nat.le_refl _)
  have HN0 := hid hn; have HS0 := hid hs; have HS := hid hS
  clear hn hs hS
  have hcm : cleanM ⟨18, ns, ss, sw, sc, sm⟩ = ⟨18, (fewM ns 2), [], 0, 0, 0⟩ := by rfl
  unfold CleanPost
  rw [hcm]
  go_enter Tryd.func16, Tryd.ntmps16
  go_wp2_with fail
  have hS := (((St.refl w).alloc (.cells #[.int .i64 18, nv, sv, .int .i64 sw, .int .i64 sc, .int .i64 sm] 32)).alloc (.cells #[.int .i64 0, .slice none 0 0, .slice none 0 0, .int .i64 0, .int .i64 0, .int .i64 0] 32)).alloc (.cells #[.int .i64 18, .slice none 0 0, .slice none 0 0, .int .i64 0, .int .i64 0, .int .i64 0] 32)
  simp only [World.size_alloc] at hS
  have HC := few_c _ nv ns 2 (HN.out _ _ (HS.out.call hS)) (by omega)
  refine HC.mono ?_
  clear HC
  intro e w1 hp1
  obtain ⟨v1, F1, rfl, hR1, hS1⟩ := hp1
  obtain ⟨a1, c1, rfl, _⟩ := hR1.form
  have hS := (hS.call hS1).three
  have HR1 := hid hR1
  clear hR1 hS1
  simp only [List.append_nil] at hS
  have y1 := hS.cellH 1
  simp only [List.getElem?_toArray, List.getElem?_cons_zero, List.getElem?_cons_succ] at y1
  have z1 := hS.freeH 1
  go_upto_region 31 with (fail)
  refine (hS.set 1 _).nameC ?_
  clear hS y1 z1
  intro W1 hS
  simp only [List.setIfInBounds_toArray, List.set_cons_succ, List.set_cons_zero] at hS
  have hr := hS.swap
  have x0 := hS.cellH 0; have x1 := hS.cellH 1; have x2 := hS.cellH 2; have x3 := hS.cellH 3; have x4 := hS.cellH 4; have x5 := hS.cellH 5
  simp only [List.getElem?_toArray, List.getElem?_cons_zero, List.getElem?_cons_succ] at x0 x1 x2 x3 x4 x5
  have y0 := hr.cellH 0
  have y1 := hr.cellH 1
  have y2 := hr.cellH 2
  have y3 := hr.cellH 3
  have y4 := hr.cellH 4
  have y5 := hr.cellH 5
  simp only [List.getElem?_toArray, List.getElem?_cons_zero, List.getElem?_cons_succ] at y0 y1 y2 y3 y4 y5
  have z0 := hr.freeH 0
  have z1 := hr.freeH 1
  have z2 := hr.freeH 2
  have z3 := hr.freeH 3
  have z4 := hr.freeH 4
  have z5 := hr.freeH 5
  clear hS
  go_wp2_with fail
  refine (hr.set6 _ _ _ _ _ _).nameB ?_
  clear hr x0 x1 x2 x3 x4 x5 y0 y1 y2 y3 y4 y5 z0 z1 z2 z3 z4 z5
  intro We hE
  have y0 := hE.cellH 0
  have y1 := hE.cellH 1
  have y2 := hE.cellH 2
  have y3 := hE.cellH 3
  have y4 := hE.cellH 4
  have y5 := hE.cellH 5
  simp only [List.getElem?_toArray, List.getElem?_cons_zero, List.getElem?_cons_succ] at y0 y1 y2 y3 y4 y5
  refine bodyPost_ret (v := .agg #[.int .i64 18, .slice a1 2 c1, .slice none 0 0, .int .i64 0, .int .i64 0, .int .i64 0]) (by simp [results, Tryd.results16, go_sem, y0, y1, y2, y3, y4, y5]) rfl ?_
  exact ⟨[.int .i64 18, .slice a1 2 c1, .slice none 0 0, .int .i64 0, .int .i64 0, .int .i64 0], F1, rfl, ⟨_, _, rfl, .inr ⟨_, _, F1, HR1.out, fun x hx => hx⟩, RowIn.nil _ _⟩, hE.tail.tail.tail⟩

set_option maxRecDepth 100000 in
set_option maxHeartbeats 1000000 in
theorem clean_19 (W0 w : World) (M0 : Frag) (hS : St W0 w M0) (nv sv : Value) (ns : List Int) (ss : List ByteArray) (sw sc sm : Int) (hn : RowOf W0 nv (ints ns)) (hs : RowOf W0 sv (strs ss)) (vn : VNil nv) (vs : VNil sv) (hl : ss.length ≤ 100000000) :
    Calls Tryd.prog 16 #[.agg #[.int .i64 19, nv, sv, .int .i64 sw, .int .i64 sc, .int .i64 sm]] w (CleanPost W0 w ⟨19, ns, ss, sw, sc, sm⟩) := by
  have HN : Hid (∀ W M, St W0 W M → RowOf W nv (ints ns)) := hid fun W M h => hn.below h.below (Nat.le_refl _)
  have HSV : Hid (∀ W M, St W0 W M → RowOf W sv (strs ss)) := hid fun W M h => hs.below h.below (Nat.le_refl _)
  have HN0 := hid hn; have HS0 := hid hs; have HS := hid hS
  clear hn hs hS
  have hcm : cleanM ⟨19, ns, ss, sw, sc, sm⟩ = ⟨19, (fewM ns 1), [], 0, 0, 0⟩ := by rfl
  unfold CleanPost
  rw [hcm]
  go_enter Tryd.func16, Tryd.ntmps16
  go_wp2_with fail
  have hS := (((St.refl w).alloc (.cells #[.int .i64 19, nv, sv, .int .i64 sw, .int .i64 sc, .int .i64 sm] 32)).alloc (.cells #[.int .i64 0, .slice none 0 0, .slice none 0 0, .int .i64 0, .int .i64 0, .int .i64 0] 32)).alloc (.cells #[.int .i64 19, .slice none 0 0, .slice none 0 0, .int .i64 0, .int .i64 0, .int .i64 0] 32)
  simp only [World.size_alloc] at hS
  have HC := few_c _ nv ns 1 (HN.out _ _ (HS.out.call hS)) (by omega)
  refine HC.mono ?_
  clear HC
  intro e w1 hp1
  obtain ⟨v1, F1, rfl, hR1, hS1⟩ := hp1
  obtain ⟨a1, c1, rfl, _⟩ := hR1.form
  have hS := (hS.call hS1).three
  have HR1 := hid hR1
  clear hR1 hS1
  simp only [List.append_nil] at hS
  have y1 := hS.cellH 1
  simp only [List.getElem?_toArray, List.getElem?_cons_zero, List.getElem?_cons_succ] at y1
  have z1 := hS.freeH 1
  go_upto_region 31 with (fail)
  refine (hS.set 1 _).nameC ?_
  clear hS y1 z1
  intro W1 hS
  simp only [List.setIfInBounds_toArray, List.set_cons_succ, List.set_cons_zero] at hS
  have hr := hS.swap
  have x0 := hS.cellH 0; have x1 := hS.cellH 1; have x2 := hS.cellH 2; have x3 := hS.cellH 3; have x4 := hS.cellH 4; have x5 := hS.cellH 5
  simp only [List.getElem?_toArray, List.getElem?_cons_zero, List.getElem?_cons_succ] at x0 x1 x2 x3 x4 x5
  have y0 := hr.cellH 0
  have y1 := hr.cellH 1
  have y2 := hr.cellH 2
  have y3 := hr.cellH 3
  have y4 := hr.cellH 4
  have y5 := hr.cellH 5
  simp only [List.getElem?_toArray, List.getElem?_cons_zero, List.getElem?_cons_succ] at y0 y1 y2 y3 y4 y5
  have z0 := hr.freeH 0
  have z1 := hr.freeH 1
  have z2 := hr.freeH 2
  have z3 := hr.freeH 3
  have z4 := hr.freeH 4
  have z5 := hr.freeH 5
  clear hS
  go_wp2_with fail
  refine (hr.set6 _ _ _ _ _ _).nameB ?_
  clear hr x0 x1 x2 x3 x4 x5 y0 y1 y2 y3 y4 y5 z0 z1 z2 z3 z4 z5
  intro We hE
  have y0 := hE.cellH 0
  have y1 := hE.cellH 1
  have y2 := hE.cellH 2
  have y3 := hE.cellH 3
  have y4 := hE.cellH 4
  have y5 := hE.cellH 5
  simp only [List.getElem?_toArray, List.getElem?_cons_zero, List.getElem?_cons_succ] at y0 y1 y2 y3 y4 y5
  refine bodyPost_ret (v := .agg #[.int .i64 19, .slice a1 1 c1, .slice none 0 0, .int .i64 0, .int .i64 0, .int .i64 0]) (by simp [results, Tryd.results16, go_sem, y0, y1, y2, y3, y4, y5]) rfl ?_
  exact ⟨[.int .i64 19, .slice a1 1 c1, .slice none 0 0, .int .i64 0, .int .i64 0, .int .i64 0], F1, rfl, ⟨_, _, rfl, .inr ⟨_, _, F1, HR1.out, fun x hx => hx⟩, RowIn.nil _ _⟩, hE.tail.tail.tail⟩

set_option maxRecDepth 100000 in
set_option maxHeartbeats 1000000 in
theorem clean_20 (W0 w : World) (M0 : Frag) (hS : St W0 w M0) (nv sv : Value) (ns : List Int) (ss : List ByteArray) (sw sc sm : Int) (hn : RowOf W0 nv (ints ns)) (hs : RowOf W0 sv (strs ss)) (vn : VNil nv) (vs : VNil sv) (hl : ss.length ≤ 100000000) :
    Calls Tryd.prog 16 #[.agg #[.int .i64 20, nv, sv, .int .i64 sw, .int .i64 sc, .int .i64 sm]] w (CleanPost W0 w ⟨20, ns, ss, sw, sc, sm⟩) := by
  have HN : Hid (∀ W M, St W0 W M → RowOf W nv (ints ns)) := hid fun W M h => hn.below h.below (Nat.le_refl _)
  have HSV : Hid (∀ W M, St W0 W M → RowOf W sv (strs ss)) := hid fun W M h => hs.below h.below (Nat.le_refl _)
  have HN0 := hid hn; have HS0 := hid hs; have HS := hid hS
  clear hn hs hS
  have hcm : cleanM ⟨20, ns, ss, sw, sc, sm⟩ = ⟨20, (fewM ns 1), [], 0, 0, 0⟩ := by rfl
  unfold CleanPost
  rw [hcm]
  go_enter Tryd.func16, Tryd.ntmps16
  go_wp2_with fail
  have hS := (((St.refl w).alloc (.cells #[.int .i64 20, nv, sv, .int .i64 sw, .int .i64 sc, .int .i64 sm] 32)).alloc (.cells #[.int .i64 0, .slice none 0 0, .slice none 0 0, .int .i64 0, .int .i64 0, .int .i64 0] 32)).alloc (.cells #[.int .i64 20, .slice none 0 0, .slice none 0 0, .int .i64 0, .int .i64 0, .int .i64 0] 32)
  simp only [World.size_alloc] at hS
  have HC := few_c _ nv ns 1 (HN.out _ _ (HS.out.call hS)) (by omega)
  refine HC.mono ?_
  clear HC
  intro e w1 hp1
  obtain ⟨v1, F1, rfl, hR1, hS1⟩ := hp1
  obtain ⟨a1, c1, rfl, _⟩ := hR1.form
  have hS := (hS.call hS1).three
  have HR1 := hid hR1
  clear hR1 hS1
  simp only [List.append_nil] at hS
  have y1 := hS.cellH 1
  simp only [List.getElem?_toArray, List.getElem?_cons_zero, List.getElem?_cons_succ] at y1
  have z1 := hS.freeH 1
  go_upto_region 31 with (fail)
  refine (hS.set 1 _).nameC ?_
  clear hS y1 z1
  intro W1 hS
  simp only [List.setIfInBounds_toArray, List.set_cons_succ, List.set_cons_zero] at hS
  have hr := hS.swap
  have x0 := hS.cellH 0; have x1 := hS.cellH 1; have x2 := hS.cellH 2; have x3 := hS.cellH 3; have x4 := hS.cellH 4; have x5 := hS.cellH 5
  simp only [List.getElem?_toArray, List.getElem?_cons_zero, List.getElem?_cons_succ] at x0 x1 x2 x3 x4 x5
  have y0 := hr.cellH 0
  have y1 := hr.cellH 1
  have y2 := hr.cellH 2
  have y3 := hr.cellH 3
  have y4 := hr.cellH 4
  have y5 := hr.cellH 5
  simp only [List.getElem?_toArray, List.getElem?_cons_zero, List.getElem?_cons_succ] at y0 y1 y2 y3 y4 y5
  have z0 := hr.freeH 0
  have z1 := hr.freeH 1
  have z2 := hr.freeH 2
  have z3 := hr.freeH 3
  have z4 := hr.freeH 4
  have z5 := hr.freeH 5
  clear hS
  go_wp2_with fail
  refine (hr.set6 _ _ _ _ _ _).nameB ?_
  clear hr x0 x1 x2 x3 x4 x5 y0 y1 y2 y3 y4 y5 z0 z1 z2 z3 z4 z5
  intro We hE
  have y0 := hE.cellH 0
  have y1 := hE.cellH 1
  have y2 := hE.cellH 2
  have y3 := hE.cellH 3
  have y4 := hE.cellH 4
  have y5 := hE.cellH 5
  simp only [List.getElem?_toArray, List.getElem?_cons_zero, List.getElem?_cons_succ] at y0 y1 y2 y3 y4 y5
  refine bodyPost_ret (v := .agg #[.int .i64 20, .slice a1 1 c1, .slice none 0 0, .int .i64 0, .int .i64 0, .int .i64 0]) (by simp [results, Tryd.results16, go_sem, y0, y1, y2, y3, y4, y5]) rfl ?_
  exact ⟨[.int .i64 20, .slice a1 1 c1, .slice none 0 0, .int .i64 0, .int .i64 0, .int .i64 0], F1, rfl, ⟨_, _, rfl, .inr ⟨_, _, F1, HR1.out, fun x hx => hx⟩, RowIn.nil _ _⟩, hE.tail.tail.tail⟩

set_option maxRecDepth 100000 in
set_option maxHeartbeats 1000000 in
theorem clean_21 (W0 w : World) (M0 : Frag) (hS : St W0 w M0) (nv sv : Value) (ns : List Int) (ss : List ByteArray) (sw sc sm : Int) (hn : RowOf W0 nv (ints ns)) (hs : RowOf W0 sv (strs ss)) (vn : VNil nv) (vs : VNil sv) (hl : ss.length ≤ 100000000) :
    Calls Tryd.prog 16 #[.agg #[.int .i64 21, nv, sv, .int .i64 sw, .int .i64 sc, .int .i64 sm]] w (CleanPost W0 w ⟨21, ns, ss, sw, sc, sm⟩) := by
  have HN : Hid (∀ W M, St W0 W M → RowOf W nv (ints ns)) := hid fun W M h => hn.below h.below (Nat.le_refl _)
  have HSV : Hid (∀ W M, St W0 W M → RowOf W sv (strs ss)) := hid fun W M h => hs.below h.below (Nat.le_refl _)
  have HN0 := hid hn; have HS0 := hid hs; have HS := hid hS
  clear hn hs hS
  have hcm : cleanM ⟨21, ns, ss, sw, sc, sm⟩ = ⟨21, (fewM ns 1), (someM ss 1), 0, 0, 0⟩ := by rfl
  unfold CleanPost
  rw [hcm]
  go_enter Tryd.func16, Tryd.ntmps16
  go_wp2_with fail
  have hS := (((St.refl w).alloc (.cells #[.int .i64 21, nv, sv, .int .i64 sw, .int .i64 sc, .int .i64 sm] 32)).alloc (.cells #[.int .i64 0, .slice none 0 0, .slice none 0 0, .int .i64 0, .int .i64 0, .int .i64 0] 32)).alloc (.cells #[.int .i64 21, .slice none 0 0, .slice none 0 0, .int .i64 0, .int .i64 0, .int .i64 0] 32)
  simp only [World.size_alloc] at hS
  have HC := few_c _ nv ns 1 (HN.out _ _ (HS.out.call hS)) (by omega)
  refine HC.mono ?_
  clear HC
  intro e w1 hp1
  obtain ⟨v1, F1, rfl, hR1, hS1⟩ := hp1
  obtain ⟨a1, c1, rfl, _⟩ := hR1.form
  have hS := (hS.call hS1).three
  have HR1 := hid hR1
  clear hR1 hS1
  simp only [List.append_nil] at hS
  have y1 := hS.cellH 1
  simp only [List.getElem?_toArray, List.getElem?_cons_zero, List.getElem?_cons_succ] at y1
  have z1 := hS.freeH 1
  go_upto_region 13 with (fail)
  refine (hS.set 1 _).nameC ?_
  clear hS y1 z1
  intro W1 hS
  simp only [List.setIfInBounds_toArray, List.set_cons_succ, List.set_cons_zero] at hS
  have s2 : W1.cell? ⟨w.heap.size, 2, none⟩ = some sv := hS.rd (List.mem_cons_of_mem _ (List.mem_cons_of_mem _ List.mem_cons_self)) rfl
  have HS1 := hid hS
  clear hS
  go_wp2_with fail
  have hS := HS1.out
  clear HS1
  have HC := some_c _ sv ss 1 (HSV.out _ _ (HS.out.call hS)) (by omega)
  refine HC.mono ?_
  clear HC s2
  intro e w2 hp1
  obtain ⟨v2, F2, rfl, hR2, hS2⟩ := hp1
  obtain ⟨a2, c2, rfl, _⟩ := hR2.form
  have hS := (hS.call hS2).three
  have HR2 := hid hR2
  clear hR2 hS2
  have y2 := hS.cellH 2
  simp only [List.getElem?_toArray, List.getElem?_cons_zero, List.getElem?_cons_succ] at y2
  have z2 := hS.freeH 2
  go_upto_region 31 with (fail)
  refine (hS.set 2 _).nameC ?_
  clear hS y2 z2
  intro W hS
  simp only [List.setIfInBounds_toArray, List.set_cons_succ, List.set_cons_zero] at hS
  have hr := hS.swap
  have x0 := hS.cellH 0; have x1 := hS.cellH 1; have x2 := hS.cellH 2; have x3 := hS.cellH 3; have x4 := hS.cellH 4; have x5 := hS.cellH 5
  simp only [List.getElem?_toArray, List.getElem?_cons_zero, List.getElem?_cons_succ] at x0 x1 x2 x3 x4 x5
  have y0 := hr.cellH 0
  have y1 := hr.cellH 1
  have y2 := hr.cellH 2
  have y3 := hr.cellH 3
  have y4 := hr.cellH 4
  have y5 := hr.cellH 5
  simp only [List.getElem?_toArray, List.getElem?_cons_zero, List.getElem?_cons_succ] at y0 y1 y2 y3 y4 y5
  have z0 := hr.freeH 0
  have z1 := hr.freeH 1
  have z2 := hr.freeH 2
  have z3 := hr.freeH 3
  have z4 := hr.freeH 4
  have z5 := hr.freeH 5
  clear hS
  go_wp2_with fail
  refine (hr.set6 _ _ _ _ _ _).nameB ?_
  clear hr x0 x1 x2 x3 x4 x5 y0 y1 y2 y3 y4 y5 z0 z1 z2 z3 z4 z5
  intro We hE
  have y0 := hE.cellH 0
  have y1 := hE.cellH 1
  have y2 := hE.cellH 2
  have y3 := hE.cellH 3
  have y4 := hE.cellH 4
  have y5 := hE.cellH 5
  simp only [List.getElem?_toArray, List.getElem?_cons_zero, List.getElem?_cons_succ] at y0 y1 y2 y3 y4 y5
  refine bodyPost_ret (v := .agg #[.int .i64 21, .slice a1 1 c1, .slice a2 1 c2, .int .i64 0, .int .i64 0, .int .i64 0]) (by simp [results, Tryd.results16, go_sem, y0, y1, y2, y3, y4, y5]) rfl ?_
  exact ⟨[.int .i64 21, .slice a1 1 c1, .slice a2 1 c2, .int .i64 0, .int .i64 0, .int .i64 0], F2 ++ F1, rfl, ⟨_, _, rfl, .inr ⟨_, _, F1, HR1.out, fun x hx => List.mem_append_right _ hx⟩, .inr ⟨_, _, F2, HR2.out, fun x hx => List.mem_append_left _ hx⟩⟩, hE.tail.tail.tail⟩

set_option maxRecDepth 100000 in
set_option maxHeartbeats 1000000 in
theorem clean_22 (W0 w : World) (M0 : Frag) (hS : St W0 w M0) (nv sv : Value) (ns : List Int) (ss : List ByteArray) (sw sc sm : Int) (hn : RowOf W0 nv (ints ns)) (hs : RowOf W0 sv (strs ss)) (vn : VNil nv) (vs : VNil sv) (hl : ss.length ≤ 100000000) :
    Calls Tryd.prog 16 #[.agg #[.int .i64 22, nv, sv, .int .i64 sw, .int .i64 sc, .int .i64 sm]] w (CleanPost W0 w ⟨22, ns, ss, sw, sc, sm⟩) := by
  have HN : Hid (∀ W M, St W0 W M → RowOf W nv (ints ns)) := hid fun W M h => hn.below h.below (Nat.le_refl _)
  have HSV : Hid (∀ W M, St W0 W M → RowOf W sv (strs ss)) := hid fun W M h => hs.below h.below (Nat.le_refl _)
  have HN0 := hid hn; have HS0 := hid hs; have HS := hid hS
  clear hn hs hS
  have hcm : cleanM ⟨22, ns, ss, sw, sc, sm⟩ = ⟨22, [], (someM ss 1), 0, 0, 0⟩ := by rfl
  unfold CleanPost
  rw [hcm]
  go_enter Tryd.func16, Tryd.ntmps16
  go_wp2_with fail
  have hS := (((St.refl w).alloc (.cells #[.int .i64 22, nv, sv, .int .i64 sw, .int .i64 sc, .int .i64 sm] 32)).alloc (.cells #[.int .i64 0, .slice none 0 0, .slice none 0 0, .int .i64 0, .int .i64 0, .int .i64 0] 32)).alloc (.cells #[.int .i64 22, .slice none 0 0, .slice none 0 0, .int .i64 0, .int .i64 0, .int .i64 0] 32)
  simp only [World.size_alloc] at hS
  have HC := some_c _ sv ss 1 (HSV.out _ _ (HS.out.call hS)) (by omega)
  refine HC.mono ?_
  clear HC
  intro e w2 hp1
  obtain ⟨v2, F2, rfl, hR2, hS2⟩ := hp1
  obtain ⟨a2, c2, rfl, _⟩ := hR2.form
  have hS := (hS.call hS2).three
  have HR2 := hid hR2
  clear hR2 hS2
  simp only [List.append_nil] at hS
  have y2 := hS.cellH 2
  simp only [List.getElem?_toArray, List.getElem?_cons_zero, List.getElem?_cons_succ] at y2
  have z2 := hS.freeH 2
  go_upto_region 31 with (fail)
  refine (hS.set 2 _).nameC ?_
  clear hS y2 z2
  intro W hS
  simp only [List.setIfInBounds_toArray, List.set_cons_succ, List.set_cons_zero] at hS
  have hr := hS.swap
  have x0 := hS.cellH 0; have x1 := hS.cellH 1; have x2 := hS.cellH 2; have x3 := hS.cellH 3; have x4 := hS.cellH 4; have x5 := hS.cellH 5
  simp only [List.getElem?_toArray, List.getElem?_cons_zero, List.getElem?_cons_succ] at x0 x1 x2 x3 x4 x5
  have y0 := hr.cellH 0
  have y1 := hr.cellH 1
  have y2 := hr.cellH 2
  have y3 := hr.cellH 3
  have y4 := hr.cellH 4
  have y5 := hr.cellH 5
  simp only [List.getElem?_toArray, List.getElem?_cons_zero, List.getElem?_cons_succ] at y0 y1 y2 y3 y4 y5
  have z0 := hr.freeH 0
  have z1 := hr.freeH 1
  have z2 := hr.freeH 2
  have z3 := hr.freeH 3
  have z4 := hr.freeH 4
  have z5 := hr.freeH 5
  clear hS
  go_wp2_with fail
  refine (hr.set6 _ _ _ _ _ _).nameB ?_
  clear hr x0 x1 x2 x3 x4 x5 y0 y1 y2 y3 y4 y5 z0 z1 z2 z3 z4 z5
  intro We hE
  have y0 := hE.cellH 0
  have y1 := hE.cellH 1
  have y2 := hE.cellH 2
  have y3 := hE.cellH 3
  have y4 := hE.cellH 4
  have y5 := hE.cellH 5
  simp only [List.getElem?_toArray, List.getElem?_cons_zero, List.getElem?_cons_succ] at y0 y1 y2 y3 y4 y5
  refine bodyPost_ret (v := .agg #[.int .i64 22, .slice none 0 0, .slice a2 1 c2, .int .i64 0, .int .i64 0, .int .i64 0]) (by simp [results, Tryd.results16, go_sem, y0, y1, y2, y3, y4, y5]) rfl ?_
  exact ⟨[.int .i64 22, .slice none 0 0, .slice a2 1 c2, .int .i64 0, .int .i64 0, .int .i64 0], F2, rfl, ⟨_, _, rfl, RowIn.nil _ _, .inr ⟨_, _, F2, HR2.out, fun x hx => hx⟩⟩, hE.tail.tail.tail⟩

set_option maxRecDepth 100000 in
set_option maxHeartbeats 1000000 in
theorem clean_23 (W0 w : World) (M0 : Frag) (hS : St W0 w M0) (nv sv : Value) (ns : List Int) (ss : List ByteArray) (sw sc sm : Int) (hn : RowOf W0 nv (ints ns)) (hs : RowOf W0 sv (strs ss)) (vn : VNil nv) (vs : VNil sv) (hl : ss.length ≤ 100000000) :
    Calls Tryd.prog 16 #[.agg #[.int .i64 23, nv, sv, .int .i64 sw, .int .i64 sc, .int .i64 sm]] w (CleanPost W0 w ⟨23, ns, ss, sw, sc, sm⟩) := by
  have HN : Hid (∀ W M, St W0 W M → RowOf W nv (ints ns)) := hid fun W M h => hn.below h.below (Nat.le_refl _)
  have HSV : Hid (∀ W M, St W0 W M → RowOf W sv (strs ss)) := hid fun W M h => hs.below h.below (Nat.le_refl _)
  have HN0 := hid hn; have HS0 := hid hs; have HS := hid hS
  clear hn hs hS
  have hcm : cleanM ⟨23, ns, ss, sw, sc, sm⟩ = ⟨23, (fewM ns 2), (someM ss 1), 0, 0, 0⟩ := by rfl
  unfold CleanPost
  rw [hcm]
  go_enter Tryd.func16, Tryd.ntmps16
  go_wp2_with fail
  have hS := (((St.refl w).alloc (.cells #[.int .i64 23, nv, sv, .int .i64 sw, .int .i64 sc, .int .i64 sm] 32)).alloc (.cells #[.int .i64 0, .slice none 0 0, .slice none 0 0, .int .i64 0, .int .i64 0, .int .i64 0] 32)).alloc (.cells #[.int .i64 23, .slice none 0 0, .slice none 0 0, .int .i64 0, .int .i64 0, .int .i64 0] 32)
  simp only [World.size_alloc] at hS
  have HC := few_c _ nv ns 2 (HN.out _ _ (HS.out.call hS)) (by omega)
  refine HC.mono ?_
  clear HC
  intro e w1 hp1
  obtain ⟨v1, F1, rfl, hR1, hS1⟩ := hp1
  obtain ⟨a1, c1, rfl, _⟩ := hR1.form
  have hS := (hS.call hS1).three
  have HR1 := hid hR1
  clear hR1 hS1
  simp only [List.append_nil] at hS
  have y1 := hS.cellH 1
  simp only [List.getElem?_toArray, List.getElem?_cons_zero, List.getElem?_cons_succ] at y1
  have z1 := hS.freeH 1
  go_upto_region 30 with (fail)
  refine (hS.set 1 _).nameC ?_
  clear hS y1 z1
  intro W1 hS
  simp only [List.setIfInBounds_toArray, List.set_cons_succ, List.set_cons_zero] at hS
  have s2 : W1.cell? ⟨w.heap.size, 2, none⟩ = some sv := hS.rd (List.mem_cons_of_mem _ (List.mem_cons_of_mem _ List.mem_cons_self)) rfl
  have HS1 := hid hS
  clear hS
  go_wp2_with fail
  have hS := HS1.out
  clear HS1
  have HC := some_c _ sv ss 1 (HSV.out _ _ (HS.out.call hS)) (by omega)
  refine HC.mono ?_
  clear HC s2
  intro e w2 hp1
  obtain ⟨v2, F2, rfl, hR2, hS2⟩ := hp1
  obtain ⟨a2, c2, rfl, _⟩ := hR2.form
  have hS := (hS.call hS2).three
  have HR2 := hid hR2
  clear hR2 hS2
  have y2 := hS.cellH 2
  simp only [List.getElem?_toArray, List.getElem?_cons_zero, List.getElem?_cons_succ] at y2
  have z2 := hS.freeH 2
  go_upto_region 31 with (fail)
  refine (hS.set 2 _).nameC ?_
  clear hS y2 z2
  intro W hS
  simp only [List.setIfInBounds_toArray, List.set_cons_succ, List.set_cons_zero] at hS
  have hr := hS.swap
  have x0 := hS.cellH 0; have x1 := hS.cellH 1; have x2 := hS.cellH 2; have x3 := hS.cellH 3; have x4 := hS.cellH 4; have x5 := hS.cellH 5
  simp only [List.getElem?_toArray, List.getElem?_cons_zero, List.getElem?_cons_succ] at x0 x1 x2 x3 x4 x5
  have y0 := hr.cellH 0
  have y1 := hr.cellH 1
  have y2 := hr.cellH 2
  have y3 := hr.cellH 3
  have y4 := hr.cellH 4
  have y5 := hr.cellH 5
  simp only [List.getElem?_toArray, List.getElem?_cons_zero, List.getElem?_cons_succ] at y0 y1 y2 y3 y4 y5
  have z0 := hr.freeH 0
  have z1 := hr.freeH 1
  have z2 := hr.freeH 2
  have z3 := hr.freeH 3
  have z4 := hr.freeH 4
  have z5 := hr.freeH 5
  clear hS
  go_wp2_with fail
  refine (hr.set6 _ _ _ _ _ _).nameB ?_
  clear hr x0 x1 x2 x3 x4 x5 y0 y1 y2 y3 y4 y5 z0 z1 z2 z3 z4 z5
  intro We hE
  have y0 := hE.cellH 0
  have y1 := hE.cellH 1
  have y2 := hE.cellH 2
  have y3 := hE.cellH 3
  have y4 := hE.cellH 4
  have y5 := hE.cellH 5
  simp only [List.getElem?_toArray, List.getElem?_cons_zero, List.getElem?_cons_succ] at y0 y1 y2 y3 y4 y5
  refine bodyPost_ret (v := .agg #[.int .i64 23, .slice a1 2 c1, .slice a2 1 c2, .int .i64 0, .int .i64 0, .int .i64 0]) (by simp [results, Tryd.results16, go_sem, y0, y1, y2, y3, y4, y5]) rfl ?_
  exact ⟨[.int .i64 23, .slice a1 2 c1, .slice a2 1 c2, .int .i64 0, .int .i64 0, .int .i64 0], F2 ++ F1, rfl, ⟨_, _, rfl, .inr ⟨_, _, F1, HR1.out, fun x hx => List.mem_append_right _ hx⟩, .inr ⟨_, _, F2, HR2.out, fun x hx => List.mem_append_left _ hx⟩⟩, hE.tail.tail.tail⟩

end Go.Proofs.YtijlfggficjamaaDoor
