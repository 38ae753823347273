/- The contract of clean; arguments; the walk of the law PlayComesBack. -/
import Derived.Test.YtijlfggficjamaaDoorBackKinds
import Derived.Test.YtijlfggficjamaaDoorPlayTwin
import Derived.Test.YtijlfggficjamaaDoorPlayOpen
import Derived.Test.YtijlfggficjamaaDoorBackPlain
import Derived.Test.YtijlfggficjamaaDoorDecLaw
import Derived.Deep.QuietTactic
import Derived.BigQuiet
namespace Go.Proofs.YtijlfggficjamaaDoor
set_option linter.unusedVariables false
set_option linter.unusedSimpArgs false
open Go Go.RowKit
open Go.Lib (hid)

theorem clean_c (W0 w : World) (M0 : Frag) (hS : St W0 w M0) (nv sv : Value) (s : StepM) (hn : RowOf W0 nv (ints s.ns)) (hs : RowOf W0 sv (strs s.ss)) (vn : VNil nv) (vs : VNil sv) (hl : s.ss.length ≤ 100000000) :
    Calls Tryd.prog 16 #[.agg (s.cells nv sv)] w (CleanPost W0 w s) := by
  obtain ⟨K, ns, ss, sw, sc, sm⟩ := s
  unfold StepM.cells
  simp only at hn hs hl ⊢
  by_cases h : K < 1 ∨ 23 < K
  · exact clean_out W0 w M0 hS nv sv K ns ss sw sc sm hn hs vn vs hl h
  · have hk : K = 1 ∨ K = 2 ∨ K = 3 ∨ K = 4 ∨ K = 5 ∨ K = 6 ∨ K = 7 ∨ K = 8 ∨ K = 9 ∨ K = 10 ∨ K = 11 ∨ K = 12 ∨ K = 13 ∨ K = 14 ∨ K = 15 ∨ K = 16 ∨ K = 17 ∨ K = 18 ∨ K = 19 ∨ K = 20 ∨ K = 21 ∨ K = 22 ∨ K = 23 := by omega
    rcases hk with rfl | rfl | rfl | rfl | rfl | rfl | rfl | rfl | rfl | rfl | rfl | rfl | rfl | rfl | rfl | rfl | rfl | rfl | rfl | rfl | rfl | rfl | rfl
    · exact clean_1 W0 w M0 hS nv sv ns ss sw sc sm hn hs vn vs hl
    · exact clean_2 W0 w M0 hS nv sv ns ss sw sc sm hn hs vn vs hl
    · exact clean_3 W0 w M0 hS nv sv ns ss sw sc sm hn hs vn vs hl
    · exact clean_4 W0 w M0 hS nv sv ns ss sw sc sm hn hs vn vs hl
    · exact clean_5 W0 w M0 hS nv sv ns ss sw sc sm hn hs vn vs hl
    · exact clean_6 W0 w M0 hS nv sv ns ss sw sc sm hn hs vn vs hl
    · exact clean_7 W0 w M0 hS nv sv ns ss sw sc sm hn hs vn vs hl
    · exact clean_8 W0 w M0 hS nv sv ns ss sw sc sm hn hs vn vs hl
    · exact clean_9 W0 w M0 hS nv sv ns ss sw sc sm hn hs vn vs hl
    · exact clean_10 W0 w M0 hS nv sv ns ss sw sc sm hn hs vn vs hl
    · exact clean_11 W0 w M0 hS nv sv ns ss sw sc sm hn hs vn vs hl
    · exact clean_12 W0 w M0 hS nv sv ns ss sw sc sm hn hs vn vs hl
    · exact clean_13 W0 w M0 hS nv sv ns ss sw sc sm hn hs vn vs hl
    · exact clean_14 W0 w M0 hS nv sv ns ss sw sc sm hn hs vn vs hl
    · exact clean_15 W0 w M0 hS nv sv ns ss sw sc sm hn hs vn vs hl
    · exact clean_16 W0 w M0 hS nv sv ns ss sw sc sm hn hs vn vs hl
    · exact clean_17 W0 w M0 hS nv sv ns ss sw sc sm hn hs vn vs hl
    · exact clean_18 W0 w M0 hS nv sv ns ss sw sc sm hn hs vn vs hl
    · exact clean_19 W0 w M0 hS nv sv ns ss sw sc sm hn hs vn vs hl
    · exact clean_20 W0 w M0 hS nv sv ns ss sw sc sm hn hs vn vs hl
    · exact clean_21 W0 w M0 hS nv sv ns ss sw sc sm hn hs vn vs hl
    · exact clean_22 W0 w M0 hS nv sv ns ss sw sc sm hn hs vn vs hl
    · exact clean_23 W0 w M0 hS nv sv ns ss sw sc sm hn hs vn vs hl

theorem steps_drewN {w : World} {v : Value} {xs : List StepM} (h : StepsOf w v xs) (n : Nat) : StepsOf (w.drewN n) v xs := h
/-- a row of steps' cells -/
def StepsIn (W0 : World) (M : Frag) (L : List (List Value)) (xs : List StepM) : Prop :=
  L.length = xs.length ∧ ∀ (i : Nat) cs s, L[i]? = some cs → xs[i]? = some s → StepIn W0 M cs s
theorem StepsIn.nil (W0 : World) (M : Frag) : StepsIn W0 M [] [] := ⟨rfl, by simp⟩
theorem StepsIn.mono {W0 : World} {M M' : Frag} {L : List (List Value)} {xs : List StepM} (h : StepsIn W0 M L xs) (hm : ∀ x ∈ M, x ∈ M') : StepsIn W0 M' L xs :=
  ⟨h.1, fun i cs s h1 h2 => (h.2 i cs s h1 h2).mono hm⟩
theorem StepsIn.snoc {W0 : World} {M : Frag} {L : List (List Value)} {xs : List StepM} {cs : List Value} {s : StepM} (h : StepsIn W0 M L xs) (hs : StepIn W0 M cs s) : StepsIn W0 M (L ++ [cs]) (xs ++ [s]) := by
  refine ⟨by simp [h.1], fun i c t h1 h2 => ?_⟩
  by_cases hl : i < L.length
  · rw [List.getElem?_append_left hl] at h1
    rw [List.getElem?_append_left (by have := h.1; omega)] at h2
    exact h.2 i c t h1 h2
  · have hi : i = L.length := by have := (List.getElem?_eq_some_iff.1 h1).1; simp at this; omega
    subst hi
    rw [List.getElem?_append_right (Nat.le_refl _), Nat.sub_self] at h1
    rw [List.getElem?_append_right (by have := h.1; omega), h.1, Nat.sub_self] at h2
    cases h1; cases h2
    exact hs
theorem StepIn.len {W0 : World} {M : Frag} {cs : List Value} {s : StepM} (h : StepIn W0 M cs s) : cs.length = 6 := by
  obtain ⟨nv, sv, rfl, _⟩ := h; rfl
theorem StepsIn.six {W0 : World} {M : Frag} {L : List (List Value)} {xs : List StepM} (h : StepsIn W0 M L xs) : ∀ c ∈ L, c.length = 6 := by
  intro c hc
  obtain ⟨i, hi⟩ := List.mem_iff_getElem?.1 hc
  have hil := (List.getElem?_eq_some_iff.1 hi).1
  exact (h.2 i c _ hi (List.getElem?_eq_getElem (by have := h.1; omega))).len
theorem StepsIn.flat {W0 : World} {M : Frag} {L : List (List Value)} {xs : List StepM} (h : StepsIn W0 M L xs) : L.flatten.length = xs.length * 6 := by
  rw [flat_len L h.six, h.1]
/-- the slice that owns the row reads the steps -/
theorem StepsIn.stepsOf {W0 W : World} {M F : Frag} {v : Value} {L : List (List Value)} {xs : List StepM} {e : TypeId} (h : StepsIn W0 M L xs) (hR : Rw e 6 v xs.length L.flatten F) (hS : St W0 W (F ++ M)) : StepsOf W v xs ∧ NilOk W v := by
  have hM := hS.appR
  obtain ⟨h1, h2⟩ := hR
  rcases h2 with ⟨rfl, h0, rfl⟩ | ⟨g, cap, cur, rfl, rfl, hn, hc, hs, ht⟩
  · rw [List.length_eq_zero_iff] at h0; subst h0
    exact ⟨⟨none, 0, rfl, Nat.le_refl _, by unfold maxLen; omega, fun h => absurd rfl h⟩, fun b o n cap e => by cases e⟩
  · have hg : W.heap[g]? = some (.cells cur e (0, 0)) := hS.get
    have hcell : ∀ (i j : Nat) cs x, L[i]? = some cs → j < 6 → cs[j]? = some x → W.cell? ⟨g, i * 6 + j, none⟩ = some x := by
      intro i j cs x hi hj hx
      have hil := (List.getElem?_eq_some_iff.1 hi).1
      have := h.1
      rw [← flat_get L h.six i j hj cs hi, ← ht, List.getElem?_take_of_lt (by omega)] at hx
      simpa [World.cell?, hg] using hx
    refine ⟨⟨some ⟨g, 0, none⟩, cap, rfl, hn, hc, fun _ => ⟨g, 0, rfl, fun i s hi => ?_⟩⟩, ?_⟩
    · have hil := (List.getElem?_eq_some_iff.1 hi).1
      obtain ⟨cs, hcs⟩ : ∃ cs, L[i]? = some cs := ⟨_, List.getElem?_eq_getElem (by have := h.1; omega)⟩
      obtain ⟨nv, sv, e, r1, r2⟩ := h.2 i cs s hcs hi
      refine ⟨cs.toArray, ⟨nv, sv, by rw [e]; rfl, r1.rowOf hM, r2.rowOf hM⟩, fun j x hx => ?_⟩
      have hx' : cs[j]? = some x := by simpa using hx
      have hj : j < 6 := by have := (List.getElem?_eq_some_iff.1 hx').1; rw [e] at this; simpa using this
      rw [Nat.zero_add]
      exact hcell i j cs x hcs hj hx'
    · intro b o n cap' e0 i hi l c
      cases e0
      obtain ⟨cs, hcs⟩ : ∃ cs, L[i]? = some cs := ⟨_, List.getElem?_eq_getElem (by have := h.1; omega)⟩
      obtain ⟨nv, sv, e, r1, r2⟩ := h.2 i cs _ hcs (List.getElem?_eq_getElem hi)
      have c1 := hcell i 1 cs nv hcs (by omega) (by rw [e]; rfl)
      have c2 := hcell i 2 cs sv hcs (by omega) (by rw [e]; rfl)
      rw [Nat.zero_add, c1, c2]
      exact ⟨fun q => r1.vnil l c (Option.some.inj q), fun q => r2.vnil l c (Option.some.inj q)⟩
end Go.Proofs.YtijlfggficjamaaDoor

namespace Go.Proofs.YtijlfggficjamaaDoor
set_option linter.unusedVariables false
set_option linter.unusedSimpArgs false
open Go Go.RowKit Go.ChangeShapes Go.WideShapes Go.ChangeAt Go.Deep
open Go.Lib (hid)
section
variable {H : Type} {enc : TypeId × Value → H} {w : World} {base : Nat} {held : Bool}
theorem vnil_nil : VNil (.slice none 0 0) := fun n c e => by cases e; exact ⟨rfl, rfl⟩
theorem vnil_some (a : Addr) (n c : Nat) : VNil (.slice (some a) n c) := fun n c e => by cases e
theorem open_ints_nil {fuel : Nat} {cs : List Value} {x : DataW H × List MemPlace} (h : DataW.trod enc Tryd.prog w base (fun _ => true) held fuel 27 cs = some x) : ∃ v, cs = [v] ∧ VNil v := by
  rcases open_ints Tryd.underlying27 Tryd.underlying3 (by kernel_rfl) h with ⟨rfl, rfl⟩ | ⟨a, len, cap, zs, rfl, _⟩
  · exact ⟨_, rfl, vnil_nil⟩
  · exact ⟨_, rfl, vnil_some _ _ _⟩
theorem open_strs_nil {fuel : Nat} {cs : List Value} {x : DataW H × List MemPlace} (h : DataW.trod enc Tryd.prog w base (fun _ => true) held fuel 28 cs = some x) : ∃ v, cs = [v] ∧ VNil v := by
  rcases open_strings Tryd.underlying28 Tryd.underlying9 (by kernel_rfl) h with ⟨rfl, rfl⟩ | ⟨a, len, cap, zs, rfl, _⟩
  · exact ⟨_, rfl, vnil_nil⟩
  · exact ⟨_, rfl, vnil_some _ _ _⟩
set_option maxRecDepth 100000 in
theorem open_step_nil {fuel : Nat} {cs : List Value} {x : DataW H × List MemPlace} (h : DataW.trod enc Tryd.prog w base (fun _ => true) held fuel 32 cs = some x) :
    ∃ nv sv, cs[1]? = some nv ∧ cs[2]? = some sv ∧ VNil nv ∧ VNil sv := by
  obtain ⟨ys, n, rfl, rfl, hl, hyl, hf⟩ := DataW.trod_struct Tryd.underlying32 h
  have h6 : cs.length = 6 := by rw [hl]; kernel_rfl
  match cs, h6 with
  | [c0, c1, c2, c3, c4, c5], _ =>
    match ys, hyl with
    | [y0, y1, y2, y3], _ =>
      have f1 := hf 1 _ rfl
      have f2 := hf 2 _ rfl
      simp only [List.drop_succ_cons, List.drop_zero, show Tryd.prog.cellsOf 3 = 1 by kernel_rfl, show Tryd.prog.cellsOf 27 = 1 by kernel_rfl, show Tryd.prog.cellsOf 28 = 1 by kernel_rfl, show Tryd.prog.cellsOf 30 = 3 by kernel_rfl, List.take_succ_cons, List.take_zero, List.getElem?_cons_zero, List.getElem?_cons_succ] at f1 f2
      obtain ⟨nv, hn, vn⟩ := open_ints_nil f1
      obtain ⟨sv, hs, vs⟩ := open_strs_nil f2
      obtain rfl := (List.cons.inj hn).1; obtain rfl := (List.cons.inj hs).1
      exact ⟨_, _, rfl, rfl, vn, vs⟩
set_option maxRecDepth 100000 in
theorem open_nil {v : Value} {d : DataW H} {p : List MemPlace} {r : Reach} {b0 : Nat} (hv : Value.okWide Tryd.prog w r b0 22 v) (h : DataW.Trod enc Tryd.prog w base (fun _ => true) held 22 v d p) : NilOk w v := by
  obtain ⟨fuel, hf⟩ := h
  obtain ⟨a0, len0, cap0, rfl⟩ := okWide_slice Tryd.underlying22 hv
  rcases open_slice Tryd.underlying22 hf with ⟨he, hx⟩ | ⟨a, len, cap, m, n, D, Pl, hcs, hb, hl, hm, hmm, hx, hi⟩
  · simp [Value.cells] at he
    obtain ⟨rfl, rfl, rfl⟩ := he
    intro b o n cap e
    cases e
  · simp [Value.cells] at hcs
    obtain ⟨rfl, rfl, rfl⟩ := hcs
    simp only [if_true] at hmm
    subst hmm
    have hc6 : Tryd.prog.cellsOf 32 = 6 := by kernel_rfl
    rw [hc6] at hi
    intro b o n' cap' e0 i hil l c
    cases e0
    obtain ⟨cs', hc, ht⟩ := hi i (by omega)
    obtain ⟨_, hcl, hat⟩ := World.cells?_some hc
    obtain ⟨nv, sv, c1, c2, vn, vs⟩ := open_step_nil ht
    have hadd : ∀ j, j ≠ 0 → ((⟨b, o, none⟩ : Addr).add (i * 6)).add j = ⟨b, o + i * 6 + j, none⟩ := by
      intro j hj
      unfold Addr.add
      rw [if_neg hj]
      split
      · rename_i h0; simp [h0]
      · rfl
    have d1 := hat 1 (by omega)
    have d2 := hat 2 (by omega)
    rw [hadd 1 (by omega), c1] at d1
    rw [hadd 2 (by omega), c2] at d2
    rw [d1, d2]
    exact ⟨fun q => vn l c (Option.some.inj q), fun q => vs l c (Option.some.inj q)⟩
end
end Go.Proofs.YtijlfggficjamaaDoor

namespace Go.Proofs.YtijlfggficjamaaDoor
set_option linter.unusedVariables false
set_option linter.unusedSimpArgs false
open Go Go.RowKit
open Go.Lib (hid)

def stepEight : StepM := ⟨8, [], [], 0, 0, 0⟩
theorem eight_ok : stepEight.ok ∧ shown stepEight = true ∧ canon stepEight = stepEight := ⟨⟨by decide, by simp [stepEight], by decide, by simp [stepEight], by decide, by decide, by decide⟩, rfl, rfl⟩
/-- the law's list -/
def backL (xs : List StepM) : List StepM := stepEight :: xs.map cleanM
theorem backL_take (xs : List StepM) (k : Nat) (s : StepM) (h : xs[k]? = some s) : backL (xs.take (k + 1)) = backL (xs.take k) ++ [cleanM s] := by
  have hl := (List.getElem?_eq_some_iff.1 h).1
  have he : xs[k] = s := (List.getElem?_eq_some_iff.1 h).2
  unfold backL
  rw [List.take_succ_eq_append_getElem hl, he, List.map_append]
  rfl
theorem clean_lens (s : StepM) (hn : s.ss.length ≤ 10000000) : (cleanM s).ns.length ≤ 100000000 ∧ (cleanM s).ss.length ≤ 100000000 := by
  have hk := cleanK_in s.kind
  have hs : (rowOf (cleanK s.kind)).s ≤ 1 ∧ (rowOf (cleanK s.kind)).n ≤ 3 := by
    have : ∀ i : Fin 24, (rowOf i.val).s ≤ 1 ∧ (rowOf i.val).n ≤ 3 := by decide +kernel
    exact this ⟨cleanK s.kind, by omega⟩
  unfold cleanM
  simp only
  split
  · exact ⟨by simp, by simp⟩
  · split
    · refine ⟨?_, by simp only; omega⟩
      simp only [fewM_len]
      exact Nat.le_trans (Nat.mul_le_mul hn hs.2) (by decide)
    · exact ⟨by simp only [fewM_len]; omega, by simp only [someM_len]; omega⟩
theorem StepIn.form {W0 : World} {M : Frag} {cs : List Value} {s : StepM} (h : StepIn W0 M cs s) : ∃ a1 n1 c1 a2 n2 c2, cs = [.int .i64 s.kind, .slice a1 n1 c1, .slice a2 n2 c2, .int .i64 s.w, .int .i64 s.c, .int .i64 s.m] := by
  obtain ⟨nv, sv, rfl, h1, h2⟩ := h
  have hf : ∀ {v : Value} {l : List Value}, RowIn W0 M v l → ∃ a n c, v = .slice a n c := by
    intro v l h
    rcases h with ⟨⟨ad, cap, rfl, _⟩, _⟩ | ⟨e, n, F, h1, _⟩
    · exact ⟨_, _, _, rfl⟩
    · obtain ⟨ad, cap, rfl, _⟩ := h1.form
      exact ⟨_, _, _, rfl⟩
  obtain ⟨a1, n1, c1, rfl⟩ := hf h1
  obtain ⟨a2, n2, c2, rfl⟩ := hf h2
  exact ⟨a1, n1, c1, a2, n2, c2, rfl⟩

set_option maxRecDepth 100000 in
set_option maxHeartbeats 4000000 in
theorem comesBack_c (w : World) (v : Value) (xs : List StepM) (hv : StepsOf w v xs) (hnil : NilOk w v) (he : DEnv w) (hok : ∀ s ∈ xs, s.ok) (hwt : wts xs ≤ 1048576) (hlx : xs.length ≤ 1048576) (hln : ∀ s ∈ xs, s.ns.length ≤ 1048576) (hls : ∀ s ∈ xs, s.ss.length ≤ 1048576) :
    Calls Tryd.prog 6 #[v] w fun e w' => e = .returned (.bool true) ∧ Below w.heap.size w w' := by
  obtain ⟨ad, cap, rfl, hlc, hcm, hst⟩ := hv
  unfold maxLen at hcm
  have HST := hid hst; have HNIL := hid hnil; have HE := hid he; have HOK := hid hok; have HLN := hid hln; have HLS := hid hls; have HWT := hid hwt
  clear hst hnil he hok hln hls hwt
  obtain ⟨i0, hi, hz0, hz1, hz2⟩ := info_parts infoStep
  have HP : Hid ((∀ s ∈ backL xs, s.ok ∧ shown s = true ∧ canon s = s)) := hid (by
    intro s hs
    rcases List.mem_cons.1 hs with rfl | hs
    · exact eight_ok
    · obtain ⟨t, ht, rfl⟩ := List.mem_map.1 hs
      exact ⟨clean_ok (HOK.out t ht), clean_shown t, clean_canon t⟩)
  have HD : Hid (decS (textL (backL xs)) = .ok (backL xs) ∧ (textL (backL xs)).count 10 = (backL xs).length) := hid (dec_clean _ HP.out)
  have HW : Hid (wts (backL xs) ≤ 2097153) := hid (by
    have h1 := wts_clean xs
    have h2 := HWT.out
    simp only [wts, backL, List.map_cons, List.sum_cons, stepEight, StepM.wt, List.length_nil, sizeSum, List.map_nil, List.sum_nil] at *
    omega)
  have HTL : Hid ((textL (backL xs)).length ≤ 314572950) := hid (by
    have h1 := text_len (backL xs) (fun s hs => (HP.out s hs).1)
    have h2 := HW.out
    omega)
  go_enter Tryd.func6, Tryd.ntmps6
  go_wp2_with fail
  have HI0 : StepsIn w [] [[.int .i64 8, .slice none 0 0, .slice none 0 0, .int .i64 0, .int .i64 0, .int .i64 0]] (backL (xs.take 0)) := (StepsIn.nil w []).snoc (s := stepEight) ⟨_, _, rfl, RowIn.nil _ _, RowIn.nil _ _⟩
  go_loopw [3, 4] (fun lv i wr => ∃ (k : Nat) (F M : Frag) (L : List (List Value)) (v : Value), v = lv ∧ i = .int .i64 k ∧ k ≤ xs.length ∧ Rw 32 6 v (k + 1) L.flatten F ∧ StepsIn w M L (backL (xs.take k)) ∧ St w wr (F ++ M)) (fun _ i _ => xs.length - (intOf i).toNat)
  case atStart => exact ⟨0, [(w.heap.size, .cells #[.int .i64 8, .slice none 0 0, .slice none 0 0, .int .i64 0, .int .i64 0, .int .i64 0] 32)], [], [[.int .i64 8, .slice none 0 0, .slice none 0 0, .int .i64 0, .int .i64 0, .int .i64 0]], _, rfl, rfl, Nat.zero_le _, Rw.lit 32 6 1 w.heap.size #[.int .i64 8, .slice none 0 0, .slice none 0 0, .int .i64 0, .int .i64 0, .int .i64 0] rfl (by unfold maxLen; omega), HI0, (St.refl w).alloc _⟩
  case round =>
    obtain ⟨k, F, M, L, lv, rfl, rfl, hk, hR, hI, hS⟩ := hrel
    clear HI0
    by_cases hlt : k < xs.length
    · obtain ⟨s, hs⟩ : ∃ s, xs[k]? = some s := ⟨_, List.getElem?_eq_getElem hlt⟩
      have hls := HLS.out s (List.mem_of_getElem? hs)
      have HTK := hid (backL_take xs k s hs)
      obtain ⟨b, o, rfl, hcs⟩ := HST.out (by intro e; rw [e] at hlt; simp at hlt)
      obtain ⟨cs, ⟨nv, sv, rfl, hn, hsv⟩, hcell⟩ := hcs k s hs
      have vn : VNil nv := fun n c e => by subst e; exact (HNIL.out b o _ _ rfl k hlt n c).1 (hcell 1 _ rfl)
      have vs : VNil sv := fun n c e => by subst e; exact (HNIL.out b o _ _ rfl k hlt n c).2 (hcell 2 _ rfl)
      have HC := hid (clean_c w wr (F ++ M) hS nv sv s hn hsv vn vs (by omega))
      obtain ⟨K, ns, ss, sw, sc, sm⟩ := s
      simp only at hls
      have q0 : wr.cell? ⟨b, o + k * 6, none⟩ = some (.int .i64 K) := hS.old (hcell 0 _ rfl)
      have q1 : wr.cell? ⟨b, o + k * 6 + 1, none⟩ = some (nv) := hS.old (hcell 1 _ rfl)
      have q2 : wr.cell? ⟨b, o + k * 6 + 2, none⟩ = some (sv) := hS.old (hcell 2 _ rfl)
      have q3 : wr.cell? ⟨b, o + k * 6 + 3, none⟩ = some (.int .i64 sw) := hS.old (hcell 3 _ rfl)
      have q4 : wr.cell? ⟨b, o + k * 6 + 4, none⟩ = some (.int .i64 sc) := hS.old (hcell 4 _ rfl)
      have q5 : wr.cell? ⟨b, o + k * 6 + 5, none⟩ = some (.int .i64 sm) := hS.old (hcell 5 _ rfl)
      have HS := hid hS; have HR := hid hR; have HI := hid hI
      clear hS hR hI hcs hcell hn hsv vn vs hs
      unfold StepM.cells at HC
      have m0 : (0 : Int) ≤ (k : Int) * 6 := by omega
      go_wp2_with fail
      refine HC.out.mono ?_
      intro e w1 hp1
      obtain ⟨cs, M', rfl, hI', hS'⟩ := hp1
      obtain ⟨a1, n1, c1, a2, n2, c2, rfl⟩ := hI'.form
      have HS1 := hid (HS.out.call hS').rot
      have HI1 : Hid (StepsIn w (M' ++ M) (L ++ [_]) (backL (xs.take (k + 1)))) := hid (by
        rw [HTK.out]
        exact (HI.out.mono (fun x hx => List.mem_append_right _ hx)).snoc (hI'.mono (fun x hx => List.mem_append_left _ hx)))
      clear HC hI' hS' q0 q1 q2 q3 q4 q5
      go_wp2_with (at_builtin; refine append_st (by rfl) _ _ 22 (by rfl) 32 i0 stepZero 6 80 Tryd.underlying22 hi hz0 hz1 hz2 (by rfl) (by decide) lv (k + 1) L.flatten F (M' ++ M) (by rfl) HR.out HS1.out 1 w1.heap.size [_, _, _, _, _, _] (by rfl) (by rfl) (by rfl) (by intro u hu; simp at hu; rcases hu with rfl | rfl | rfl | rfl | rfl | rfl <;> rfl) (by unfold maxLen; omega) (by omega) ?_)
      intro v' w2 F' hR' hS'
      have HR' := hid hR'; have HS' := hid hS'
      clear hR' hS'
      go_wp2_with fail
      exact ⟨⟨k + 1, F', M' ++ M, L ++ [_], _, rfl, by go_num, by omega, by simpa using HR'.out, HI1.out, HS'.out⟩, by simp [intOf]; omega⟩
    · have hkn : k = xs.length := by omega
      subst hkn
      rw [List.take_length] at hI
      have hlen : (backL xs).length = xs.length + 1 := by simp [backL]
      have hSO := hI.stepsOf (by rw [hlen]; exact hR) hS
      obtain ⟨adl, capl, rfl, hf1, hf2, _⟩ := hR.form
      have HT := hid (twin_c wr _ (backL xs) hSO.1 hSO.2 (by omega) (fun s hs => by
        rcases List.mem_cons.1 hs with rfl | hs
        · simp [stepEight]
        · obtain ⟨t, ht, rfl⟩ := List.mem_map.1 hs
          exact (clean_lens t (by have := HLS.out t ht; omega)).1) (fun s hs => by
        rcases List.mem_cons.1 hs with rfl | hs
        · simp [stepEight]
        · obtain ⟨t, ht, rfl⟩ := List.mem_map.1 hs
          exact (clean_lens t (by have := HLS.out t ht; omega)).2))
      have HS0 := hid hS.toSt0; have HSO := hid hSO.1
      have HLen := hid hlen
      clear hSO hI hR hS hlt hk hlen HST HNIL HLS HLN
      unfold maxLen at hf2
      go_wp2_with fail
      refine HT.out.mono ?_
      intro e w1 hp1
      obtain ⟨v1, rfl, hv1, hb1⟩ := hp1
      have HS1 := hid (HS0.out.callB hb1)
      have HSO1 := hid (HSO.out.below hb1 (Nat.le_refl _))
      have HTX := hid (playText_c w1 v1 (backL xs) hv1 (HE.out.st HS1.out).tab (HE.out.st HS1.out).tbl (fun s hs => (HP.out s hs).1) (by have := HW.out; omega))
      clear HT hv1 hb1 HSO
      go_wp2_with fail
      refine HTX.out.mono ?_
      rintro e w2 ⟨rfl, hb2⟩
      have HS2 := hid (HS1.out.callB hb2)
      have HSO2 := hid (HSO1.out.below hb2 (Nat.le_refl _))
      clear HTX hb2 HSO1
      obtain ⟨C, hC⟩ : ∃ C, C = S (textL (backL xs)) := ⟨_, rfl⟩
      have hCl : C.data.toList = textL (backL xs) := by rw [hC, S_list]
      have hCs : C.size ≤ 314572950 := by rw [← size_list, hCl]; exact HTL.out
      rw [← hC]
      clear hC
      have HCL := hid hCl
      clear hCl
      go_wp2_with fail
      go_loopw [6, 7] (fun l x wr => ∃ k : Nat, k ≤ C.size ∧ x = .int .i64 k ∧ l = .int .i64 ((C.data.toList.take k).count 10 : Nat) ∧ ∃ m, wr = w2.drewN m) (fun _ x _ => C.size - (RowKit.intOf x).toNat)
      case atStart => exact ⟨0, Nat.zero_le _, rfl, by simp, 0, rfl⟩
      case round =>
        obtain ⟨k, hk, rfl, rfl, m, rfl⟩ := hrel
        by_cases hlt : k < C.size
        · have h256 : (C[k].toNat : Int) < 256 := by have := C[k].toNat_lt; omega
          have hts := take_snoc C k hlt
          obtain ⟨q, hq⟩ : ∃ q : Nat, q = (C.data.toList.take k).count 10 := ⟨_, rfl⟩
          have hql : q ≤ k := by rw [hq]; exact Nat.le_trans (List.count_le_length) (List.length_take_le _ _)
          have HQ := hid hq; have HTS := hid hts
          rw [← hq]
          clear hq hts
          by_cases hn : (C[k].toNat : Int) = 10
          · have hcnt : (C.data.toList.take (k + 1)).count 10 = q + 1 := by
              have h10 : C[k] = 10 := UInt8.toNat_inj.1 (by show _ = 10; omega)
              rw [HTS.out, List.count_append, ← HQ.out, h10]
              rfl
            go_wp2_with fail
            exact ⟨⟨k + 1, by omega, by go_num, by rw [hcnt]; go_num, _, rfl⟩, by simp [RowKit.intOf]; omega⟩
          · have hcnt : (C.data.toList.take (k + 1)).count 10 = q := by
              rw [HTS.out, List.count_append, ← HQ.out, List.count_eq_zero.2 (fun hm => hn (by rw [List.mem_singleton] at hm; rw [← hm]; rfl))]
              rfl
            go_wp2_with fail
            exact ⟨⟨k + 1, by omega, by go_num, by rw [hcnt], _, rfl⟩, by simp [RowKit.intOf]; omega⟩
        · have hek : (C.data.toList.take k).count 10 = xs.length + 1 := by
            rw [List.take_of_length_le (by rw [size_list]; omega), HCL.out, HD.out.2, HLen.out]
          rw [hek]
          have HS3 := hid (HS2.out.drewN m)
          have HDC := hid (playDecode_c C (w2.drewN m) (by omega) (HE.out.st HS3.out))
          go_wp2_with fail
          refine HDC.out.mono ?_
          intro e w3 hp3
          unfold DecPost at hp3
          rw [HCL.out, HD.out.1] at hp3
          obtain ⟨v3, F3, rfl, hM3, hS3⟩ := hp3
          have hso := hid (hM3.stepsOf hS3)
          have HS4 := hid (HS3.out.callB hS3.below)
          have HSO4 := hid ((steps_drewN HSO2.out m).below hS3.below (Nat.le_refl _))
          clear HDC hM3 hS3
          go_wp2_with fail
          refine (sameSteps_c w3 _ _ (backL xs) hso.out HSO4.out).mono ?_
          rintro e w4 ⟨rfl, m4, rfl⟩
          go_wp2_with fail
          go_ret
          exact ⟨rfl, drewN_below HS4.out.below _⟩
end Go.Proofs.YtijlfggficjamaaDoor
