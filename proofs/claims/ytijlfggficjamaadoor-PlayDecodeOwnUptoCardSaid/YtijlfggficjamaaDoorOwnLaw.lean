/- twin with what its answer owns; rows written over in place and grown; the walk of parted; the walk of the law PlayDecodeOwn. -/
import Derived.Test.YtijlfggficjamaaDoorBackKinds
import Derived.Test.YtijlfggficjamaaDoorPlayTwin
import Derived.Test.YtijlfggficjamaaDoorDecLaw
import Derived.Deep.DeepCutAuto
import Derived.Deep.CutRange
import Derived.ArgAppend
import Derived.Deep.DeepAppendRoom
import Derived.StillTailTactics
import Derived.Deep.QuietTactic
import Derived.BigQuiet
import Derived.Test.YtijlfggficjamaaDoorBackLaw
namespace Go.Proofs.YtijlfggficjamaaDoor
set_option linter.unusedVariables false
set_option linter.unusedSimpArgs false
open Go Go.RowKit
open Go.Lib (hid)

/-- what a call has made for its own, as a fragment -/
theorem St.ofOwn {W W' : World} {e : TypeId} {size n : Nat} {v : Value} {l : List Value} (h : W'.ownsRow W.heap.size e size v n l) (hb : Below W.heap.size W W') : ∃ F, Rw e size v n l F ∧ St W W' F := by
  obtain ⟨h1, h2⟩ := h
  rcases h2 with ⟨rfl, h0⟩ | ⟨g, cap, cur, rfl, hg, hc, hn, hm, hs, ht⟩
  · exact ⟨[], ⟨h1, .inl ⟨rfl, h0, rfl⟩⟩, ⟨hb, by simp, by simp⟩⟩
  · exact ⟨[(g, .cells cur e (0, 0))], ⟨h1, .inr ⟨g, cap, cur, rfl, rfl, hn, hm, hs, ht⟩⟩, ⟨hb, by intro x hx; simp at hx; subst hx; exact ⟨hg, hc⟩, by simp⟩⟩
/-- append(a new empty list, row...) -/
theorem append_row_st {P : Program} {W0 W : World} {M : Frag} {ops : Array Oper} {rest : List Oper} {o : Oper} {a : Act} {Q : Exit → Act → World → Prop} (hgd : o.guard = none) (s x : Operand) (t : TypeId)
    (ho : o.op = .call { callee := .builtin .append, args := #[s, x], argTypes := #[t, t] })
    (e : TypeId) (i : TypeInfo) (z : Value) (bytes : Nat) (ht : P.underlying t = some (.slice e)) (hi : P.info? e = some i) (hz : i.zero = some z)
    (hsize : i.size = 1) (hby : i.bytes = bytes) (hzs : z.cells.size = 1) (hS : St W0 W M)
    (g : Nat) (hg : g = W.heap.size) (hs : a.eval s = .slice (some ⟨g, 0, none⟩) 0 0)
    (xv : Value) (vals : List Value) (hx : a.eval x = xv) (hrow : RowOf W xv vals) (hnil : VNil xv) (h1 : ∀ u ∈ vals, u.oneCell' = true)
    (h63 : vals.length ≤ maxLen) (hbytes : vals.length * bytes ≤ 140737488355328)
    (h : ∀ v' w' F', Rw e 1 v' vals.length vals F' → St W0 w' (F' ++ M) → wpList P ops Q rest (a.put o.dst v') w') : wpList P ops Q (o :: rest) a (W.alloc (.cells #[] e)) := by
  subst hg
  have hb0 : Below W.heap.size W (W.alloc (.cells #[] e)) := (Below.refl _ _).alloc (Nat.le_refl _) _
  refine wpList_append_row hgd s x t ho W.heap.size e i z bytes ht hi hz hsize hby hzs (.slice (some ⟨W.heap.size, 0, none⟩) 0 0) hs
    (World.ownsRow_lit (base := W.heap.size) (e := e) (size := 1) W #[] 0 (Nat.le_refl _) (by unfold maxLen; omega) rfl) xv vals hx (hrow.below hb0 (Nat.le_refl _)) hnil h1 h63 hbytes (by rw [World.size_alloc]; omega) ?_
  intro v' w' h2 h3
  have hb : Below W.heap.size W w' := hb0.grown h3 (by rw [World.size_alloc]; omega) (fun k hk => by simp [Value.ownBlock] at hk; omega)
  obtain ⟨F', hR, hS'⟩ := St.ofOwn h2 hb
  exact h v' w' F' hR (hS.call hS')
theorem StepRows.take_snoc {xs : List StepM} {k : Nat} {s : StepM} {L : List (List Value)} {F F1 : Frag} {cs : List Value} (h : StepRows (xs.take k) L F) (hs : xs[k]? = some s) (h1 : StepFr s (.agg cs.toArray) F1) : StepRows (xs.take (k + 1)) (L ++ [cs]) (F ++ F1) := by
  have hl := (List.getElem?_eq_some_iff.1 hs).1
  have he : xs[k] = s := (List.getElem?_eq_some_iff.1 hs).2
  rw [List.take_succ_eq_append_getElem hl, he]
  exact h.snoc h1

set_option maxRecDepth 100000 in
set_option maxHeartbeats 4000000 in
theorem twin_st (w : World) (v : Value) (xs : List StepM) (hv : StepsOf w v xs) (hnil : NilOk w v) (hlx : xs.length ≤ 10000000) (hln : ∀ s ∈ xs, s.ns.length ≤ 100000000) (hls : ∀ s ∈ xs, s.ss.length ≤ 100000000) :
    Calls Tryd.prog 13 #[v] w fun e w' => ∃ v' F, e = .returned v' ∧ StepsM v' xs F ∧ St w w' F := by
  obtain ⟨ad, cap, rfl, hlc, hcm, hst⟩ := hv
  unfold maxLen at hcm
  have HNIL := hid hnil; have HST := hid hst; have HLN := hid hln; have HLS := hid hls
  clear hst hln hls hnil
  obtain ⟨i0, hi, hz0, hz1, hz2⟩ := parts3 some_info
  obtain ⟨i1, hi1, hy0, hy1, hy2⟩ := parts3 few_info
  obtain ⟨i2, hi2, hx0, hx1, hx2⟩ := info_parts infoStep
  go_enter Tryd.func13, Tryd.ntmps13
  go_wp2_with fail
  go_loopw [3, 4] (fun lv i wr => ∃ (k : Nat) (F0 F1 : Frag) (L : List (List Value)) (v : Value), v = lv ∧ i = .int .i64 k ∧ k ≤ xs.length ∧ Rw 32 6 v k L.flatten F0 ∧ StepRows (xs.take k) L F1 ∧ St w wr (F0 ++ F1)) (fun _ i _ => xs.length - (intOf i).toNat)
  case atStart => exact ⟨0, [], [], [], _, rfl, rfl, Nat.zero_le _, Rw.nil _ _, rfl, St.refl w⟩
  case round =>
    obtain ⟨k, F0, F1, L, lv, rfl, rfl, hk, hR, hQ, hS⟩ := hrel
    by_cases hlt : k < xs.length
    · obtain ⟨s, hs⟩ : ∃ s, xs[k]? = some s := ⟨_, List.getElem?_eq_getElem hlt⟩
      have hln := HLN.out s (List.mem_of_getElem? hs)
      have hls := HLS.out s (List.mem_of_getElem? hs)
      obtain ⟨b, o, rfl, hcs⟩ := HST.out (by intro e; rw [e] at hlt; simp at hlt)
      obtain ⟨cs, ⟨nv, sv, rfl, hn, hsv⟩, hcell⟩ := hcs k s hs
      have vn : VNil nv := fun n c e => by subst e; exact (HNIL.out b o _ _ rfl k hlt n c).1 (hcell 1 _ rfl)
      have vs : VNil sv := fun n c e => by subst e; exact (HNIL.out b o _ _ rfl k hlt n c).2 (hcell 2 _ rfl)
      have HQ : Hid (∀ cs F, StepFr s (.agg cs.toArray) F → StepRows (xs.take (k + 1)) (L ++ [cs]) (F1 ++ F)) := hid (fun cs F h => hQ.take_snoc hs h)
      obtain ⟨K, ns, ss, sw, sc, sm⟩ := s
      simp only at hls hln hn hsv
      obtain ⟨a1, c1, rfl, p1, p2, p3⟩ := hn
      obtain ⟨a2, c2, rfl, p4, p5, p6⟩ := hsv
      rw [ints_len] at p1 vn hcell
      rw [strs_len] at p4 vs hcell
      have HN : Hid (∀ W M, St w W M → RowOf W (.slice a1 ns.length c1) (ints ns)) := hid (fun W M h => RowOf.below (w := w) ⟨a1, c1, by rw [ints_len], by rw [ints_len]; exact p1, p2, p3⟩ h.below (Nat.le_refl _))
      have HSV : Hid (∀ W M, St w W M → RowOf W (.slice a2 ss.length c2) (strs ss)) := hid (fun W M h => RowOf.below (w := w) ⟨a2, c2, by rw [strs_len], by rw [strs_len]; exact p4, p5, p6⟩ h.below (Nat.le_refl _))
      have VN := hid vn; have VS := hid vs
      have q0 : wr.cell? ⟨b, o + k * 6, none⟩ = some (.int .i64 K) := hS.old (hcell 0 _ rfl)
      have q1 : wr.cell? ⟨b, o + k * 6 + 1, none⟩ = some (.slice a1 ns.length c1) := hS.old (hcell 1 _ rfl)
      have q2 : wr.cell? ⟨b, o + k * 6 + 2, none⟩ = some (.slice a2 ss.length c2) := hS.old (hcell 2 _ rfl)
      have q3 : wr.cell? ⟨b, o + k * 6 + 3, none⟩ = some (.int .i64 sw) := hS.old (hcell 3 _ rfl)
      have q4 : wr.cell? ⟨b, o + k * 6 + 4, none⟩ = some (.int .i64 sc) := hS.old (hcell 4 _ rfl)
      have q5 : wr.cell? ⟨b, o + k * 6 + 5, none⟩ = some (.int .i64 sm) := hS.old (hcell 5 _ rfl)
      have C1 : Hid (w.cell? ⟨b, o + k * 6 + 1, none⟩ = some (.slice a1 ns.length c1)) := hid (hcell 1 _ rfl)
      have C2 : Hid (w.cell? ⟨b, o + k * 6 + 2, none⟩ = some (.slice a2 ss.length c2)) := hid (hcell 2 _ rfl)
      have HR := hid hR
      clear hR hcs hcell vn vs hs hQ p3 p6
      unfold maxLen at p2 p5
      have m0 : (0 : Int) ≤ (k : Int) * 6 := by omega
      have hb : wr.heap.size = wr.heap.size := rfl
      go_upto_region 6 with (fail)
      refine (hS.alloc (.cells #[.int .i64 K, .slice a1 ns.length c1, .slice a2 ss.length c2, .int .i64 sw, .int .i64 sc, .int .i64 sm] 32)).nameC ?_
      clear hS q0 q1 q2 q3 q4 q5
      intro W1 hS
      have q1 := hS.old C1.out
      have hlb : b < W1.heap.size := World.block_lt_of_cell? W1 _ q1
      have HS := hid hS
      clear hS
      go_wp2_with (at_builtin; refine append_row_st (by rfl) _ _ 27 (by rfl) 3 i1 (.int .i64 0) 8 Tryd.underlying27 hi1 hy0 hy1 hy2 (by rfl) HS.out W1.heap.size (by rfl) (by rfl) (.slice a1 ns.length c1) (ints ns) (by rfl) (HN.out _ _ HS.out) VN.out (by intro u hu; simp [ints] at hu; obtain ⟨x, _, rfl⟩ := hu; rfl) (by rw [ints_len]; unfold maxLen; omega) (by rw [ints_len]; omega) ?_)
      intro v1 w2 G1 hR1 hS
      obtain ⟨d1, k1, rfl, _⟩ := hR1.form
      have HR1 := hid hR1
      have hS := hS.mid
      rw [ints_len]
      have y1 := hS.cellH 1; have z1 := hS.freeH 1
      simp only [List.getElem?_toArray, List.getElem?_cons_zero, List.getElem?_cons_succ] at y1
      clear hR1 q1 HS
      go_upto_region 7 with (fail)
      refine (hS.set 1 _).nameC ?_
      clear hS y1 z1
      intro W3 hS
      simp only [List.setIfInBounds_toArray, List.set_cons_succ, List.set_cons_zero] at hS
      have q2 := hS.old C2.out
      have hlb3 : b < W3.heap.size := World.block_lt_of_cell? W3 _ q2
      have HS := hid hS
      clear hS
      go_wp2_with (at_builtin; refine append_row_st (by rfl) _ _ 28 (by rfl) 9 i0 (.string ⟨#[]⟩) 16 Tryd.underlying28 hi hz0 hz1 hz2 (by rfl) HS.out W3.heap.size (by rfl) (by rfl) (.slice a2 ss.length c2) (strs ss) (by rfl) (HSV.out _ _ HS.out) VS.out (by intro u hu; simp [strs] at hu; obtain ⟨x, _, rfl⟩ := hu; rfl) (by rw [strs_len]; unfold maxLen; omega) (by rw [strs_len]; omega) ?_)
      intro v2 w4 G2 hR2 hS
      obtain ⟨d2, k2, rfl, _⟩ := hR2.form
      have HR2 := hid hR2
      have hS := hS.mid
      rw [strs_len]
      have y1 := hS.cellH 2; have z1 := hS.freeH 2
      simp only [List.getElem?_toArray, List.getElem?_cons_zero, List.getElem?_cons_succ] at y1
      clear hR2 q2 HS
      go_upto_region 8 with (fail)
      refine (hS.set 2 _).nameC ?_
      clear hS y1 z1
      intro W5 hS
      simp only [List.setIfInBounds_toArray, List.set_cons_succ, List.set_cons_zero] at hS
      have y0 := hS.cellH 0; have y1 := hS.cellH 1; have y2 := hS.cellH 2; have y3 := hS.cellH 3; have y4 := hS.cellH 4; have y5 := hS.cellH 5
      simp only [List.getElem?_toArray, List.getElem?_cons_zero, List.getElem?_cons_succ] at y0 y1 y2 y3 y4 y5
      have HSP : Hid (St w W5 (F0 ++ (F1 ++ (G1 ++ G2)))) := hid (hS.tail.perm (by
        have h1 : (G2 ++ (G1 ++ (F0 ++ F1))).Perm ((G1 ++ (F0 ++ F1)) ++ G2) := List.perm_append_comm
        have h2 : (G1 ++ (F0 ++ F1)).Perm ((F0 ++ F1) ++ G1) := List.perm_append_comm
        have h3 := h1.trans (h2.append_right G2)
        simp only [List.append_assoc] at h3 ⊢
        exact h3.symm))
      clear hS
      go_wp2_with (at_builtin; refine append_st (by rfl) _ _ 22 (by rfl) 32 i2 stepZero 6 80 Tryd.underlying22 hi2 hx0 hx1 hx2 (by rfl) (by decide) lv k L.flatten F0 (F1 ++ (G1 ++ G2)) (by rfl) HR.out HSP.out 1 W5.heap.size [_, _, _, _, _, _] (by rfl) (by rfl) (by rfl) (by intro u hu; simp at hu; rcases hu with rfl | rfl | rfl | rfl | rfl | rfl <;> rfl) (by unfold maxLen; omega) (by omega) ?_)
      intro v6 w6 F6 hR6 hS6
      have HR6 := hid hR6; have HS6 := hid hS6
      have HQ6 := hid (HQ.out [.int .i64 K, .slice d1 ns.length k1, .slice d2 ss.length k2, .int .i64 sw, .int .i64 sc, .int .i64 sm] (G1 ++ G2) ⟨_, _, G1, G2, rfl, rfl, by have := HR1.out; rwa [ints_len] at this, by have := HR2.out; rwa [strs_len] at this⟩)
      clear hR6 hS6 y0 y1 y2 y3 y4 y5
      go_wp2_with fail
      exact ⟨⟨k + 1, F6, F1 ++ (G1 ++ G2), L ++ [_], _, rfl, by go_num, by omega, by simpa using HR6.out, HQ6.out, HS6.out⟩, by simp [intOf]; omega⟩
    · have hkn : k = xs.length := by omega
      subst hkn
      rw [List.take_length] at hQ
      have H : Hid (StepsM lv xs (F0 ++ F1)) := hid ⟨L, F0, F1, rfl, hR, hQ⟩
      have HS := hid hS
      clear hR hQ hS
      go_wp2_with fail
      go_ret
      exact ⟨_, _, rfl, H.out, HS.out⟩
end Go.Proofs.YtijlfggficjamaaDoor

namespace Go.Proofs.YtijlfggficjamaaDoor
set_option linter.unusedVariables false
set_option linter.unusedSimpArgs false
open Go Go.RowKit
open Go.Lib (hid)

/-- the first j are f of what they were -/
def upd {α : Type} (f : α → α) (j : Nat) (l : List α) : List α := (l.take j).map f ++ l.drop j
theorem upd_zero {α : Type} (f : α → α) (l : List α) : upd f 0 l = l := by simp [upd]
theorem upd_len {α : Type} (f : α → α) (j : Nat) (l : List α) : (upd f j l).length = l.length := by simp [upd]; omega
theorem upd_full {α : Type} (f : α → α) (l : List α) : upd f l.length l = l.map f := by simp [upd]
theorem upd_get {α : Type} (f : α → α) (j : Nat) (l : List α) (h : j < l.length) : (upd f j l)[j]? = l[j]? := by
  unfold upd
  have hl : ((l.take j).map f).length = j := by simp; omega
  rw [List.getElem?_append_right (by omega), hl, Nat.sub_self, List.getElem?_drop, Nat.add_zero]
theorem upd_set {α : Type} (f : α → α) (j : Nat) (l : List α) (h : j < l.length) : (upd f j l).set j (f l[j]) = upd f (j + 1) l := by
  unfold upd
  have hl : ((l.take j).map f).length = j := by simp; omega
  rw [List.set_append, if_neg (by omega), hl, Nat.sub_self, List.drop_eq_getElem_cons h, List.set_cons_zero, List.take_succ_eq_append_getElem h, List.map_append]
  simp
theorem ints_set (l : List Int) (j : Nat) (x : Int) : (ints l).set j (.int .i64 x) = ints (l.set j x) := by simp [ints, List.map_set]
theorem strs_set (l : List ByteArray) (j : Nat) (x : ByteArray) : (strs l).set j (.string x) = strs (l.set j x) := by simp [strs, List.map_set]

/-- a row's cell is written -/
theorem Rw.put {e : TypeId} {v : Value} {n : Nat} {l : List Value} {F M : Frag} {W0 W : World} (h : Rw e 1 v n l F) (hS : St W0 W (F ++ M)) (j : Nat) (hj : j < n) :
    ∃ g cap, v = .slice (some ⟨g, 0, none⟩) n cap ∧ W.cell? ⟨g, j, none⟩ = l[j]? ∧ W.frozen? ⟨g, j, none⟩ = false ∧ ∀ n' x, ∃ F', Rw e 1 v n (l.set j x) F' ∧ St W0 ((W.drewN n').setCell ⟨g, j, none⟩ x) (F' ++ M) := by
  obtain ⟨hl, h2⟩ := h
  rcases h2 with ⟨rfl, rfl, rfl⟩ | ⟨g, cap, cur, rfl, rfl, h3, h4, h5, h6⟩
  · omega
  · rw [Nat.mul_one] at h5 h6 hl
    refine ⟨g, cap, rfl, ?_, hS.freeH j, fun n' x => ⟨[(g, .cells (cur.setIfInBounds j x) e (0, 0))], ⟨by simp [hl], .inr ⟨g, cap, _, rfl, rfl, h3, h4, by simp [h5], ?_⟩⟩, (hS.drewN n').set j x⟩⟩
    · rw [hS.cellH, ← h6, List.getElem?_take_of_lt hj]; simp
    · rw [Nat.mul_one, Array.toList_setIfInBounds, List.take_set, h6]

/-- a row v that has grown by ks on its base bs, whose cells are as they were -/
def Gro (e : TypeId) (bs v : Value) (n : Nat) (l ks : List Value) (F : Frag) : Prop :=
  (∃ g cap, bs = .slice (some ⟨g, 0, none⟩) n cap ∧ v = .slice (some ⟨g, 0, none⟩) (n + ks.length) cap ∧ Rw e 1 v (n + ks.length) (l ++ ks) F) ∨
  (∃ F1 F2, F = F1 ++ F2 ∧ Rw e 1 bs n l F2 ∧ Rw e 1 v (n + ks.length) (l ++ ks) F1)
theorem Gro.start {e : TypeId} {bs : Value} {n : Nat} {l : List Value} {F : Frag} (h : Rw e 1 bs n l F) : Gro e bs bs n l [] F := by
  have h0 := h
  rcases h.2 with ⟨rfl, rfl, rfl⟩ | ⟨g, cap, cur, rfl, rfl, h3, h4, h5, h6⟩
  · exact .inr ⟨[], [], rfl, h0, by simpa using h0⟩
  · exact .inl ⟨g, cap, rfl, rfl, by simpa using h0⟩
theorem Rw.pre {e : TypeId} {g n m cap : Nat} {l ks : List Value} {F : Frag} (h : Rw e 1 (.slice (some ⟨g, 0, none⟩) (n + m) cap) (n + m) (l ++ ks) F) (hl : l.length = n) : Rw e 1 (.slice (some ⟨g, 0, none⟩) n cap) n l F := by
  obtain ⟨h1, h2⟩ := h
  rcases h2 with ⟨e0, _⟩ | ⟨g', cap', cur, e0, rfl, h3, h4, h5, h6⟩
  · cases e0
  · cases e0
    refine ⟨by omega, .inr ⟨g, cap, cur, rfl, rfl, by omega, h4, h5, ?_⟩⟩
    have := congrArg (List.take n) h6
    rw [Nat.mul_one, List.take_take, Nat.min_eq_left (by omega), ← hl, List.take_left] at this
    rw [Nat.mul_one, ← hl]; exact this
theorem Gro.base {e : TypeId} {bs v : Value} {n : Nat} {l ks : List Value} {F : Frag} (h : Gro e bs v n l ks F) (hl : l.length = n) : ∃ F', Rw e 1 bs n l F' ∧ F'.Sublist F := by
  rcases h with ⟨g, cap, rfl, rfl, hR⟩ | ⟨F1, F2, rfl, h1, h2⟩
  · exact ⟨F, hR.pre hl, List.Sublist.refl _⟩
  · exact ⟨F2, h1, List.sublist_append_right _ _⟩
theorem Gro.form {e : TypeId} {bs v : Value} {n : Nat} {l ks : List Value} {F : Frag} (h : Gro e bs v n l ks F) : ∃ ad cap, v = .slice ad (n + ks.length) cap := by
  rcases h with ⟨g, cap, rfl, rfl, hR⟩ | ⟨F1, F2, rfl, h1, h2⟩
  · exact ⟨_, _, rfl⟩
  · obtain ⟨ad, cap, rfl, _⟩ := h2.form
    exact ⟨_, _, rfl⟩
/-- append(v, u) -/
theorem append_gro {P : Program} {W0 W : World} {ops : Array Oper} {rest : List Oper} {o : Oper} {a : Act} {Q : Exit → Act → World → Prop} (hgd : o.guard = none) (s x : Operand) (t : TypeId)
    (ho : o.op = .call { callee := .builtin .append, args := #[s, x], argTypes := #[t, t] })
    (e : TypeId) (i : TypeInfo) (z : Value) (bytes : Nat) (ht : P.underlying t = some (.slice e)) (hi : P.info? e = some i) (hz : i.zero = some z)
    (hsize : i.size = 1) (hby : i.bytes = bytes) (hzs : z.cells.size = 1)
    (bs v : Value) (n : Nat) (l ks : List Value) (F M : Frag) (hs : a.eval s = v) (hG : Gro e bs v n l ks F) (hS : St W0 W (F ++ M)) (hl : l.length = n)
    (g : Nat) (u : Value) (hx : a.eval x = .slice (some ⟨g, 0, none⟩) 1 1) (hg : g = W.heap.size) (h1 : u.oneCell' = true)
    (h63 : n + ks.length + 1 ≤ maxLen) (hbytes : (n + ks.length + 1) * bytes ≤ 140737488355328)
    (h : ∀ v' W' F', Gro e bs v' n l (ks ++ [u]) F' → St W0 W' (F' ++ M) → wpList P ops Q rest (a.put o.dst v') W') :
    wpList P ops Q (o :: rest) a (W.alloc (.cells #[u] e)) := by
  subst hg
  have hu : ∀ w ∈ [u], w.oneCell' = true := by intro w hw; simp at hw; subst hw; exact h1
  rcases hG with ⟨g, cap, rfl, rfl, hR⟩ | ⟨F1, F2, rfl, hB, hR⟩
  · have hA := (hS.alloc (.cells #[u] e)).tail
    have hnew : ∀ (j : Nat) w, [u][j]? = some w → (W.alloc (.cells #[u] e)).cell? ((⟨W.heap.size, 0, none⟩ : Addr).add j) = some w := news_at (news := [u]) (heap_alloc_new W _)
    by_cases hroom : n + ks.length + 1 ≤ cap
    · refine wpList_append_own_spare _ hgd s x t ho W0.heap.size e i 1 ht hi hsize g (n + ks.length) cap (l ++ ks) hs (hR.owns hA) ⟨W.heap.size, 0, none⟩ 1 1 [u] hx rfl hnew hu hroom ?_
      intro w' h2 h3
      obtain ⟨F', hR', hS'⟩ := St.appended hR hA h2 h3 (fun e => by cases e) (.inl rfl)
      refine h _ _ F' (.inl ⟨g, cap, rfl, by simp [Nat.add_assoc], ?_⟩) hS'
      simpa [Nat.add_assoc] using hR'
    · refine wpList_append_grows _ hgd s x t ho e i z 1 bytes ht hi hz hsize hby hzs (by decide) (some ⟨g, 0, none⟩) (n + ks.length) cap (l ++ ks) hs (fun e => by cases e) (by simp [hl]) (fun b hb j w hj => ?_)
        ⟨W.heap.size, 0, none⟩ 1 1 [u] hx rfl hnew hu (by omega) h63 hbytes ?_
      · cases hb
        obtain ⟨g', c', e', hc⟩ := hR.cells hA (by intro e0; rw [e0] at hj; simp at hj)
        cases e'
        have h0 : (⟨g, 0, none⟩ : Addr).add j = ⟨g, j, none⟩ := by
          unfold Addr.add
          split
          · rename_i h; rw [h]
          · simp
        rw [h0]; exact hc j w hj
      · intro v' w' h2 h3
        obtain ⟨F', hR', hS'⟩ := St.ofOwn h2 ((Below.refl _ _).grown h3 (Nat.le_refl _) (fun k hk => by cases hk))
        have := hA.call hS'
        rw [← List.append_assoc] at this
        refine h v' w' (F' ++ F) (.inr ⟨F', F, rfl, hR.pre hl, ?_⟩) this
        simpa [Nat.add_assoc] using hR'
  · rw [List.append_assoc] at hS
    refine append_st hgd s x t ho e i z 1 bytes ht hi hz hsize hby hzs (by decide) v (n + ks.length) (l ++ ks) F1 (F2 ++ M) hs hR hS 1 W.heap.size [u] hx rfl rfl hu h63 hbytes ?_
    intro v' W' F' hR' hS'
    rw [← List.append_assoc] at hS'
    refine h v' W' (F' ++ F2) (.inr ⟨F', F2, rfl, hB, ?_⟩) hS'
    simpa [Nat.add_assoc] using hR'

/-- one step of the row -/
theorem StepRows.focus : ∀ {xs : List StepM} {L : List (List Value)} {F : Frag} {k : Nat} {s : StepM}, StepRows xs L F → xs[k]? = some s →
    ∃ cs Fa Fs Fb, L[k]? = some cs ∧ F = Fa ++ (Fs ++ Fb) ∧ StepFr s (.agg cs.toArray) Fs ∧ ∀ s' Fs', StepFr s' (.agg cs.toArray) Fs' → StepRows (xs.set k s') L (Fa ++ (Fs' ++ Fb))
  | x :: xs, c :: L, F, 0, s, h, hs => by
    obtain ⟨F1, F2, rfl, h1, h2⟩ := h
    simp at hs; subst hs
    exact ⟨c, [], F1, F2, rfl, rfl, h1, fun s' Fs' h' => ⟨Fs', F2, rfl, h', h2⟩⟩
  | x :: xs, c :: L, F, k + 1, s, h, hs => by
    obtain ⟨F1, F2, rfl, h1, h2⟩ := h
    obtain ⟨cs, Fa, Fs, Fb, e1, rfl, e3, e4⟩ := h2.focus (k := k) (by simpa using hs)
    exact ⟨cs, F1 ++ Fa, Fs, Fb, by simpa using e1, by simp, e3, fun s' Fs' h' => ⟨F1, Fa ++ (Fs' ++ Fb), by simp, h1, e4 s' Fs' h'⟩⟩
  | [], _, _, k, s, _, hs => by simp at hs
  | _ :: _, [], _, _, _, h, _ => h.elim
theorem perm_in (A B F1 F2 C M : Frag) : (F1 ++ (F2 ++ (A ++ (B ++ (C ++ M))))).Perm ((A ++ (B ++ ((F1 ++ F2) ++ C))) ++ M) := by
  have out3 : ∀ (A B C X : Frag), (A ++ (B ++ (C ++ X))).Perm (C ++ (A ++ (B ++ X))) := fun A B C X =>
    ((List.perm_append_comm_assoc B C X).append_left A).trans (List.perm_append_comm_assoc A C (B ++ X))
  have h1 := out3 A B F1 (F2 ++ (C ++ M))
  have h2 := (out3 A B F2 (C ++ M)).append_left F1
  have := (h1.trans h2).symm
  simpa only [List.append_assoc] using this
theorem StepRows.six {xs : List StepM} {L : List (List Value)} {F : Frag} (h : StepRows xs L F) : ∀ c ∈ L, c.length = 6 := by
  intro c hc
  obtain ⟨i, hi⟩ := List.mem_iff_getElem?.1 hc
  have hil := (List.getElem?_eq_some_iff.1 hi).1
  obtain ⟨cs, Fi, e1, ⟨nv, sv, _, _, e2, _⟩, e3⟩ := h.get (i := i) (List.getElem?_eq_getElem (by rw [← h.len]; omega))
  rw [hi] at e1; cases e1
  injection e2 with e2
  have := congrArg Array.size e2
  simpa using this
/-- the heads of a step's lists, where the row of the steps is -/
theorem heads {e : TypeId} {W0 W : World} {v : Value} {n k : Nat} {L : List (List Value)} {F0 M : Frag} {cs : List Value} (hR : Rw e 6 v n L.flatten F0) (h6 : ∀ c ∈ L, c.length = 6) (hk : L[k]? = some cs) (hS : St W0 W (F0 ++ M)) :
    ∃ g cap, v = .slice (some ⟨g, 0, none⟩) n cap ∧ ∀ j x, j < 6 → cs[j]? = some x → W.cell? ⟨g, k * 6 + j, none⟩ = some x := by
  have hkl := (List.getElem?_eq_some_iff.1 hk).1
  have hne : L.flatten ≠ [] := by
    intro e0
    have := flat_len L h6
    rw [e0] at this
    simp at this; omega
  obtain ⟨g, cap, rfl, hc⟩ := hR.cells hS hne
  exact ⟨g, cap, rfl, fun j x hj hx => hc _ _ (by rw [flat_get L h6 k j hj cs hk]; exact hx)⟩
end Go.Proofs.YtijlfggficjamaaDoor

namespace Go.Proofs.YtijlfggficjamaaDoor
set_option linter.unusedVariables false
set_option linter.unusedSimpArgs false
open Go Go.RowKit
open Go.Lib (hid)

def slashMark : ByteArray := ⟨#[47, 109, 97, 114, 107]⟩
def markM (i : Nat) (s : StepM) : StepM := ⟨s.kind, s.ns.map fun _ => -1000 - (i : Int), s.ss.map (· ++ slashMark), s.w, s.c, s.m⟩

theorem cut_mark (y : ByteArray) : (y ++ slashMark).size = y.size + 5 ∧ (y ++ slashMark).extract y.size (y.size + 5) = slashMark := by
  have hl : ∀ x : ByteArray, x.data.toList.length = x.size := fun x => rfl
  have hs : (y ++ slashMark).size = y.size + 5 := by simp [slashMark, ByteArray.size_append]; rfl
  refine ⟨hs, ?_⟩
  apply ByteArray.ext
  apply Array.toList_inj.1
  rw [ByteArray.data_extract, Array.toList_extract, ByteArray.data_append, Array.toList_append]
  simp only [List.extract_eq_take_drop]
  rw [show y.size + 5 - y.size = 5 by omega, ← hl y, List.drop_left]
  rfl
theorem set_same {α : Type} {l : List α} {k : Nat} {s : α} (h : l[k]? = some s) : l.set k s = l := by
  obtain ⟨hl, rfl⟩ := List.getElem?_eq_some_iff.1 h
  exact List.set_getElem_self hl
set_option maxRecDepth 100000 in
set_option maxHeartbeats 4000000 in
theorem parted_c (W0 w : World) (M F : Frag) (v : Value) (xs : List StepM) (hM : StepsM v xs F) (hS : St W0 w (F ++ M)) (hlx : xs.length ≤ 10000000) (hln : ∀ s ∈ xs, s.ns.length ≤ 100000000) (hls : ∀ s ∈ xs, s.ss.length ≤ 100000000) (hss : ∀ s ∈ xs, ∀ x ∈ s.ss, x.size ≤ 1000000000) :
    Calls Tryd.prog 17 #[v] w fun e w' => e = .returned (.bool true) ∧ ∃ F', St W0 w' (F' ++ M) := by
  obtain ⟨L, F0, F1, rfl, hR, hQ⟩ := hM
  obtain ⟨ad, cap, rfl, f1, f2, f3⟩ := hR.form
  unfold maxLen at f2
  have H6 := hid hQ.six
  have HLN := hid hln; have HLS := hid hls; have HR := hid hR; have HSS := hid hss
  clear hln hls hR hss
  obtain ⟨i0, hi, hz0, hz1, hz2⟩ := parts3 some_info
  obtain ⟨i1, hi1, hy0, hy1, hy2⟩ := parts3 few_info
  go_enter Tryd.func17, Tryd.ntmps17
  go_wp2_with fail
  go_loopw [3] (fun i wr => ∃ (k : Nat) (F1 : Frag) (ys : List StepM), k ≤ xs.length ∧ i = .int .i64 k ∧ StepRows ys L F1 ∧ (∀ (i : Nat) s, xs[i]? = some s → ys[i]? = some (if i < k then markM i s else s)) ∧ St W0 wr ((F0 ++ F1) ++ M)) (fun i _ => xs.length - (intOf i).toNat)
  case atStart => exact ⟨0, F1, xs, Nat.zero_le _, rfl, hQ, by simp, hS⟩
  case round =>
    obtain ⟨k, F1, ys, hk, rfl, hQ, hY, hS⟩ := hrel
    by_cases hlt : k < xs.length
    · obtain ⟨s, hs⟩ : ∃ s, xs[k]? = some s := ⟨_, List.getElem?_eq_getElem hlt⟩
      have hln := HLN.out s (List.mem_of_getElem? hs)
      have hls := HLS.out s (List.mem_of_getElem? hs)
      have hys := hY k s hs
      have HSZ := hid (HSS.out s (List.mem_of_getElem? hs))
      rw [if_neg (Nat.lt_irrefl k)] at hys
      obtain ⟨cs, Fa, Fs, Fb, hcs, rfl, ⟨nv, sv, G1, G2, hagg, rfl, hr1, hr2⟩, hput⟩ := hQ.focus hys
      have hcs6 : cs = [.int .i64 s.kind, nv, sv, .int .i64 s.w, .int .i64 s.c, .int .i64 s.m] := by injection hagg with e; exact congrArg Array.toList e
      subst hcs6
      have hS1 := hS.perm (perm_in F0 Fa G1 G2 Fb M)
      obtain ⟨g0, cap0, e0, _⟩ := heads HR.out H6.out hcs hS1.appR.appR
      cases e0
      have HH : Hid (∀ W F F', St W0 W (F ++ (F' ++ (F0 ++ (Fa ++ (Fb ++ M))))) → W.cell? ⟨g0, k * 6 + 1, none⟩ = some nv ∧ W.cell? ⟨g0, k * 6 + 2, none⟩ = some sv) := hid (fun W F F' h => by
        obtain ⟨g, c, e, hc⟩ := heads HR.out H6.out hcs h.appR.appR
        cases e
        exact ⟨hc 1 _ (by omega) rfl, hc 2 _ (by omega) rfl⟩)
      have HPut := hid hput
      have HY := hid hY; have HXS := hid hs; have HCS := hid hcs
      obtain ⟨R, hRR⟩ : ∃ R, R = F0 ++ (Fa ++ (Fb ++ M)) := ⟨_, rfl⟩
      rw [← hRR] at hS1 HH
      have HRR := hid hRR
      clear hRR hput hY hs hcs hS hQ hys hagg
      obtain ⟨a1, c1, rfl, p1, p2, _⟩ := hr1.form
      obtain ⟨a2, c2, rfl, p3, p4, _⟩ := hr2.form
      unfold maxLen at p2 p4
      obtain ⟨K, ns, ss, sw, sc, sm⟩ := s
      simp only at hln hls hr1 hr2 HH p1 p3 HPut HSZ
      obtain ⟨x, hx⟩ : ∃ x : Int, x = -1000 - (k : Int) := ⟨_, rfl⟩
      have HX := hid hx
      clear hx
      have m0 : (0 : Int) ≤ (k : Int) * 6 := by omega
      go_wp2_with fail
      go_loopw [4] (fun jv wr => ∃ (j : Nat) (G1 : Frag), j ≤ ns.length ∧ jv = .int .i64 j ∧ Rw 3 1 (.slice a1 ns.length c1) ns.length (ints (upd (fun _ => x) j ns)) G1 ∧ St W0 wr (G1 ++ (G2 ++ R))) (fun jv _ => ns.length - (intOf jv).toNat)
      case atStart => exact ⟨0, G1, Nat.zero_le _, rfl, by rw [upd_zero]; exact hr1, hS1⟩
      case round =>
        obtain ⟨j, G1, hj, rfl, hr1, hS1⟩ := hrel
        obtain ⟨q1, q2⟩ := HH.out _ _ _ hS1
        by_cases hlj : j < ns.length
        · obtain ⟨g, c, e, hc, hf, hw⟩ := hr1.put hS1 j hlj
          cases e
          obtain ⟨F', hw1, hw2⟩ := hw 0 (.int .i64 x)
          rw [ints_set, show x = (fun _ => x) ns[j] from rfl, upd_set _ _ _ hlj] at hw1
          have hc' : wr.cell? ⟨g, j, none⟩ = some (.int .i64 ns[j]) := by
            rw [hc, ints, List.getElem?_map, upd_get _ _ _ hlj, List.getElem?_eq_getElem hlj]; rfl
          have HW := hid (And.intro hw1 hw2)
          have HX' := HX.out
          clear hw hw1 hw2 hr1 hS1 hc
          go_wp2_with fail
          exact ⟨⟨j + 1, F', by omega, by go_num, HW.out.1, by rw [← HX'] ; exact HW.out.2⟩, by simp [intOf]; omega⟩
        · have hjn : j = ns.length := by omega
          subst hjn
          rw [upd_full] at hr1
          have hS2 : St W0 wr (G2 ++ (G1 ++ R)) := hS1.perm (List.perm_append_comm_assoc _ _ _)
          have HR1 := hid hr1
          clear hr1 hS1 hlj hj
          go_wp2_with fail
          clear q1 q2
          go_loopw [5] (fun jv wr => ∃ (j : Nat) (G2 : Frag), j ≤ ss.length ∧ jv = .int .i64 j ∧ Rw 9 1 (.slice a2 ss.length c2) ss.length (strs (upd (· ++ slashMark) j ss)) G2 ∧ St W0 wr (G2 ++ (G1 ++ R))) (fun jv _ => ss.length - (intOf jv).toNat)
          case atStart => exact ⟨0, G2, Nat.zero_le _, rfl, by rw [upd_zero]; exact hr2, hS2⟩
          case round =>
            obtain ⟨j, G2, hj, rfl, hr2, hS2⟩ := hrel
            obtain ⟨q1, q2⟩ := HH.out _ _ _ hS2
            by_cases hlj : j < ss.length
            · obtain ⟨g, c, e, hc, hf, hw⟩ := hr2.put hS2 j hlj
              cases e
              obtain ⟨y, hy⟩ : ∃ y, y = ss[j] := ⟨_, rfl⟩
              have hy9 : y.size ≤ 1000000000 := by rw [hy]; exact HSZ.out _ (List.getElem_mem hlj)
              have hif : ¬ (9223372036854775807 < y.size + 5) := by omega
              have hc' : wr.cell? ⟨g, j, none⟩ = some (.string y) := by
                rw [hc, strs, List.getElem?_map, upd_get _ _ _ hlj, List.getElem?_eq_getElem hlj, hy]; rfl
              have HW := hid (fun n => (hw n (.string (y ++ slashMark))))
              have HE := hid (upd_set (· ++ slashMark) j ss hlj)
              rw [← hy] at HE
              clear hw hr2 hS2 hc hy
              go_wp2_with fail
              go_still_tail 16, (by kernel_rfl)
              change wpList _ _ _ _ _ wr.drew
              go_wp2_with fail
              obtain ⟨F', hw1, hw2⟩ := HW.out 0
              rw [strs_set, HE.out] at hw1
              exact ⟨⟨j + 1, F', by omega, by go_num, hw1, hw2.drew⟩, by simp [intOf]; omega⟩
            · have hjn : j = ss.length := by omega
              subst hjn
              rw [upd_full] at hr2
              have HR2 := hid hr2; have HS2 := hid hS2
              clear hr2 hS2 hlj hj
              go_wp2_with fail
              refine ⟨⟨k + 1, Fa ++ ((G1 ++ G2) ++ Fb), ys.set k (markM k ⟨K, ns, ss, sw, sc, sm⟩), by omega, by go_num, HPut.out _ _ ⟨_, _, G1, G2, rfl, rfl, ?_, ?_⟩, ?_, ?_⟩, by simp [intOf]; omega⟩
              · have := HR1.out
                rw [HX.out] at this
                simpa only [markM, List.length_map] using this
              · simpa only [markM, List.length_map] using HR2.out
              · intro i t hi
                have hyi := HY.out i t hi
                rw [List.getElem?_set]
                by_cases hik : k = i
                · subst hik
                  rw [HXS.out] at hi
                  cases hi
                  have hl := (List.getElem?_eq_some_iff.1 hyi).1
                  rw [if_pos rfl, if_pos hl, if_pos (Nat.lt_succ_self k)]
                · rw [if_neg hik, hyi]
                  by_cases hlt' : i < k
                  · rw [if_pos hlt', if_pos (by omega)]
                  · rw [if_neg hlt', if_neg (by omega)]
              · have h := HS2.out
                rw [HRR.out] at h
                exact (h.perm (List.perm_append_comm_assoc _ _ _)).perm (perm_in F0 Fa G1 G2 Fb M).symm
    · have hkn : k = xs.length := by omega
      subst hkn
      have HY : Hid (∀ (i : Nat) s, xs[i]? = some s → ys[i]? = some (markM i s)) := hid (fun i s hi => by
        have := hY i s hi
        rwa [if_pos (List.getElem?_eq_some_iff.1 hi).1] at this)
      clear hY hlt hk
      go_wp2_with fail
      go_loopw [6] (fun i wr => ∃ (k : Nat) (F1 : Frag), k ≤ xs.length ∧ i = .int .i64 k ∧ StepRows ys L F1 ∧ St W0 wr ((F0 ++ F1) ++ M)) (fun i _ => xs.length - (intOf i).toNat)
      case atStart => exact ⟨0, F1, Nat.zero_le _, rfl, hQ, hS⟩
      case round =>
        obtain ⟨k, F1, hk, rfl, hQ, hS⟩ := hrel
        by_cases hlt : k < xs.length
        · obtain ⟨s, hs⟩ : ∃ s, xs[k]? = some s := ⟨_, List.getElem?_eq_getElem hlt⟩
          have hln := HLN.out s (List.mem_of_getElem? hs)
          have hls := HLS.out s (List.mem_of_getElem? hs)
          have hys := HY.out k s hs
          obtain ⟨cs, Fa, Fs, Fb, hcs, rfl, ⟨nv, sv, G1, G2, hagg, rfl, hr1, hr2⟩, hput⟩ := hQ.focus hys
          have hcs6 : cs = [.int .i64 (markM k s).kind, nv, sv, .int .i64 (markM k s).w, .int .i64 (markM k s).c, .int .i64 (markM k s).m] := by injection hagg with e; exact congrArg Array.toList e
          subst hcs6
          have hS1 := hS.perm (perm_in F0 Fa G1 G2 Fb M)
          obtain ⟨g0, cap0, e0, _⟩ := heads HR.out H6.out hcs hS1.appR.appR
          cases e0
          have HH : Hid (∀ W F F', St W0 W (F ++ (F' ++ (F0 ++ (Fa ++ (Fb ++ M))))) → W.cell? ⟨g0, k * 6 + 1, none⟩ = some nv ∧ W.cell? ⟨g0, k * 6 + 2, none⟩ = some sv) := hid (fun W F F' h => by
            obtain ⟨g, c, e, hc⟩ := heads HR.out H6.out hcs h.appR.appR
            cases e
            exact ⟨hc 1 _ (by omega) rfl, hc 2 _ (by omega) rfl⟩)
          have HPut : Hid (∀ G1' G2', Rw 3 1 nv (markM k s).ns.length (ints (markM k s).ns) G1' → Rw 9 1 sv (markM k s).ss.length (strs (markM k s).ss) G2' → StepRows ys L (Fa ++ ((G1' ++ G2') ++ Fb))) := hid (fun G1' G2' h1 h2 => by
            have := hput (markM k s) (G1' ++ G2') ⟨nv, sv, G1', G2', rfl, rfl, h1, h2⟩
            rwa [set_same hys] at this)
          obtain ⟨R, hRR⟩ : ∃ R, R = F0 ++ (Fa ++ (Fb ++ M)) := ⟨_, rfl⟩
          rw [← hRR] at hS1 HH
          have HRR := hid hRR
          obtain ⟨ns, hns⟩ : ∃ ns, ns = (markM k s).ns := ⟨_, rfl⟩
          obtain ⟨ss, hss⟩ : ∃ ss, ss = (markM k s).ss := ⟨_, rfl⟩
          have hnl : ns.length ≤ 100000000 := by rw [hns]; simpa [markM] using hln
          have hsl : ss.length ≤ 100000000 := by rw [hss]; simpa [markM] using hls
          rw [← hns] at hr1 HPut
          rw [← hss] at hr2 HPut
          clear hRR hput hs hcs hS hQ hys hagg hns hss hln hls
          obtain ⟨a1, c1, rfl, p1, p2, _⟩ := hr1.form
          obtain ⟨a2, c2, rfl, p3, p4, _⟩ := hr2.form
          unfold maxLen at p2 p4
          have m0 : (0 : Int) ≤ (k : Int) * 6 := by omega
          have hg1 := Gro.start hr1
          have hg2 := Gro.start hr2
          obtain ⟨q1, q2⟩ := HH.out _ _ _ hS1
          clear hr1 hr2
          go_wp2_with fail
          clear q1 q2
          go_loopw [7, 8, 9] (fun n t jv wr => ∃ (j : Nat) (n' t' : Value) (ks ts : List Value) (G1 G2 : Frag), n' = n ∧ t' = t ∧ j ≤ 64 ∧ jv = .int .i64 j ∧ ks.length = j ∧ ts.length = j ∧ Gro 3 (.slice a1 ns.length c1) n' ns.length (ints ns) ks G1 ∧ Gro 9 (.slice a2 ss.length c2) t' ss.length (strs ss) ts G2 ∧ St W0 wr (G1 ++ (G2 ++ R))) (fun _ _ jv _ => 64 - (intOf jv).toNat)
          case atStart => exact ⟨0, _, _, [], [], G1, G2, rfl, rfl, Nat.zero_le _, rfl, rfl, rfl, hg1, hg2, hS1⟩
          case round =>
            obtain ⟨j, n', t', ks, ts, G1, G2, rfl, rfl, hj, rfl, hkl, htl, hg1, hg2, hS1⟩ := hrel
            by_cases hlj : j < 64
            · have HS1 := hid hS1; have HG1 := hid hg1; have HG2 := hid hg2
              clear hS1 hg1 hg2
              go_wp2_with (at_builtin; refine append_gro (by rfl) _ _ 27 (by rfl) 3 i1 (.int .i64 0) 8 Tryd.underlying27 hi1 hy0 hy1 hy2 (by rfl) (.slice a1 ns.length c1) n' ns.length (ints ns) ks G1 (G2 ++ R) (by rfl) HG1.out HS1.out (ints_len ns) _ _ (by rfl) (by rfl) (by rfl) (by unfold maxLen; omega) (by omega) ?_)
              intro n2 W2 G1' hg1' hS2
              have hS2 := hS2.perm (List.perm_append_comm_assoc G2 G1' R)
              have HG1' := hid hg1'; have HS2 := hid hS2
              clear hg1' hS2 HS1 HG1
              go_wp2_with (at_builtin; refine append_gro (by rfl) _ _ 28 (by rfl) 9 i0 (.string ⟨#[]⟩) 16 Tryd.underlying28 hi hz0 hz1 hz2 (by rfl) (.slice a2 ss.length c2) t' ss.length (strs ss) ts G2 (G1' ++ R) (by rfl) HG2.out HS2.out (strs_len ss) _ _ (by rfl) (by rfl) (by rfl) (by unfold maxLen; omega) (by omega) ?_)
              intro t2 W3 G2' hg2' hS3
              have hS3 := hS3.perm (List.perm_append_comm_assoc G1' G2' R)
              have HG2' := hid hg2'; have HS3 := hid hS3
              clear hg2' hS3 HS2 HG2
              go_wp2_with fail
              exact ⟨⟨j + 1, n2, t2, _, _, G1', G2', rfl, rfl, by omega, by go_num, by simp [hkl], by simp [htl], HG1'.out, HG2'.out, HS3.out⟩, by simp [intOf]; omega⟩
            · have hj64 : j = 64 := by omega
              subst hj64
              obtain ⟨q1, q2⟩ := HH.out _ _ _ hS1
              obtain ⟨b1, d1, rfl⟩ := hg1.form
              obtain ⟨b2, d2, rfl⟩ := hg2.form
              obtain ⟨G1', hb1, hu1⟩ := hg1.base (ints_len ns)
              obtain ⟨G2', hb2, hu2⟩ := hg2.base (strs_len ss)
              have HN := hid (HPut.out G1' G2' hb1 hb2)
              have HS1 : Hid (St W0 wr ((F0 ++ (Fa ++ ((G1' ++ G2') ++ Fb))) ++ M)) := hid (by
                have h := hS1.sub (hu1.append (hu2.append (List.Sublist.refl R)))
                rw [HRR.out] at h
                exact h.perm (perm_in F0 Fa G1' G2' Fb M).symm)
              clear hg1 hg2 hb1 hb2 hS1
              rw [hkl, htl]
              go_wp2_with fail
              exact ⟨⟨k + 1, _, by omega, by go_num, HN.out, HS1.out⟩, by simp [intOf]; omega⟩
        · have hkn : k = xs.length := by omega
          subst hkn
          clear hlt hk
          go_wp2_with fail
          go_loopw [10] (fun i wr => ∃ (k : Nat), k ≤ xs.length ∧ i = .int .i64 k ∧ St W0 wr ((F0 ++ F1) ++ M)) (fun i _ => xs.length - (intOf i).toNat)
          case atStart => exact ⟨0, Nat.zero_le _, rfl, hS⟩
          case round =>
            obtain ⟨k, hk, rfl, hS⟩ := hrel
            by_cases hlt : k < xs.length
            · obtain ⟨s, hs⟩ : ∃ s, xs[k]? = some s := ⟨_, List.getElem?_eq_getElem hlt⟩
              have hln := HLN.out s (List.mem_of_getElem? hs)
              have hls := HLS.out s (List.mem_of_getElem? hs)
              have HSZ := hid (HSS.out s (List.mem_of_getElem? hs))
              have hys := HY.out k s hs
              obtain ⟨cs, Fa, Fs, Fb, hcs, rfl, ⟨nv, sv, G1, G2, hagg, rfl, hr1, hr2⟩, hput⟩ := hQ.focus hys
              have hcs6 : cs = [.int .i64 (markM k s).kind, nv, sv, .int .i64 (markM k s).w, .int .i64 (markM k s).c, .int .i64 (markM k s).m] := by injection hagg with e; exact congrArg Array.toList e
              subst hcs6
              have HS := hid hS
              have hS1 := hS.perm (perm_in F0 Fa G1 G2 Fb M)
              obtain ⟨g0, cap0, e0, _⟩ := heads HR.out H6.out hcs hS1.appR.appR
              cases e0
              have HH : Hid (∀ W F F', St W0 W (F ++ (F' ++ (F0 ++ (Fa ++ (Fb ++ M))))) → W.cell? ⟨g0, k * 6 + 1, none⟩ = some nv ∧ W.cell? ⟨g0, k * 6 + 2, none⟩ = some sv) := hid (fun W F F' h => by
                obtain ⟨g, c, e, hc⟩ := heads HR.out H6.out hcs h.appR.appR
                cases e
                exact ⟨hc 1 _ (by omega) rfl, hc 2 _ (by omega) rfl⟩)
              obtain ⟨R, hRR⟩ : ∃ R, R = F0 ++ (Fa ++ (Fb ++ M)) := ⟨_, rfl⟩
              rw [← hRR] at hS1 HH
              have HRR := hid hRR
              have hnl : (markM k s).ns.length = s.ns.length := by simp [markM]
              have hsl : (markM k s).ss.length = s.ss.length := by simp [markM]
              rw [hnl] at hr1
              rw [hsl] at hr2
              obtain ⟨K, ns, ss, sw, sc, sm⟩ := s
              simp only [markM] at hln hls hr1 hr2 HSZ
              clear hRR hput hs hcs hS hys hagg hnl hsl
              obtain ⟨a1, c1, rfl, p1, p2, _⟩ := hr1.form
              obtain ⟨a2, c2, rfl, p3, p4, _⟩ := hr2.form
              unfold maxLen at p2 p4
              have m0 : (0 : Int) ≤ (k : Int) * 6 := by omega
              have HR1 := hid hr1; have HR2 := hid hr2
              clear hr1 hr2
              go_wp2_with fail
              go_loopw [11] (fun jv wr => ∃ (j : Nat), j ≤ ns.length ∧ jv = .int .i64 j ∧ St W0 wr (G1 ++ (G2 ++ R))) (fun jv _ => ns.length - (intOf jv).toNat)
              case atStart => exact ⟨0, Nat.zero_le _, rfl, hS1⟩
              case round =>
                obtain ⟨j, hj, rfl, hS1⟩ := hrel
                obtain ⟨q1, q2⟩ := HH.out _ _ _ hS1
                by_cases hlj : j < ns.length
                · obtain ⟨g, c, e, hc, hf, hw⟩ := HR1.out.put hS1 j hlj
                  cases e
                  have hc' : wr.cell? ⟨g, j, none⟩ = some (.int .i64 (-1000 - (k : Int))) := by
                    rw [hc, ints, List.getElem?_map, List.getElem?_map, List.getElem?_eq_getElem hlj]; rfl
                  have HS1 := hid hS1
                  clear hw hS1 hc
                  go_wp2_with fail
                  exact ⟨⟨j + 1, by omega, by go_num, HS1.out⟩, by simp [intOf]; omega⟩
                · have hS2 := hS1.perm (List.perm_append_comm_assoc G2 G1 R)
                  clear hS1
                  go_wp2_with fail
                  clear q1 q2
                  go_loopw [12] (fun jv wr => ∃ (j : Nat), j ≤ ss.length ∧ jv = .int .i64 j ∧ St W0 wr (G2 ++ (G1 ++ R))) (fun jv _ => ss.length - (intOf jv).toNat)
                  case atStart => exact ⟨0, Nat.zero_le _, rfl, hS2⟩
                  case round =>
                    obtain ⟨j, hj, rfl, hS2⟩ := hrel
                    obtain ⟨q1, q2⟩ := HH.out _ _ _ hS2
                    by_cases hlj : j < ss.length
                    · obtain ⟨g, c, e, hc, hf, hw⟩ := HR2.out.put hS2 j hlj
                      cases e
                      obtain ⟨y, hy⟩ : ∃ y, y = ss[j] := ⟨_, rfl⟩
                      have hy9 : y.size ≤ 1000000000 := by rw [hy]; exact HSZ.out _ (List.getElem_mem hlj)
                      obtain ⟨z, hz⟩ : ∃ z, z = y ++ slashMark := ⟨_, rfl⟩
                      have hc' : wr.cell? ⟨g, j, none⟩ = some (.string z) := by
                        rw [hc, strs, List.getElem?_map, List.getElem?_map, List.getElem?_eq_getElem hlj, hz, hy]; rfl
                      obtain ⟨hz1', hz2'⟩ := cut_mark y
                      rw [← hz] at hz1' hz2'
                      have hcut : ((z.extract y.size (y.size + 5)).toList == [47, 109, 97, 114, 107]) = true := by rw [hz2']; decide +kernel
                      have h5 : ¬ ((y.size : Int) + 5 < 5) := by omega
                      have HS2 := hid hS2
                      clear hw hS2 hc hz hy hz2'
                      go_wp2_with fail
                      exact ⟨⟨j + 1, by omega, by go_num, HS2.out⟩, by simp [intOf]; omega⟩
                    · have hS1 : St W0 wr (G1 ++ (G2 ++ R)) := hS2.perm (List.perm_append_comm_assoc G1 G2 R)
                      have HS1 : Hid (St W0 wr ((F0 ++ (Fa ++ ((G1 ++ G2) ++ Fb))) ++ M)) := hid (by
                        rw [HRR.out] at hS1
                        exact hS1.perm (perm_in F0 Fa G1 G2 Fb M).symm)
                      clear hS1 hS2
                      go_wp2_with fail
                      exact ⟨⟨k + 1, by omega, by go_num, HS1.out⟩, by simp [intOf]; omega⟩
            · have HS := hid hS
              clear hS
              go_wp2_with fail
              go_ret
              exact ⟨rfl, _, HS.out⟩
end Go.Proofs.YtijlfggficjamaaDoor

namespace Go.Proofs.YtijlfggficjamaaDoor
set_option linter.unusedVariables false
set_option linter.unusedSimpArgs false
open Go Go.RowKit
open Go.Lib (hid)

def stepFour : StepM := ⟨4, [7], [], 0, 0, 0⟩
def stepThirteen : StepM := ⟨13, [1, 2, 3, 4], [⟨#[97, 32, 98]⟩, ⟨#[]⟩], 0, 0, 0⟩
def ownL (xs : List StepM) : List StepM := stepFour :: stepThirteen :: xs
def ownZ (xs : List StepM) : List StepM := stepFour :: stepThirteen :: (xs.filter shown).map canon
theorem four_ok : stepFour.ok ∧ shown stepFour = true ∧ canon stepFour = stepFour := ⟨⟨by decide, by simp [stepFour], by decide, by simp [stepFour], by decide, by decide, by decide⟩, rfl, rfl⟩
theorem thirteen_ok : stepThirteen.ok ∧ shown stepThirteen = true ∧ canon stepThirteen = stepThirteen := ⟨⟨by decide, by simp [stepThirteen], by decide, by
  intro x hx
  simp only [stepThirteen, List.mem_cons, List.not_mem_nil, or_false] at hx
  rcases hx with rfl | rfl <;> decide, by decide, by decide, by decide⟩, rfl, rfl⟩
theorem own_dec (xs : List StepM) (h : ∀ s ∈ xs, s.ok) : decS (textL (ownL xs)) = .ok (ownZ xs) := by
  rw [decS_text (ownL xs) (fun s hs => by
    rcases List.mem_cons.1 hs with rfl | hs
    · exact ok_in four_ok.1
    · rcases List.mem_cons.1 hs with rfl | hs
      · exact ok_in thirteen_ok.1
      · exact ok_in (h s hs))]
  unfold ownL ownZ
  rw [List.filter_cons, four_ok.2.1, List.filter_cons, thirteen_ok.2.1]
  simp only [if_true, List.map_cons, four_ok.2.2, thirteen_ok.2.2]
theorem own_ok (xs : List StepM) (h : ∀ s ∈ xs, s.ok) : ∀ s ∈ ownL xs, s.ok := fun s hs => by
  rcases List.mem_cons.1 hs with rfl | hs
  · exact four_ok.1
  · rcases List.mem_cons.1 hs with rfl | hs
    · exact thirteen_ok.1
    · exact h s hs
theorem own_wts (xs : List StepM) : wts (ownL xs) = wts xs + 7 := by
  have h4 : stepFour.wt = 1 := by decide
  have h13 : stepThirteen.wt = 6 := by decide
  simp only [wts, ownL, List.map_cons, List.sum_cons, h4, h13]
  omega
theorem canon_lens (s : StepM) (h : s.ok) : (canon s).ns.length ≤ 100000000 ∧ (canon s).ss.length ≤ 100000000 ∧ ∀ x ∈ (canon s).ss, x.size ≤ 1000000000 := by
  obtain ⟨r, hr⟩ : ∃ r, r = rowOf s.kind.toNat := ⟨_, rfl⟩
  have hb : r.n ≤ 3 ∧ r.s ≤ 1 := by
    rw [hr]
    by_cases hk : s.kind.toNat < 24
    · have : ∀ i : Fin 24, (rowOf i.val).n ≤ 3 ∧ (rowOf i.val).s ≤ 1 := by decide +kernel
      exact this ⟨_, hk⟩
    · have : rowOf s.kind.toNat = ⟨[], 0, 0, false, false⟩ := by
        unfold rowOf
        rw [List.getD_eq_getElem?_getD, List.getElem?_eq_none (by simp [rowTab]; omega)]
        rfl
      rw [this]; exact ⟨by decide, by decide⟩
  have ht : timesOf r s ≤ 1048576 := by
    unfold timesOf
    split
    · exact h.len
    · omega
  unfold canon
  simp only [← hr]
  split
  · exact ⟨by simp, by simp, by simp⟩
  · unfold numsR wordsT
    rw [flat_range r.n (fun i => s.num i), flat_range r.s (fun i => s.word i)]
    refine ⟨?_, ?_, ?_⟩
    · simp only [List.length_map, List.length_range]
      exact Nat.le_trans (Nat.mul_le_mul ht hb.1) (by decide)
    · simp only [List.length_map, List.length_range]
      exact Nat.le_trans (Nat.mul_le_mul ht hb.2) (by decide)
    · intro x hx
      obtain ⟨i, _, rfl⟩ := List.mem_map.1 hx
      simp only [StepM.word]
      rw [List.getD_eq_getElem?_getD]
      cases hg : s.ss[i]? with
      | none => exact (by decide : ByteArray.empty.size ≤ 1000000000)
      | some y => exact Nat.le_trans (h.ss y (List.mem_of_getElem? hg)) (by decide)
theorem own_lens (xs : List StepM) (h : ∀ s ∈ xs, s.ok) : ∀ s ∈ ownZ xs, s.ns.length ≤ 100000000 ∧ s.ss.length ≤ 100000000 ∧ ∀ x ∈ s.ss, x.size ≤ 1000000000 := fun s hs => by
  rcases List.mem_cons.1 hs with rfl | hs
  · rw [← four_ok.2.2]; exact canon_lens _ four_ok.1
  · rcases List.mem_cons.1 hs with rfl | hs
    · rw [← thirteen_ok.2.2]; exact canon_lens _ thirteen_ok.1
    · obtain ⟨t, ht, rfl⟩ := List.mem_map.1 hs
      exact canon_lens t (h t (List.mem_filter.1 ht).1)
theorem ownL_take (xs : List StepM) (k : Nat) (s : StepM) (h : xs[k]? = some s) : ownL (xs.take (k + 1)) = ownL (xs.take k) ++ [s] := by
  have hl := (List.getElem?_eq_some_iff.1 h).1
  have he : xs[k] = s := (List.getElem?_eq_some_iff.1 h).2
  unfold ownL
  rw [List.take_succ_eq_append_getElem hl, he]
  rfl

def ownRows (n : Nat) : List (List Value) := [[.int .i64 4, .slice (some ⟨n + 1, 0, none⟩) 1 1, .slice none 0 0, .int .i64 0, .int .i64 0, .int .i64 0], [.int .i64 13, .slice (some ⟨n + 1 + 1, 0, none⟩) 4 4, .slice (some ⟨n + 1 + 1 + 1, 0, none⟩) 2 2, .int .i64 0, .int .i64 0, .int .i64 0]]
def stepCells (b1 b2 b3 : Nat) : List Value := [.int .i64 4, .slice (some ⟨b1, 0, none⟩) 1 1, .slice none 0 0, .int .i64 0, .int .i64 0, .int .i64 0, .int .i64 13, .slice (some ⟨b2, 0, none⟩) 4 4, .slice (some ⟨b3, 0, none⟩) 2 2, .int .i64 0, .int .i64 0, .int .i64 0]
theorem Rw.vnil {e : TypeId} {v : Value} {n : Nat} {l : List Value} {F : Frag} (h : Rw e 1 v n l F) : VNil v := (RowIn.vnil (W0 := default) (M := F) (.inr ⟨e, n, F, h, fun x hx => hx⟩))
theorem StepsM.nilOk {v : Value} {xs : List StepM} {F : Frag} {W0 W : World} (h : StepsM v xs F) (hS : St W0 W F) : NilOk W v := by
  obtain ⟨L, F0, F1, rfl, hR, hQ⟩ := h
  intro b o n cap e i hi l c
  obtain ⟨ad, cap', e', _⟩ := hR.form
  rw [e] at e'
  cases e'
  obtain ⟨cs, Fi, e1, ⟨nv, sv, G1, G2, ha, rfl, r1, r2⟩, e3⟩ := hQ.get (i := i) (List.getElem?_eq_getElem hi)
  obtain ⟨g, c', e2, hc⟩ := heads hR hQ.six e1 hS
  rw [e] at e2
  cases e2
  injection ha with ha
  have ha := congrArg Array.toList ha
  simp only at ha
  subst ha
  rw [Nat.zero_add, hc 1 nv (by omega) rfl, hc 2 sv (by omega) rfl]
  exact ⟨fun q => r1.vnil l c (Option.some.inj q), fun q => r2.vnil l c (Option.some.inj q)⟩

set_option maxRecDepth 100000 in
set_option maxHeartbeats 4000000 in
theorem decodeOwn_c (w : World) (v : Value) (xs : List StepM) (hv : StepsOf w v xs) (hnil : NilOk w v) (he : DEnv w) (hok : ∀ s ∈ xs, s.ok) (hwt : wts xs ≤ 1048576) (hlx : xs.length ≤ 1048576) :
    Calls Tryd.prog 7 #[v] w fun e w' => e = .returned (.bool true) ∧ Below w.heap.size w w' := by
  obtain ⟨ad, cap, rfl, hlc, hcm, hst⟩ := hv
  unfold maxLen at hcm
  have HST := hid hst; have HNIL := hid hnil; have HE := hid he; have HOK := hid hok; have HWT := hid hwt
  clear hst hnil he hok hwt
  obtain ⟨i0, hi, hz0, hz1, hz2⟩ := info_parts infoStep
  have HD := hid (own_dec xs HOK.out)
  have HLS := hid (own_lens xs HOK.out)
  have HOL := hid (own_ok xs HOK.out)
  have HTL : Hid ((textL (ownL xs)).length ≤ 900000000) := hid (by
    have h1 := text_len (ownL xs) HOL.out
    have h2 := HWT.out
    rw [own_wts] at h1
    omega)
  go_enter Tryd.func7, Tryd.ntmps7
  have hS0 := ((((St.refl w).alloc (.cells #[] 32)).alloc (.cells #[.int .i64 7] 3)).alloc (.cells #[.int .i64 1, .int .i64 2, .int .i64 3, .int .i64 4] 3)).alloc (.cells #[.string ⟨#[97, 32, 98]⟩, .string ⟨#[]⟩] 9)
  simp only [World.size_alloc] at hS0
  have HS0 : Hid (St w _ ([(w.heap.size, Obj.cells #[] 32 (0, 0))] ++ [(w.heap.size + 1 + 1 + 1, .cells #[.string ⟨#[97, 32, 98]⟩, .string ⟨#[]⟩] 9 (0, 0)), (w.heap.size + 1 + 1, .cells #[.int .i64 1, .int .i64 2, .int .i64 3, .int .i64 4] 3 (0, 0)), (w.heap.size + 1, .cells #[.int .i64 7] 3 (0, 0))])) := hid (hS0.perm (List.perm_append_comm (l₁ := [_]) (l₂ := [_, _, _])))
  clear hS0
  go_wp2_with (at_builtin; refine append_st (by rfl) _ _ 22 (by rfl) 32 i0 stepZero 6 80 Tryd.underlying22 hi hz0 hz1 hz2 (by rfl) (by decide) (.slice (some ⟨w.heap.size, 0, none⟩) 0 0) 0 [] [(w.heap.size, Obj.cells #[] 32 (0, 0))] _ (by rfl) (Rw.lit 32 6 0 w.heap.size #[] rfl (by unfold maxLen; omega)) HS0.out 2 (w.heap.size + 1 + 1 + 1 + 1) (stepCells (w.heap.size + 1) (w.heap.size + 1 + 1) (w.heap.size + 1 + 1 + 1)) (by rfl) (by simp) (by rfl) (by intro u hu; simp [stepCells] at hu; rcases hu with rfl | rfl | rfl | rfl | rfl | rfl | rfl | rfl | rfl | rfl | rfl | rfl <;> rfl) (by unfold maxLen; omega) (by omega) ?_)
  intro v0 W1 F1 hR1 hS1
  have HI0 : StepsIn w [(w.heap.size + 1 + 1 + 1, Obj.cells #[.string ⟨#[97, 32, 98]⟩, .string ⟨#[]⟩] 9 (0, 0)), (w.heap.size + 1 + 1, .cells #[.int .i64 1, .int .i64 2, .int .i64 3, .int .i64 4] 3 (0, 0)), (w.heap.size + 1, .cells #[.int .i64 7] 3 (0, 0))]
      (ownRows w.heap.size) (ownL (xs.take 0)) := by
    have h1 := (StepsIn.nil w [(w.heap.size + 1 + 1 + 1, Obj.cells #[.string ⟨#[97, 32, 98]⟩, .string ⟨#[]⟩] 9 (0, 0)), (w.heap.size + 1 + 1, .cells #[.int .i64 1, .int .i64 2, .int .i64 3, .int .i64 4] 3 (0, 0)), (w.heap.size + 1, .cells #[.int .i64 7] 3 (0, 0))]).snoc (s := stepFour)
      ⟨_, _, rfl, .inr ⟨3, 1, _, Rw.lit 3 1 1 (w.heap.size + 1) #[.int .i64 7] rfl (by unfold maxLen; omega), by simp⟩, RowIn.nil _ _⟩
    exact h1.snoc (s := stepThirteen)
      ⟨_, _, rfl, .inr ⟨3, 4, _, Rw.lit 3 1 4 (w.heap.size + 1 + 1) #[.int .i64 1, .int .i64 2, .int .i64 3, .int .i64 4] rfl (by unfold maxLen; omega), by simp⟩,
        .inr ⟨9, 2, _, Rw.lit 9 1 2 (w.heap.size + 1 + 1 + 1) #[.string ⟨#[97, 32, 98]⟩, .string ⟨#[]⟩] rfl (by unfold maxLen; omega), by simp⟩⟩
  have hR1' : Rw 32 6 v0 (0 + 2) (ownRows w.heap.size).flatten F1 := hR1
  have HR1 := hid hR1'; have HS1 := hid hS1; have HI := hid HI0
  clear hR1 hR1' hS1 HI0 HS0
  go_wp2_with fail
  go_loopw [3, 4] (fun lv i wr => ∃ (k : Nat) (F M : Frag) (L : List (List Value)) (v : Value), v = lv ∧ i = .int .i64 k ∧ k ≤ xs.length ∧ Rw 32 6 v (k + 2) L.flatten F ∧ StepsIn w M L (ownL (xs.take k)) ∧ St w wr (F ++ M)) (fun _ i _ => xs.length - (intOf i).toNat)
  case atStart => exact ⟨0, F1, _, _, _, rfl, rfl, Nat.zero_le _, HR1.out, HI.out, HS1.out⟩
  case round =>
    obtain ⟨k, F, M, L, lv, rfl, rfl, hk, hR, hI, hS⟩ := hrel
    clear HR1 HS1 HI
    by_cases hlt : k < xs.length
    · obtain ⟨s, hs⟩ : ∃ s, xs[k]? = some s := ⟨_, List.getElem?_eq_getElem hlt⟩
      have HTK := hid (ownL_take xs k s hs)
      obtain ⟨b, o, rfl, hcs⟩ := HST.out (by intro e; rw [e] at hlt; simp at hlt)
      obtain ⟨cs, ⟨nv, sv, rfl, hn, hsv⟩, hcell⟩ := hcs k s hs
      have vn : VNil nv := fun n c e => by subst e; exact (HNIL.out b o _ _ rfl k hlt n c).1 (hcell 1 _ rfl)
      have vs : VNil sv := fun n c e => by subst e; exact (HNIL.out b o _ _ rfl k hlt n c).2 (hcell 2 _ rfl)
      have HI1 : Hid (StepsIn w M (L ++ [[.int .i64 s.kind, nv, sv, .int .i64 s.w, .int .i64 s.c, .int .i64 s.m]]) (ownL (xs.take (k + 1)))) := hid (by
        rw [HTK.out]
        exact hI.snoc ⟨nv, sv, rfl, .inl ⟨hn, vn⟩, .inl ⟨hsv, vs⟩⟩)
      obtain ⟨K, ns, ss, sw, sc, sm⟩ := s
      obtain ⟨a1, c1, rfl, _⟩ := hn
      obtain ⟨a2, c2, rfl, _⟩ := hsv
      have q0 : wr.cell? ⟨b, o + k * 6, none⟩ = some (.int .i64 K) := hS.old (hcell 0 _ rfl)
      have q1 : wr.cell? ⟨b, o + k * 6 + 1, none⟩ = some (.slice a1 (ints ns).length c1) := hS.old (hcell 1 _ rfl)
      have q2 : wr.cell? ⟨b, o + k * 6 + 2, none⟩ = some (.slice a2 (strs ss).length c2) := hS.old (hcell 2 _ rfl)
      have q3 : wr.cell? ⟨b, o + k * 6 + 3, none⟩ = some (.int .i64 sw) := hS.old (hcell 3 _ rfl)
      have q4 : wr.cell? ⟨b, o + k * 6 + 4, none⟩ = some (.int .i64 sc) := hS.old (hcell 4 _ rfl)
      have q5 : wr.cell? ⟨b, o + k * 6 + 5, none⟩ = some (.int .i64 sm) := hS.old (hcell 5 _ rfl)
      have HS := hid hS; have HR := hid hR
      clear hS hR hI hcs hcell vn vs hs
      simp only [ints_len, strs_len] at q1 q2 HI1
      have m0 : (0 : Int) ≤ (k : Int) * 6 := by omega
      go_wp2_with (at_builtin; refine append_st (by rfl) _ _ 22 (by rfl) 32 i0 stepZero 6 80 Tryd.underlying22 hi hz0 hz1 hz2 (by rfl) (by decide) lv (k + 2) L.flatten F M (by rfl) HR.out HS.out 1 wr.heap.size [_, _, _, _, _, _] (by rfl) (by rfl) (by rfl) (by intro u hu; simp at hu; rcases hu with rfl | rfl | rfl | rfl | rfl | rfl <;> rfl) (by unfold maxLen; omega) (by omega) ?_)
      intro v' w2 F' hR' hS'
      have HR' := hid hR'; have HS' := hid hS'
      clear hR' hS'
      go_wp2_with fail
      exact ⟨⟨k + 1, F', M, L ++ [_], _, rfl, by go_num, by omega, by simpa using HR'.out, HI1.out, HS'.out⟩, by simp [intOf]; omega⟩
    · have hkn : k = xs.length := by omega
      subst hkn
      rw [List.take_length] at hI
      have hlen : (ownL xs).length = xs.length + 2 := by simp [ownL]
      have hSO := hI.stepsOf (by rw [hlen]; exact hR) hS
      have HS0 := hid hS.toSt0
      have HTX := hid (playText_c wr lv (ownL xs) hSO.1 (HE.out.st HS0.out).tab (HE.out.st HS0.out).tbl HOL.out (by rw [own_wts]; have := HWT.out; omega))
      clear hSO hI hR hS hlt hk hlen HST HNIL
      go_wp2_with fail
      refine HTX.out.mono ?_
      rintro e w2 ⟨rfl, hb2⟩
      have HS2 := hid (HS0.out.callB hb2)
      clear HTX hb2
      obtain ⟨C, hC⟩ : ∃ C, C = S (textL (ownL xs)) := ⟨_, rfl⟩
      have hCl : C.data.toList = textL (ownL xs) := by rw [hC, S_list]
      have hCs : C.size ≤ 900000000 := by rw [← size_list, hCl]; exact HTL.out
      rw [← hC]
      clear hC
      have HCL := hid hCl
      clear hCl
      have HDC := fun (W : World) (hW : DEnv W) => hid (playDecode_c C W hCs hW)
      have HDS : Hid (decS C.data.toList = .ok (ownZ xs)) := hid (by rw [HCL.out]; exact HD.out)
      go_wp2_with fail
      refine (HDC w2 (HE.out.st HS2.out)).out.mono ?_
      intro e w3 hp3
      unfold DecPost at hp3
      rw [HDS.out] at hp3
      obtain ⟨va, Fa, rfl, hMa, hSa⟩ := hp3
      have HMa := hid hMa
      have HS3 : Hid (St w w3 Fa) := hid (by have := HS2.out.call hSa; rwa [List.append_nil] at this)
      clear hMa hSa
      go_wp2_with fail
      refine (HDC w3 (HE.out.st HS3.out)).out.mono ?_
      intro e w4 hp4
      unfold DecPost at hp4
      rw [HDS.out] at hp4
      obtain ⟨vb, Fb, rfl, hMb, hSb⟩ := hp4
      have HMb := hid hMb; have HS4 := hid (HS3.out.call hSb)
      have HTW := hid (twin_st w4 vb (ownZ xs) (hMb.stepsOf hSb) (hMb.nilOk hSb) (by
        have h1 : ((xs.filter shown).map canon).length ≤ xs.length := by rw [List.length_map]; exact List.length_filter_le _ _
        simp only [ownZ, List.length_cons]
        omega) (fun s hs => (HLS.out s hs).1) (fun s hs => (HLS.out s hs).2.1))
      clear hMb hSb
      go_wp2_with fail
      refine HTW.out.mono ?_
      rintro e w5 ⟨vw, Fw, rfl, hMw, hSw⟩
      have HMw := hid hMw; have HS5 := hid (HS4.out.call hSw)
      clear hMw hSw HTW
      have HSa := hid (HMa.out.stepsOf HS5.out.appR.appR)
      have HSw := hid (HMw.out.stepsOf HS5.out.appL)
      obtain ⟨aa, ca, rfl, la, ma, hca⟩ := HSa.out
      obtain ⟨ga, oa, rfl, hcc⟩ := hca (by simp [ownZ])
      obtain ⟨cs0, ⟨nv0, sv0, rfl, hn0, _⟩, hc0⟩ := hcc 0 _ rfl
      obtain ⟨cs1, ⟨nv1, sv1, rfl, _, hs1⟩, hc1⟩ := hcc 1 _ rfl
      obtain ⟨an0, cn0, rfl, _⟩ := hn0
      obtain ⟨as1, cs1, rfl, _, ms1, hsc⟩ := hs1
      obtain ⟨gs, os, rfl, hss⟩ := hsc (by simp [strs, stepThirteen])
      have q0 : w5.cell? ⟨ga, oa + 1, none⟩ = some (.slice an0 1 cn0) := hc0 1 _ rfl
      have q1 : w5.cell? ⟨ga, oa + 6 + 2, none⟩ = some (.slice (some ⟨gs, os, none⟩) 2 cs1) := hc1 2 _ rfl
      have q2 : w5.cell? ⟨gs, os, none⟩ = some (.string ⟨#[97, 32, 98]⟩) := hss 0 _ rfl
      have hlen : (ownZ xs).length = ((xs.filter shown).map canon).length + 2 := rfl
      obtain ⟨nr, hnr⟩ : ∃ nr, nr = ((xs.filter shown).map canon).length := ⟨_, rfl⟩
      have hnr1 : nr ≤ xs.length := by rw [hnr, List.length_map]; exact List.length_filter_le _ _
      rw [← hnr] at hlen
      unfold maxLen at ma ms1
      rw [hlen] at la HMa HSa ⊢
      clear hca hcc hc0 hc1 hsc hss hnr
      go_wp2_with fail
      refine (sameSteps_c w5 _ _ (ownZ xs) HSa.out HSw.out).mono ?_
      rintro e w6 ⟨rfl, m1, rfl⟩
      clear q0 q1 q2
      have HS6 : Hid (St w (w5.drewN m1) (Fa ++ (Fw ++ Fb))) := hid ((HS5.out.drewN m1).perm (by
        have h1 : (Fw ++ (Fb ++ Fa)).Perm ((Fw ++ Fb) ++ Fa) := by rw [List.append_assoc]
        exact (List.perm_append_comm.trans h1.symm)))
      have HPT := hid (parted_c w (w5.drewN m1) (Fw ++ Fb) Fa _ (ownZ xs) HMa.out HS6.out (by rw [hlen]; omega) (fun s hs => (HLS.out s hs).1) (fun s hs => (HLS.out s hs).2.1) (fun s hs => (HLS.out s hs).2.2))
      clear HSa HSw HS5
      go_wp2_with fail
      refine HPT.out.mono ?_
      rintro e w7 ⟨rfl, Fp, hS7⟩
      have HS7 := hid hS7
      clear hS7 HPT HS6
      go_wp2_with fail
      refine (sameSteps_c w7 _ _ (ownZ xs) (HMb.out.stepsOf HS7.out.appR.appR) (HMw.out.stepsOf HS7.out.appR.appL)).mono ?_
      rintro e w8 ⟨rfl, m2, rfl⟩
      have HS8 := hid (HS7.out.drewN m2)
      clear HS7
      go_wp2_with fail
      refine (HDC (w7.drewN m2) (HE.out.st HS8.out)).out.mono ?_
      intro e w9 hp9
      unfold DecPost at hp9
      rw [HDS.out] at hp9
      obtain ⟨vc, Fc, rfl, hMc, hSc⟩ := hp9
      have HMc := hid hMc; have HS9 := hid (HS8.out.call hSc)
      clear hMc hSc HS8
      go_wp2_with fail
      refine (sameSteps_c w9 _ _ (ownZ xs) (HMb.out.stepsOf HS9.out.appR.appR.appR) (HMw.out.stepsOf HS9.out.appR.appR.appL)).mono ?_
      rintro e w10 ⟨rfl, m3, rfl⟩
      have HS10 := hid (HS9.out.drewN m3)
      go_wp2_with fail
      refine (sameSteps_c (w9.drewN m3) _ _ (ownZ xs) (HMc.out.stepsOf HS10.out.appL) (HMw.out.stepsOf HS10.out.appR.appR.appL)).mono ?_
      rintro e w11 ⟨rfl, m4, rfl⟩
      go_wp2_with fail
      go_ret
      exact ⟨rfl, drewN_below HS9.out.below _⟩
end Go.Proofs.YtijlfggficjamaaDoor
