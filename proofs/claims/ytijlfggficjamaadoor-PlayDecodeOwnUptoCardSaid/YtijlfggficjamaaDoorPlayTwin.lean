/- The walk of twin: a copy of the steps in lists of its own. -/
import Derived.Test.YtijlfggficjamaaDoorPlayRooms
import Derived.Laws.AppendOwnNone
import Derived.Maps.AppendAt
import Derived.Deep.DeepCutAuto
import Derived.Deep.CutRange
namespace Go.Proofs.YtijlfggficjamaaDoor
set_option linter.unusedVariables false
set_option linter.unusedSimpArgs false
open Go Go.RowKit
open Go.Lib (hid)

/-- append(own, row...) where the row reads as the list; a nil row has no room -/
theorem wpList_append_row {P : Program} {w : World} {ops : Array Oper} {rest : List Oper} {o : Oper} {a : Act} {Q : Exit → Act → World → Prop} (hgd : o.guard = none) (s x : Operand) (t : TypeId)
    (ho : o.op = .call { callee := .builtin .append, args := #[s, x], argTypes := #[t, t] })
    (base : Nat) (e : TypeId) (i : TypeInfo) (z : Value) (bytes : Nat) (ht : P.underlying t = some (.slice e)) (hi : P.info? e = some i) (hz : i.zero = some z)
    (hsize : i.size = 1) (hby : i.bytes = bytes) (hzs : z.cells.size = 1)
    (v : Value) (hs : a.eval s = v) (hown : w.ownsRow base e 1 v 0 [])
    (xv : Value) (vals : List Value) (hx : a.eval x = xv) (hrow : RowOf w xv vals) (hnil : ∀ l c, xv = .slice none l c → l = 0 ∧ c = 0) (h1 : ∀ u ∈ vals, u.oneCell' = true)
    (h63 : vals.length ≤ maxLen) (hbytes : vals.length * bytes ≤ 140737488355328) (hbase : base ≤ w.heap.size)
    (h : ∀ v' w', w'.ownsRow base e 1 v' vals.length vals → w.grownBy w' v.ownBlock → wpList P ops Q rest (a.put o.dst v') w') : wpList P ops Q (o :: rest) a w := by
  obtain ⟨ad, cap, rfl, p1, p2, p3⟩ := hrow
  cases ad with
  | none =>
    obtain ⟨hl, hc⟩ := hnil _ _ rfl
    have hv : vals = [] := List.length_eq_zero_iff.1 hl
    subst hv
    subst hc
    exact wpList_append_own_none hgd s x t ho base e i 1 ht hi v 0 [] hs hown hx (h v w hown ⟨rfl, rfl, rfl, Nat.le_refl _, fun _ _ _ => rfl⟩)
  | some p =>
    refine wpList_append_own w hgd s x t ho base e i z 1 bytes ht hi hz hsize hby hzs (by decide) v 0 [] hs hown p vals.length cap vals hx (by omega) ?_ h1 (by omega) (by simpa using hbytes) hbase ?_
    · intro j u hj
      have hne : vals ≠ [] := by intro h; rw [h] at hj; simp at hj
      obtain ⟨b, off, he, hc⟩ := p3 hne
      cases he
      have := hc j u hj
      unfold Addr.add
      split
      · rename_i h; rw [h] at this; simpa using this
      · simpa using this
    · intro v' w' h2 h3 _
      rw [Nat.zero_add, List.nil_append] at h2
      exact h v' w' h2 h3
theorem own_lit (w : World) (e : TypeId) : (w.alloc (.cells #[] e)).ownsRow w.heap.size e 1 (.slice (some ⟨w.heap.size, 0, none⟩) 0 0) 0 [] :=
  World.ownsRow_lit (base := w.heap.size) (e := e) (size := 1) w #[] 0 (Nat.le_refl _) (by unfold maxLen; omega) rfl

theorem rowOf_own {w : World} {base : Nat} {e : TypeId} {v : Value} {n : Nat} {l : List Value} (h : w.ownsRow base e 1 v n l) : RowOf w v l := by
  obtain ⟨h1, h2⟩ := h
  rcases h2 with ⟨rfl, rfl⟩ | ⟨g, cap, cur, rfl, hb, hg, hn, hc, hs, ht⟩
  · obtain rfl : l = [] := List.length_eq_zero_iff.1 (by omega)
    exact RowOf.nil w
  · refine ⟨some ⟨g, 0, none⟩, cap, by rw [h1, Nat.mul_one], by omega, hc, fun _ => ⟨g, 0, rfl, fun i x hx => ?_⟩⟩
    have hl : i < l.length := (List.getElem?_eq_some_iff.1 hx).1
    rw [← ht, List.getElem?_take_of_lt (by omega)] at hx
    simpa [World.cell?, hg] using hx
theorem box_cell {w : World} {b : Nat} {cs : Array Value} {t : TypeId} (h : w.heap[b]? = some (.cells cs t (0, 0))) (i : Nat) : w.cell? ⟨b, i, none⟩ = cs[i]? := by simp [World.cell?, h]
theorem box_free {w : World} {b : Nat} {cs : Array Value} {t : TypeId} (h : w.heap[b]? = some (.cells cs t (0, 0))) (i : Nat) : w.frozen? ⟨b, i, none⟩ = false := by simp [World.frozen?, h]

/-- a row that does not lie in the block 'own' -/
def RowNot (own : Option Nat) (w : World) (v : Value) (vals : List Value) : Prop :=
  ∃ ad cap, v = .slice ad vals.length cap ∧ vals.length ≤ cap ∧ cap ≤ maxLen ∧
    (vals ≠ [] → ∃ b o, ad = some ⟨b, o, none⟩ ∧ some b ≠ own ∧ ∀ (i : Nat) x, vals[i]? = some x → w.cell? ⟨b, o + i, none⟩ = some x)
theorem RowNot.rowOf {own : Option Nat} {w : World} {v : Value} {vals : List Value} (h : RowNot own w v vals) : RowOf w v vals := by
  obtain ⟨ad, cap, e, h1, h2, h3⟩ := h
  exact ⟨ad, cap, e, h1, h2, fun hne => by obtain ⟨b, o, e, _, hc⟩ := h3 hne; exact ⟨b, o, e, hc⟩⟩
theorem RowNot.below {own : Option Nat} {w w' : World} {v : Value} {vals : List Value} {B : Nat} (h : RowNot own w v vals) (hb : Below B w w') (hB : w.heap.size ≤ B) : RowNot own w' v vals := by
  obtain ⟨ad, cap, rfl, h1, h2, h3⟩ := h
  refine ⟨ad, cap, rfl, h1, h2, fun hne => ?_⟩
  obtain ⟨b, o, e, hn, hc⟩ := h3 hne
  refine ⟨b, o, e, hn, fun i x hx => ?_⟩
  have := hc i x hx
  rw [hb.cell (p := ⟨b, o + i, none⟩) (Nat.lt_of_lt_of_le (World.block_lt_of_cell? w _ this) hB)]
  exact this
theorem RowNot.grown {own own' : Option Nat} {w w' : World} {v : Value} {vals : List Value} (h : RowNot own w v vals) (hg : w.grownBy w' own) (ho : own' = own ∨ own' = some w.heap.size) : RowNot own' w' v vals := by
  obtain ⟨ad, cap, rfl, h1, h2, h3⟩ := h
  refine ⟨ad, cap, rfl, h1, h2, fun hne => ?_⟩
  obtain ⟨b, o, e, hn, hc⟩ := h3 hne
  have h0 : 0 < vals.length := List.length_pos_iff.2 hne
  have hlt : b < w.heap.size := World.block_lt_of_cell? w _ (hc 0 _ (List.getElem?_eq_getElem h0))
  refine ⟨b, o, e, ?_, fun i x hx => hg.cell (hc i x hx) hn⟩
  rcases ho with rfl | rfl
  · exact hn
  · intro h; simp at h; omega
theorem rowNot_own {own : Option Nat} {w : World} {base : Nat} {e : TypeId} {v : Value} {n : Nat} {l : List Value} (h : w.ownsRow base e 1 v n l) (ho : ∀ k, own = some k → k < base) : RowNot own w v l := by
  obtain ⟨h1, h2⟩ := h
  rcases h2 with ⟨rfl, rfl⟩ | ⟨g, cap, cur, rfl, hb, hg, hn, hc, hs, ht⟩
  · obtain rfl : l = [] := List.length_eq_zero_iff.1 (by omega)
    exact ⟨none, 0, rfl, Nat.le_refl _, by unfold maxLen; omega, fun h => absurd rfl h⟩
  · refine ⟨some ⟨g, 0, none⟩, cap, by rw [h1, Nat.mul_one], by omega, hc, fun _ => ⟨g, 0, rfl, fun h => ?_, fun i x hx => ?_⟩⟩
    · have := ho g h.symm; omega
    have hl : i < l.length := (List.getElem?_eq_some_iff.1 hx).1
    rw [← ht, List.getElem?_take_of_lt (by omega)] at hx
    simpa [World.cell?, hg] using hx
/-- a step's cells, its lists not in the block 'own' -/
def StepNot (own : Option Nat) (w : World) (cs : List Value) (s : StepM) : Prop :=
  ∃ nv sv, cs = [.int .i64 s.kind, nv, sv, .int .i64 s.w, .int .i64 s.c, .int .i64 s.m] ∧ RowNot own w nv (ints s.ns) ∧ RowNot own w sv (strs s.ss)
theorem StepNot.below {own : Option Nat} {w w' : World} {cs : List Value} {s : StepM} {B : Nat} (h : StepNot own w cs s) (hb : Below B w w') (hB : w.heap.size ≤ B) : StepNot own w' cs s := by
  obtain ⟨nv, sv, e, h1, h2⟩ := h
  exact ⟨nv, sv, e, h1.below hb hB, h2.below hb hB⟩
theorem StepNot.grown {own own' : Option Nat} {w w' : World} {cs : List Value} {s : StepM} (h : StepNot own w cs s) (hg : w.grownBy w' own) (ho : own' = own ∨ own' = some w.heap.size) : StepNot own' w' cs s := by
  obtain ⟨nv, sv, e, h1, h2⟩ := h
  exact ⟨nv, sv, e, h1.grown hg ho, h2.grown hg ho⟩
theorem StepNot.len {own : Option Nat} {w : World} {cs : List Value} {s : StepM} (h : StepNot own w cs s) : cs.length = 6 := by
  obtain ⟨nv, sv, rfl, h1, h2⟩ := h; rfl
theorem stepsOf_own {own : Option Nat} {w : World} {base : Nat} {e : TypeId} {v : Value} {L : List (List Value)} {xs : List StepM} (h : w.ownsRow base e 6 v xs.length L.flatten) (hL : L.length = xs.length)
    (hR : ∀ (i : Nat) cs s, L[i]? = some cs → xs[i]? = some s → StepNot own w cs s) : StepsOf w v xs := by
  obtain ⟨h1, h2⟩ := h
  rcases h2 with ⟨rfl, h0⟩ | ⟨g, cap, cur, rfl, hb, hg, hn, hc, hs, ht⟩
  · rw [List.length_eq_zero_iff] at h0; subst h0
    exact ⟨none, 0, rfl, Nat.le_refl _, by unfold maxLen; omega, fun h => absurd rfl h⟩
  · have h6 : ∀ c ∈ L, c.length = 6 := by
      intro c hc
      obtain ⟨i, hi⟩ := List.mem_iff_getElem?.1 hc
      have hil := (List.getElem?_eq_some_iff.1 hi).1
      exact (hR i c _ hi (List.getElem?_eq_getElem (by omega))).len
    refine ⟨some ⟨g, 0, none⟩, cap, rfl, by omega, hc, fun _ => ⟨g, 0, rfl, fun i s hi => ?_⟩⟩
    have hil := (List.getElem?_eq_some_iff.1 hi).1
    obtain ⟨cs, hcs⟩ : ∃ cs, L[i]? = some cs := ⟨_, List.getElem?_eq_getElem (by omega)⟩
    have hst := hR i cs s hcs hi
    have hl6 := hst.len
    obtain ⟨nv, sv, e, r1, r2⟩ := hst
    refine ⟨cs.toArray, ⟨nv, sv, by rw [e]; rfl, r1.rowOf, r2.rowOf⟩, fun j x hx => ?_⟩
    have hx' : cs[j]? = some x := by simpa using hx
    have hj : j < 6 := by have := (List.getElem?_eq_some_iff.1 hx').1; omega
    rw [← flat_get L h6 i j hj cs hcs, ← ht, List.getElem?_take_of_lt (by omega)] at hx'
    simpa [World.cell?, hg] using hx'

/-- a nil list among the steps' has no room -/
def NilOk (w : World) (v : Value) : Prop := ∀ b o n cap, v = .slice (some ⟨b, o, none⟩) n cap → ∀ i, i < n → ∀ l c,
  (w.cell? ⟨b, o + i * 6 + 1, none⟩ = some (.slice none l c) → l = 0 ∧ c = 0) ∧ (w.cell? ⟨b, o + i * 6 + 2, none⟩ = some (.slice none l c) → l = 0 ∧ c = 0)

set_option maxRecDepth 100000 in
set_option maxHeartbeats 4000000 in
theorem twin_c (w : World) (v : Value) (xs : List StepM) (hv : StepsOf w v xs) (hnil : NilOk w v) (hlx : xs.length ≤ 10000000) (hln : ∀ s ∈ xs, s.ns.length ≤ 100000000) (hls : ∀ s ∈ xs, s.ss.length ≤ 100000000) :
    Calls Tryd.prog 13 #[v] w fun e w' => ∃ v', e = .returned v' ∧ StepsOf w' v' xs ∧ Below w.heap.size w w' := by
  obtain ⟨ad, cap, rfl, hlc, hcm, hst⟩ := hv
  unfold maxLen at hcm
  have HNIL := hid hnil; have HST := hid hst; have HLN := hid hln; have HLS := hid hls
  clear hst hln hls hnil
  obtain ⟨i0, hi, hz0, hz1, hz2⟩ := info_parts infoStr
  obtain ⟨i1, hi1, hy0, hy1, hy2⟩ := info_parts infoInt
  obtain ⟨i2, hi2, hx0, hx1, hx2⟩ := info_parts infoStep
  go_enter Tryd.func13, Tryd.ntmps13
  go_wp2_with fail
  go_loopw [3, 4] (fun v i wr => ∃ k : Nat, k ≤ xs.length ∧ i = .int .i64 k ∧ ∃ lv : Value, lv = v ∧ ∃ L : List (List Value), L.length = k ∧ (∀ (i : Nat) cs s, L[i]? = some cs → xs[i]? = some s → StepNot lv.ownBlock wr cs s) ∧ wr.ownsRow w.heap.size 32 6 lv k L.flatten ∧ Below w.heap.size w wr) (fun _ i _ => xs.length - (RowKit.intOf i).toNat)
  case atStart => exact ⟨0, Nat.zero_le _, rfl, _, rfl, [], rfl, by simp, ⟨rfl, .inl ⟨rfl, rfl⟩⟩, Below.refl _ _⟩
  case round =>
    obtain ⟨k, hk, rfl, lv, rfl, L, hL, hR, ho, hB⟩ := hrel
    obtain ⟨wo, rfl⟩ : ∃ wo : World, wo = wr := ⟨_, rfl⟩
    by_cases hlt : k < xs.length
    · have hne : xs ≠ [] := by intro h; rw [h] at hlt; simp at hlt
      obtain ⟨b, o, rfl, hcell⟩ := HST.out hne
      obtain ⟨s, hs⟩ : ∃ s, xs[k]? = some s := ⟨_, List.getElem?_eq_getElem hlt⟩
      obtain ⟨cs, hcs, hcc⟩ := hcell k s hs
      have hcc0 := hcc
      obtain ⟨⟨nv, sv, rfl, hnv, hsv⟩, hcc⟩ := And.intro (hcs.below hB (Nat.le_refl _)) (fun (j : Nat) x (hx : cs[j]? = some x) => by
        have := hcc j x hx
        exact (hB.cell (p := ⟨b, o + k * 6 + j, none⟩) (World.block_lt_of_cell? w _ this)).trans this)
      have hkn := HLN.out s (List.mem_of_getElem? hs)
      have hks := HLS.out s (List.mem_of_getElem? hs)
      have HS := hid hs
      clear hs
      obtain ⟨K, ns, ss, sw, sc, sm⟩ := s
      obtain ⟨a1, c1, rfl, p1, p2, p3⟩ := hnv
      obtain ⟨a2, c2, rfl, p4, p5, p6⟩ := hsv
      have hcell1 := hcc0
      rw [ints_len] at p1 hcc hcell1
      rw [strs_len] at p4 hcc hcell1
      unfold maxLen at p2 p5
      have q0 := hcc 0 (.int .i64 K) rfl; have q1 := hcc 1 (.slice a1 ns.length c1) rfl; have q2 := hcc 2 (.slice a2 ss.length c2) rfl; have q3 := hcc 3 (.int .i64 sw) rfl; have q4 := hcc 4 (.int .i64 sc) rfl; have q5 := hcc 5 (.int .i64 sm) rfl
      rw [Nat.add_zero] at q0
      have Q1 := hid (hcell1 1 (.slice a1 ns.length c1) rfl); have Q2 := hid (hcell1 2 (.slice a2 ss.length c2) rfl)
      have HR := hid hR; have HO := hid ho; have HB := hid hB; have P3 := hid p3; have P6 := hid p6
      have hkn' : ns.length ≤ 100000000 := hkn
      have hks' : ss.length ≤ 100000000 := hks
      have hlb : b < wo.heap.size := World.block_lt_of_cell? wo _ q0
      clear hcc hcc0 hcell1 hcell hcs hR ho hB p3 p6 hne hkn hks
      have hin : ∀ l c, Value.slice a1 ns.length c1 = .slice none l c → l = 0 ∧ c = 0 := by
        intro l c he
        have hq : w.cell? ⟨b, o + k * 6 + 1, none⟩ = some (.slice none l c) := by rw [← he]; exact Q1.out
        exact ((HNIL.out b o _ _ rfl k hlt l c).1 hq)
      go_upto_region 6 with (fail)
      have hbx : (wo.alloc (.cells #[.int .i64 K, .slice a1 ns.length c1, .slice a2 ss.length c2, .int .i64 sw, .int .i64 sc, .int .i64 sm] 32)).heap[wo.heap.size]? = some (.cells #[.int .i64 K, .slice a1 ns.length c1, .slice a2 ss.length c2, .int .i64 sw, .int .i64 sc, .int .i64 sm] 32 (0, 0)) := heap_alloc_new _ _
      have hbW := below_allocW wo (.cells #[.int .i64 K, .slice a1 ns.length c1, .slice a2 ss.length c2, .int .i64 sw, .int .i64 sc, .int .i64 sm] 32)
      have hzW := World.size_alloc wo (.cells #[.int .i64 K, .slice a1 ns.length c1, .slice a2 ss.length c2, .int .i64 sw, .int .i64 sc, .int .i64 sm] 32)
      generalize (wo.alloc (.cells #[.int .i64 K, .slice a1 ns.length c1, .slice a2 ss.length c2, .int .i64 sw, .int .i64 sc, .int .i64 sm] 32)) = W1 at hbx hbW hzW ⊢
      have r1 := (hbW.cell (p := ⟨b, o + k * 6 + 1, none⟩) hlb).trans q1
      have R2 := hid ((hbW.cell (p := ⟨b, o + k * 6 + 2, none⟩) hlb).trans q2)
      have hlb1 : b < W1.heap.size := by omega
      have HBX := hid hbx; have HBW := hid hbW
      clear hbx hbW q0 q1 q2 q3 q4 q5 hcc
      have HROW1 : Hid (RowOf (W1.alloc (.cells #[] 3)) (.slice a1 ns.length c1) (ints ns)) := hid (RowOf.below (B := W1.heap.size) (w := W1) (RowOf.below (w := wo) ⟨a1, c1, by rw [ints_len], by rw [ints_len]; exact p1, by unfold maxLen; exact p2, P3.out⟩ HBW.out (Nat.le_refl _)) (below_allocW _ _) (Nat.le_refl _))
      have HIN := hid hin
      clear hin
      have hA1 : ∀ u ∈ ints ns, u.oneCell' = true := by intro u hu; simp [ints] at hu; obtain ⟨x, _, rfl⟩ := hu; rfl
      have hA2 : (ints ns).length ≤ maxLen := by rw [ints_len]; unfold maxLen; omega
      have hA3 : (ints ns).length * 8 ≤ 140737488355328 := by rw [ints_len]; omega
      have hA4 : W1.heap.size ≤ (W1.alloc (.cells #[] 3)).heap.size := by rw [World.size_alloc]; omega
      have HZW := hid hzW
      clear hzW
      have HA := hid (And.intro hA1 (And.intro hA2 (And.intro hA3 hA4)))
      clear hA1 hA2 hA3 hA4
      go_wp2_with (at_builtin; refine wpList_append_row (by rfl) _ _ 27 (by rfl) W1.heap.size 3 i1 (.int .i64 0) 8 Tryd.underlying27 hi1 hy0 hy1 hy2 (by rfl) (.slice (some ⟨W1.heap.size, 0, none⟩) 0 0) (by rfl) (own_lit W1 3) (.slice a1 ns.length c1) (ints ns) (by rfl) HROW1.out HIN.out HA.out.1 HA.out.2.1 HA.out.2.2.1 HA.out.2.2.2 ?_)
      intro v1 w2 ho2 hg2
      have hbox2 : w2.heap[wo.heap.size]? = some (.cells #[.int .i64 K, .slice a1 ns.length c1, .slice a2 ss.length c2, .int .i64 sw, .int .i64 sc, .int .i64 sm] 32 (0, 0)) :=
        (hg2.block _ (by rw [World.size_alloc]; have := HZW.out; omega) (by intro h; simp [Value.ownBlock] at h; have := HZW.out; omega)).trans (((below_allocW W1 _).block _ (by have := HZW.out; omega)).trans HBX.out)
      have hb2 : Below W1.heap.size W1 w2 := ((Below.refl _ _).alloc (Nat.le_refl _) _).grown hg2 (by rw [World.size_alloc]; omega) (fun k hk => by simp [Value.ownBlock] at hk; omega)
      obtain ⟨ad1, k1, e1⟩ : ∃ ad cap, v1 = .slice ad ns.length cap := by
        obtain ⟨ad, cap, e, _⟩ := rowOf_own ho2
        rw [ints_len] at e
        exact ⟨ad, cap, e⟩
      subst e1
      have y1 := box_cell hbox2 1; have z1 := box_free hbox2 1
      simp at y1
      have HO2 := hid ho2; have HB2 := hid hb2; have HBX2 := hid hbox2
      clear ho2 hg2 hb2 hbox2 r1
      go_upto_region 7 with (fail)
      have hbx3 := heap_setCell_same w2 wo.heap.size 1 _ _ (.slice ad1 ns.length k1) HBX2.out
      have ho3 := ownsRow_setCell_below HO2.out (a := ⟨wo.heap.size, 1, none⟩) (by show wo.heap.size < _; have := HZW.out; omega) (.slice ad1 ns.length k1)
      have hb3 : Below wo.heap.size wo (w2.setCell ⟨wo.heap.size, 1, none⟩ (.slice ad1 ns.length k1)) := (HBW.out.trans (HB2.out.mono (by have := HZW.out; omega))).setCell (Nat.le_refl _) _
      have hz3 : W1.heap.size ≤ (w2.setCell ⟨wo.heap.size, 1, none⟩ (.slice ad1 ns.length k1)).heap.size := by have := HB2.out.size; simpa [World.setCell] using this
      generalize (w2.setCell ⟨wo.heap.size, 1, none⟩ (.slice ad1 ns.length k1)) = W3 at hbx3 ho3 hb3 hz3 ⊢
      simp only [List.setIfInBounds_toArray, List.set_cons_succ, List.set_cons_zero] at hbx3
      clear y1 z1
      have q2 : W3.cell? ⟨b, o + k * 6 + 2, none⟩ = some (.slice a2 ss.length c2) := (hb3.cell (p := ⟨b, o + k * 6 + 2, none⟩) hlb).trans ((HB.out.cell (p := ⟨b, o + k * 6 + 2, none⟩) (World.block_lt_of_cell? w _ Q2.out)).trans Q2.out)
      have hlb3 : b < W3.heap.size := World.block_lt_of_cell? W3 _ q2
      have HBX3 := hid hbx3; have HO3 := hid ho3; have HB3 := hid hb3
      clear hbx3 ho3 hb3
      have HROW3 : Hid (RowOf (W3.alloc (.cells #[] 9)) (.slice a2 ss.length c2) (strs ss)) := hid (RowOf.below (B := W3.heap.size) (w := W3) (RowOf.below (w := wo) (B := wo.heap.size) ⟨a2, c2, by rw [strs_len], by rw [strs_len]; exact p4, by unfold maxLen; exact p5, P6.out⟩ HB3.out (Nat.le_refl _)) (below_allocW _ _) (Nat.le_refl _))
      have HIN3 : Hid (∀ l c, Value.slice a2 ss.length c2 = .slice none l c → l = 0 ∧ c = 0) := hid (by
        intro l c he
        have hq : w.cell? ⟨b, o + k * 6 + 2, none⟩ = some (.slice none l c) := by rw [← he]; exact Q2.out
        exact ((HNIL.out b o _ _ rfl k hlt l c).2 hq))
      have HA3 : Hid ((∀ u ∈ strs ss, u.oneCell' = true) ∧ (strs ss).length ≤ maxLen ∧ (strs ss).length * 16 ≤ 140737488355328 ∧ W3.heap.size ≤ (W3.alloc (.cells #[] 9)).heap.size) := hid ⟨by intro u hu; simp [strs] at hu; obtain ⟨x, _, rfl⟩ := hu; rfl, by rw [strs_len]; unfold maxLen; omega, by rw [strs_len]; omega, by rw [World.size_alloc]; omega⟩
      have HZ3 := hid hz3
      clear hz3
      go_wp2_with (at_builtin; refine wpList_append_row (by rfl) _ _ 28 (by rfl) W3.heap.size 9 i0 (.string ⟨#[]⟩) 16 Tryd.underlying28 hi hz0 hz1 hz2 (by rfl) (.slice (some ⟨W3.heap.size, 0, none⟩) 0 0) (by rfl) (own_lit W3 9) (.slice a2 ss.length c2) (strs ss) (by rfl) HROW3.out HIN3.out HA3.out.1 HA3.out.2.1 HA3.out.2.2.1 HA3.out.2.2.2 ?_)
      intro v2 w4 ho4 hg4
      have hb4 : Below W3.heap.size W3 w4 := ((Below.refl _ _).alloc (Nat.le_refl _) _).grown hg4 (by rw [World.size_alloc]; omega) (fun k hk => by simp [Value.ownBlock] at hk; omega)
      obtain ⟨ad2, k2, e2⟩ : ∃ ad cap, v2 = .slice ad ss.length cap := by
        obtain ⟨ad, cap, e, _⟩ := rowOf_own ho4
        rw [strs_len] at e
        exact ⟨ad, cap, e⟩
      subst e2
      have hbox4 := (hb4.block _ (lt_of_block HBX3.out)).trans HBX3.out
      have y1 := box_cell hbox4 2; have z1 := box_free hbox4 2
      simp at y1
      have HO4 := hid ho4; have HB4 := hid hb4; have HBX4 := hid hbox4; have HO34 := hid (ownsRow_below HO3.out hb4)
      clear ho4 hg4 hb4 hbox4 q2
      go_upto_region 8 with (fail)
      have hlb4 : wo.heap.size < W3.heap.size := lt_of_block HBX3.out
      have hbx5 := heap_setCell_same w4 wo.heap.size 2 _ _ (.slice ad2 ss.length k2) HBX4.out
      have ho5 := ownsRow_setCell_below HO34.out (a := ⟨wo.heap.size, 2, none⟩) (by show wo.heap.size < _; have := HZW.out; omega) (.slice ad2 ss.length k2)
      have ho6 := ownsRow_setCell_below HO4.out (a := ⟨wo.heap.size, 2, none⟩) hlb4 (.slice ad2 ss.length k2)
      have hb5 : Below wo.heap.size wo (w4.setCell ⟨wo.heap.size, 2, none⟩ (.slice ad2 ss.length k2)) := (HB3.out.trans (HB4.out.mono (by omega))).setCell (Nat.le_refl _) _
      generalize (w4.setCell ⟨wo.heap.size, 2, none⟩ (.slice ad2 ss.length k2)) = W5 at hbx5 ho5 ho6 hb5 ⊢
      simp only [List.setIfInBounds_toArray, List.set_cons_succ, List.set_cons_zero] at hbx5
      clear y1 z1
      have y0 := box_cell hbx5 0; have y1 := box_cell hbx5 1; have y2 := box_cell hbx5 2; have y3 := box_cell hbx5 3; have y4 := box_cell hbx5 4; have y5 := box_cell hbx5 5
      simp at y0 y1 y2 y3 y4 y5
      have HN5 := hid (And.intro (rowNot_own (own := lv.ownBlock) ho5 (fun k hk => by have := (HO.out.lt k hk).2; have := HZW.out; omega)) (rowNot_own (own := lv.ownBlock) ho6 (fun k hk => by have := (HO.out.lt k hk).2; omega)))
      have hol : W5.ownsRow w.heap.size 32 6 lv k L.flatten := ownsRow_below HO.out hb5
      have HB5 := hid hb5
      have hz5 : wo.heap.size < W5.heap.size := lt_of_block hbx5
      have hzw := HB.out.size
      clear hbx5 ho5 ho6 hb5
      go_wp2_with (at_builtin; refine wpList_append_own_at _ rfl _ _ 22 rfl w.heap.size 32 i2 stepZero 6 80 Tryd.underlying22 hi2 hx0 hx1 hx2 rfl (by decide) lv k L.flatten rfl (hol.alloc _) ⟨W5.heap.size, 0, none⟩ 1 1 [.int .i64 K, .slice ad1 ns.length k1, .slice ad2 ss.length k2, .int .i64 sw, .int .i64 sc, .int .i64 sm] rfl rfl (World.news_of_block (cs := #[.int .i64 K, .slice ad1 ns.length k1, .slice ad2 ss.length k2, .int .i64 sw, .int .i64 sc, .int .i64 sm]) (t := 32) (fr := (0, 0)) (heap_alloc_new W5 _)) (by intro u hu; simp at hu; rcases hu with rfl | rfl | rfl | rfl | rfl | rfl <;> rfl) (by unfold maxLen; omega) (by omega) (by rw [World.size_alloc]; omega) ?_)
      intro v6 w6 ho6 hg6 _ hat6
      have hst : StepNot lv.ownBlock W5 [.int .i64 K, .slice ad1 ns.length k1, .slice ad2 ss.length k2, .int .i64 sw, .int .i64 sc, .int .i64 sm] ⟨K, ns, ss, sw, sc, sm⟩ := ⟨_, _, rfl, HN5.out.1, HN5.out.2⟩
      have HR6 : Hid (∀ (i : Nat) cs s, (L ++ [[.int .i64 K, .slice ad1 ns.length k1, .slice ad2 ss.length k2, .int .i64 sw, .int .i64 sc, .int .i64 sm]])[i]? = some cs → xs[i]? = some s → StepNot v6.ownBlock w6 cs s) := hid (by
        intro i cs s h1 h2
        rcases Nat.lt_or_ge i L.length with h | h
        · rw [List.getElem?_append_left h] at h1
          exact ((((HR.out i cs s h1 h2).below HB5.out (Nat.le_refl _)).below (below_allocW W5 _) (Nat.le_refl _))).grown hg6 (by rw [World.size_alloc]; exact hat6)
        · rw [List.getElem?_append_right h] at h1
          have hi0 : i - L.length = 0 := by
            have := (List.getElem?_eq_some_iff.1 h1).1
            simp only [List.length_cons, List.length_nil] at this
            omega
          have hik : i = k := by omega
          rw [hi0] at h1
          subst hik
          rw [HS.out] at h2
          simp only [List.getElem?_cons_zero, Option.some.injEq] at h1 h2
          subst h1; subst h2
          exact (hst.below (below_allocW W5 _) (Nat.le_refl _)).grown hg6 (by rw [World.size_alloc]; exact hat6))
      have HB6 := hid (((HB.out.trans (HB5.out.mono hzw)).alloc (by omega) (.cells #[.int .i64 K, .slice ad1 ns.length k1, .slice ad2 ss.length k2, .int .i64 sw, .int .i64 sc, .int .i64 sm] 32)).grown hg6 (by rw [World.size_alloc]; omega) (fun k hk => (HO.out.lt k hk).1))
      have HO6 := hid ho6
      clear ho6 hg6 hat6 hol y0 y1 y2 y3 y4 y5 hst
      go_wp2_with fail
      exact ⟨⟨k + 1, by omega, by go_num, _, rfl, L ++ [[.int .i64 K, .slice ad1 ns.length k1, .slice ad2 ss.length k2, .int .i64 sw, .int .i64 sc, .int .i64 sm]], by simp [hL], HR6.out, by have := HO6.out; rw [List.flatten_append]; simpa using this, HB6.out⟩, by simp [RowKit.intOf]; omega⟩
    · have hek : k = xs.length := by omega
      subst hek
      have H := hid (And.intro (stepsOf_own ho hL hR) hB)
      clear ho hL hR hB
      go_wp2_with fail
      go_ret
      exact ⟨_, rfl, H.out.1, H.out.2⟩
end Go.Proofs.YtijlfggficjamaaDoor
