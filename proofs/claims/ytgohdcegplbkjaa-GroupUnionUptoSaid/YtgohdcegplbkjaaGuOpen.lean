/- An argument of type []kindredlaw20.Step and one of type []int, as the form reads them. -/
import Derived.Test.YtgohdcegplbkjaaGuLaw
import Derived.Test.YtgohdcegplbkjaaRows
import Derived.ProofKit
import Derived.OpenShut
import Derived.ReadAgain
import Derived.SliceStrings
import Derived.Deep.Slices
namespace Go.Proofs.Ytgohdcegplbkjaa
set_option linter.unusedVariables false
set_option linter.unusedSimpArgs false
open Go Go.RowKit Go.ChangeShapes Go.WideShapes Go.ChangeAt Go.Deep
open Go.Lib (hid)

/-! ### the bulk -/
theorem bulk_part {H : Type} {d : DataW H} {l : List (DataW H)} (h : d ∈ l) : Rows.uptoBulk d ≤ Rows.uptoBulkAll l := by
  induction l with
  | nil => cases h
  | cons x r ih =>
    simp only [Rows.uptoBulkAll]
    cases List.mem_cons.1 h with
    | inl e => subst e; omega
    | inr e => have := ih e; omega
theorem bulk_lits {H : Type} (k : IntKind) (zs : List Int) : Rows.uptoBulkAll (lits (H := H) k zs) = zs.length := by
  induction zs with
  | nil => rfl
  | cons z r ih =>
    have : Rows.uptoBulkAll (lits (H := H) k (z :: r)) = 1 + Rows.uptoBulkAll (lits (H := H) k r) := by
      show Rows.uptoBulkAll (_ :: _) = _
      simp only [Rows.uptoBulkAll, Rows.uptoBulk]; rfl
    rw [this, ih, List.length_cons]; omega
theorem bulk_range {H : Type} (D : Nat → DataW H) (n : Nat) : Rows.uptoBulkAll ((List.range n).map D) = ((List.range n).map fun i => Rows.uptoBulk (D i)).sum := by
  have h : ∀ l : List Nat, Rows.uptoBulkAll (l.map D) = (l.map fun i => Rows.uptoBulk (D i)).sum := by
    intro l
    induction l with
    | nil => rfl
    | cons x r ih => simp only [List.map_cons, Rows.uptoBulkAll, List.sum_cons, ih]
  exact h _
/-! ### addresses -/
theorem addr_spot {w : World} {a : Addr} {v : Value} (h : w.cell? (a.add 0) = some v) : a = ⟨a.block, a.off, none⟩ := by
  obtain ⟨b, o, s⟩ := a
  have hs : s = none := by
    cases s with
    | none => rfl
    | some q =>
      exfalso
      rw [show (⟨b, o, some q⟩ : Addr).add 0 = ⟨b, o, some q⟩ from rfl] at h
      unfold World.cell? at h
      split at h <;> simp_all
  rw [hs]
theorem addr_at {w : World} {a : Addr} {i : Nat} {v : Value} (ha : a = ⟨a.block, a.off, none⟩) (h : w.cell? (a.add i) = some v) : w.cell? ⟨a.block, a.off + i, none⟩ = some v := by
  unfold Addr.add at h
  split at h
  · rename_i h0; rw [h0, Nat.add_zero, ← ha]; exact h
  · exact h

/-! ### rows that came in -/
section
variable {H : Type} {enc : TypeId × Value → H} {w : World} {base : Nat} {held : Bool}
theorem lit64 {n : Int} (h : (Lit.int .i64 n).wf = true) : -9223372036854775808 ≤ n ∧ n ≤ 9223372036854775807 := by
  simp only [Lit.wf, Bool.and_eq_true, decide_eq_true_eq, show IntKind.i64.min = -9223372036854775808 from rfl, show IntKind.i64.max = 9223372036854775807 from rfl] at h
  exact h
theorem open_ints_row {fuel : Nat} {cs : List Value} {x : DataW H × List MemPlace} (h : DataW.trod enc Try.prog w base (fun _ => true) held fuel 22 cs = some x) :
    ∃ v zs, cs = [v] ∧ RowOf w v (ints zs) ∧ zs.length + 1 ≤ Rows.uptoBulk x.1 ∧ ∀ z ∈ zs, -9223372036854775808 ≤ z ∧ z ≤ 9223372036854775807 := by
  rcases open_ints Try.underlying22 Try.underlying3 (by kernel_rfl) h with ⟨rfl, rfl⟩ | ⟨a, len, cap, zs, rfl, hb, hl, hm, hz, rfl, hc, hwf⟩
  · exact ⟨_, [], rfl, RowOf.nil w, by simp [Rows.uptoBulk], by simp⟩
  · simp only [if_true] at hz
    have hlen : (zs.take len).length = len := by rw [List.length_take]; omega
    refine ⟨_, zs.take len, rfl, ⟨some a, cap, by rw [ints_len, hlen], by rw [ints_len, hlen]; exact hl, hm, fun hne => ?_⟩, ?_, fun z hz' => lit64 (hwf z (List.mem_of_mem_take hz'))⟩
    · have h0 : 0 < len := by
        rcases Nat.eq_zero_or_pos len with h0 | h0
        · subst h0; simp [ints] at hne
        · exact h0
      have ha := addr_spot (hc 0 (by omega))
      refine ⟨a.block, a.off, by rw [← ha], fun i y hy => ?_⟩
      have hi : i < len := by have := (List.getElem?_eq_some_iff.1 hy).1; rw [ints_len, hlen] at this; exact this
      rw [addr_at ha (hc i (by omega))]
      rw [ints_get _ _ (by omega)] at hy
      rw [← hy, List.getD_eq_getElem?_getD, List.getD_eq_getElem?_getD, List.getElem?_take_of_lt hi]
    · simp only [Rows.uptoBulk, bulk_lits]; rw [hlen]; omega
instance : Inhabited JStep := ⟨⟨0, 0, false, 0⟩⟩
set_option maxRecDepth 100000 in
/-- one step's cells, as the form reads them -/
theorem open_jstep {fuel : Nat} {cs : List Value} {x : DataW H × List MemPlace} (h : DataW.trod enc Try.prog w base (fun _ => true) held fuel 36 cs = some x) :
    ∃ s : JStep, cs = s.cells ∧ s.ok := by
  obtain ⟨ys, n, rfl, rfl, hl, hyl, hf⟩ := DataW.trod_struct Try.underlying36 h
  have h4 : cs.length = 4 := by rw [hl]; kernel_rfl
  match cs, h4 with
  | [c0, c1, c2, c3], _ =>
    match ys, hyl with
    | [y0, y1, y2, y3], _ =>
      have f0 := hf 0 _ rfl
      have f1 := hf 1 _ rfl
      have f2 := hf 2 _ rfl
      have f3 := hf 3 _ rfl
      simp only [List.drop_succ_cons, List.drop_zero, show Try.prog.cellsOf 3 = 1 by kernel_rfl, show Try.prog.cellsOf 4 = 1 by kernel_rfl, List.take_succ_cons, List.take_zero, List.getElem?_cons_zero, List.getElem?_cons_succ] at f0 f1 f2 f3
      obtain ⟨a, ha, _, wa⟩ := DataW.trod_int Try.underlying3 f0
      obtain ⟨b, hb, _, wb⟩ := DataW.trod_int Try.underlying3 f1
      obtain ⟨t, ht, _⟩ := DataW.trod_bool Try.underlying4 f2
      obtain ⟨l, hl', _, wl⟩ := DataW.trod_int Try.underlying3 f3
      obtain rfl := (List.cons.inj ha).1; obtain rfl := (List.cons.inj hb).1; obtain rfl := (List.cons.inj ht).1; obtain rfl := (List.cons.inj hl').1
      exact ⟨⟨a, b, t, l⟩, rfl, lit64 wa, lit64 wb, lit64 wl⟩
theorem flatJ_get {xs : List JStep} {i : Nat} {u : Value} (h : (flatJ xs)[i]? = some u) : ∃ s, xs[i / 4]? = some s ∧ s.cells[i % 4]? = some u := by
  have hl := (List.getElem?_eq_some_iff.1 h).1
  rw [flatJ_len] at hl
  have hk : i / 4 < xs.length := by omega
  refine ⟨xs[i / 4], List.getElem?_eq_getElem hk, ?_⟩
  obtain ⟨f0, f1, f2, f3⟩ := flatJ_at (List.getElem?_eq_getElem hk)
  have hm : i = i / 4 * 4 + i % 4 := by omega
  have h4 : i % 4 < 4 := Nat.mod_lt _ (by decide)
  rw [hm] at h
  rcases (show i % 4 = 0 ∨ i % 4 = 1 ∨ i % 4 = 2 ∨ i % 4 = 3 by omega) with e | e | e | e <;> rw [e] at h ⊢
  · rw [← h]; exact f0.symm
  · rw [← h]; exact f1.symm
  · rw [← h]; exact f2.symm
  · rw [← h]; exact f3.symm
set_option maxRecDepth 100000 in
/-- an argument of type []Step -/
theorem open_jsteps {v : Value} {d : DataW H} {p : List MemPlace} {r : Reach} {b0 : Nat} (hv : Value.okWide Try.prog w r b0 23 v) (h : DataW.Trod enc Try.prog w base (fun _ => true) held 23 v d p) (hbulk : Rows.uptoBulk d ≤ 1048576) :
    ∃ xs : List JStep, StepsJ w v xs ∧ (∀ s ∈ xs, s.ok) ∧ xs.length ≤ 1048576 := by
  obtain ⟨fuel, hf⟩ := h
  obtain ⟨a0, len0, cap0, rfl⟩ := okWide_slice Try.underlying23 hv
  rcases open_slice Try.underlying23 hf with ⟨he, hx⟩ | ⟨a, len, cap, m, n, D, Pl, hcs, hb, hl, hm, hmm, hx, hi⟩
  · simp [Value.cells] at he
    obtain ⟨rfl, rfl, rfl⟩ := he
    exact ⟨[], ⟨none, 0, rfl, Nat.le_refl _, by unfold maxLen; omega, fun _ => rfl, fun h => absurd rfl h⟩, by simp, by simp⟩
  · simp [Value.cells] at hcs
    obtain ⟨rfl, rfl, rfl⟩ := hcs
    simp only [if_true] at hmm
    subst hmm
    simp only [Prod.mk.injEq] at hx
    obtain ⟨rfl, rfl⟩ := hx
    have hc4 : Try.prog.cellsOf 36 = 4 := by kernel_rfl
    rw [hc4] at hi
    simp only [Rows.uptoBulk] at hbulk
    obtain ⟨f, hfs⟩ : ∃ f : Nat → JStep, ∀ i, i < len0 → (∀ j, j < 4 → w.cell? ((a.add (i * 4)).add j) = (f i).cells[j]?) ∧ (f i).ok := by
      refine choose_lt (p := fun i (s : JStep) => (∀ j, j < 4 → w.cell? ((a.add (i * 4)).add j) = s.cells[j]?) ∧ s.ok) fun i h => ?_
      obtain ⟨cs', hc, ht⟩ := hi i (by omega)
      obtain ⟨_, hcl, hat⟩ := World.cells?_some hc
      obtain ⟨s, rfl, h2⟩ := open_jstep ht
      exact ⟨s, hat, h2⟩
    refine ⟨(List.range len0).map f, ⟨some a, m, by simp, by simpa using hl, hm, by simp, fun hne => ?_⟩, ?_, ?_⟩
    · have h0 : 0 < len0 := by
        rcases Nat.eq_zero_or_pos len0 with h0 | h0
        · subst h0; simp at hne
        · exact h0
      have ha : a = ⟨a.block, a.off, none⟩ := by
        obtain ⟨hat, _⟩ := hfs 0 h0
        have hx := hat 0 (by omega)
        rw [Go.Deep.add_add] at hx
        exact addr_spot (hx.trans rfl)
      refine ⟨a.block, a.off, by rw [← ha], fun i u hu => ?_⟩
      obtain ⟨s, hs, hcell⟩ := flatJ_get hu
      have hil : i / 4 < len0 := by have := (List.getElem?_eq_some_iff.1 hs).1; simpa using this
      have hs' : s = f (i / 4) := by
        rw [List.getElem?_map, List.getElem?_range hil] at hs
        simpa using hs.symm
      subst hs'
      obtain ⟨hat, _⟩ := hfs (i / 4) hil
      have h' := (hat (i % 4) (Nat.mod_lt _ (by decide))).trans hcell
      rw [Go.Deep.add_add, show i / 4 * 4 + i % 4 = i by omega] at h'
      exact addr_at ha h'
    · intro s hs
      obtain ⟨i, hi', rfl⟩ := List.mem_map.1 hs
      exact (hfs i (List.mem_range.1 hi')).2
    · have h1 : ∀ l : List Nat, l.length ≤ Rows.uptoBulkAll (l.map D) := by
        intro l
        induction l with
        | nil => simp
        | cons x r ih =>
          have h2 : 1 ≤ Rows.uptoBulk (D x) := by
            cases D x with
            | lit l => cases l <;> simp [Rows.uptoBulk]
            | nil => simp [Rows.uptoBulk]
            | ptr d => simp [Rows.uptoBulk]
            | slice elems spare => simp [Rows.uptoBulk]
            | agg parts => simp [Rows.uptoBulk]
            | iface t d => simp [Rows.uptoBulk]
            | map entries => simp [Rows.uptoBulk]
            | held h => simp [Rows.uptoBulk]
          simp only [List.map_cons, Rows.uptoBulkAll, List.length_cons]; omega
      have := h1 (List.range len0)
      simp at this ⊢
      omega
/-- an argument of type []int -/
theorem open_ids {v : Value} {d : DataW H} {p : List MemPlace} {r : Reach} {b0 : Nat} (hv : Value.okWide Try.prog w r b0 22 v) (h : DataW.Trod enc Try.prog w base (fun _ => true) held 22 v d p) (hbulk : Rows.uptoBulk d ≤ 1048576) :
    ∃ ids : List Int, RowOf w v (ints ids) ∧ VNil v ∧ (∀ x ∈ ids, inI x) ∧ ids.length ≤ 1048576 := by
  obtain ⟨fuel, hf⟩ := h
  obtain ⟨a0, len0, cap0, rfl⟩ := okWide_slice Try.underlying22 hv
  have hn : VNil (.slice a0 len0 cap0) := by
    rcases open_slice Try.underlying22 hf with ⟨he, hx⟩ | ⟨a, len, cap, m, n, D, Pl, hcs, hb, hl, hm, hmm, hx, hi⟩
    · simp [Value.cells] at he
      obtain ⟨rfl, rfl, rfl⟩ := he
      exact fun n c e => by cases e; exact ⟨rfl, rfl⟩
    · simp [Value.cells] at hcs
      obtain ⟨rfl, rfl, rfl⟩ := hcs
      exact fun n c e => by cases e
  obtain ⟨v', zs, e, h1, h2, h3⟩ := open_ints_row hf
  simp [Value.cells] at e
  subst e
  have h2' : zs.length + 1 ≤ Rows.uptoBulk d := h2
  exact ⟨zs, h1, hn, h3, by omega⟩
end

/-! ### the arguments read again -/
theorem trod_again {H : Type} {enc : TypeId × Value → H} {W W' : World} {ts : List TypeId} {vs : List Value} {ds : List (DataW H)} {ps : List MemPlace}
    (h : DataW.TrodAll enc Try.prog W 0 (fun _ => true) true ts vs ds ps) (hts : ∀ t ∈ ts, t < Try.prog.types.size) (hb : Below W.heap.size W W') (hlt : ∀ p ∈ ps, p.block < W.heap.size) (sp : Nat → Bool) (hsp : ∀ p ∈ ps, sp p.block = true) :
    DataW.TrodAll enc Try.prog W' 0 sp true ts vs ds ps := by
  have h1 := DataW.TrodAll.respare (spare' := sp) (kids_rows (P := Try.prog) (by kernel_rfl) (by kernel_rfl)) (slices_full_of Try.prog (by kernel_rfl)) hts h hsp
  have h2 : ∀ p ∈ ps, W.sameAt W' p := fun p hp => hb.same (hlt p hp)
  clear h hts hlt hsp
  induction ts generalizing vs ds ps with
  | nil =>
    cases vs <;> cases ds <;> simp_all [DataW.TrodAll]
  | cons t ts ih =>
    cases vs with
    | nil => cases ds <;> simp_all [DataW.TrodAll]
    | cons v vs =>
      cases ds with
      | nil => simp_all [DataW.TrodAll]
      | cons d ds =>
        obtain ⟨p, q, ⟨n, hn⟩, hq, rfl⟩ := h1
        exact ⟨p, q, ⟨n, DataW.trod_carry n _ _ _ hn (fun x hx => h2 x (List.mem_append_left _ hx))⟩, ih hq (fun x hx => h2 x (List.mem_append_right _ hx)), rfl⟩
end Go.Proofs.Ytgohdcegplbkjaa
