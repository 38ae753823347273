/- An argument of type []Step, as the form reads it: the list of steps that it reads as, and what the bound on its bulk gives. The arguments of a law read again behind the call as before. -/
import Derived.Test.YtijlfggficjamaaDoorPlayLaw
import Derived.Test.YtijlfggficjamaaDoorRows
import Derived.ProofKit
import Derived.OpenShut
import Derived.ReadAgain
import Derived.SliceStrings
import Derived.Deep.Slices
namespace Go.Proofs.YtijlfggficjamaaDoor
set_option linter.unusedVariables false
set_option linter.unusedSimpArgs false
open Go Go.RowKit Go.ChangeShapes Go.WideShapes Go.ChangeAt Go.Deep
open Go.Lib (hid)

/-! ### the bulk -/
theorem bulk_part {H : Type} {d : DataW H} {l : List (DataW H)} (h : d ∈ l) : Rows.uptoBulk d ≤ Rows.uptoBulkAll l := by
  induction l with
  | nil => cases h
  | cons x r ih =>
    simp only [Rows.uptoBulkAll]
    cases List.mem_cons.1 h with
    | inl e => subst e; omega
    | inr e => have := ih e; omega
theorem bulk_lits {H : Type} (k : IntKind) (zs : List Int) : Rows.uptoBulkAll (lits (H := H) k zs) = zs.length := by
  induction zs with
  | nil => rfl
  | cons z r ih =>
    have : Rows.uptoBulkAll (lits (H := H) k (z :: r)) = 1 + Rows.uptoBulkAll (lits (H := H) k r) := by
      show Rows.uptoBulkAll (_ :: _) = _
      simp only [Rows.uptoBulkAll, Rows.uptoBulk]; rfl
    rw [this, ih, List.length_cons]; omega
theorem bulk_strs {H : Type} (ss : List ByteArray) : Rows.uptoBulkAll (Go.ChangeShapes.strs (H := H) ss) = ss.length + sizeSum ss := by
  induction ss with
  | nil => rfl
  | cons z r ih =>
    have : Rows.uptoBulkAll (Go.ChangeShapes.strs (H := H) (z :: r)) = (z.size + 1) + Rows.uptoBulkAll (Go.ChangeShapes.strs (H := H) r) := by
      show Rows.uptoBulkAll (_ :: _) = _
      simp only [Rows.uptoBulkAll, Rows.uptoBulk, size_list]; rfl
    rw [this, ih]
    simp only [List.length_cons, sizeSum, List.map_cons, List.sum_cons]; omega
theorem bulk_range {H : Type} (D : Nat → DataW H) (n : Nat) : Rows.uptoBulkAll ((List.range n).map D) = ((List.range n).map fun i => Rows.uptoBulk (D i)).sum := by
  have h : ∀ l : List Nat, Rows.uptoBulkAll (l.map D) = (l.map fun i => Rows.uptoBulk (D i)).sum := by
    intro l
    induction l with
    | nil => rfl
    | cons x r ih => simp only [List.map_cons, Rows.uptoBulkAll, List.sum_cons, ih]
  exact h _
theorem sizeSum_mem {l : List ByteArray} {x : ByteArray} (h : x ∈ l) : x.size ≤ sizeSum l := by
  induction l with
  | nil => cases h
  | cons a r ih =>
    simp only [sizeSum, List.map_cons, List.sum_cons] at *
    rcases List.mem_cons.1 h with rfl | h
    · omega
    · have := ih h; omega

/-! ### addresses -/
theorem addr_spot {w : World} {a : Addr} {v : Value} (h : w.cell? (a.add 0) = some v) : a = ⟨a.block, a.off, none⟩ := by
  obtain ⟨b, o, s⟩ := a
  have hs : s = none := by
    cases s with
    | none => rfl
    | some q =>
      exfalso
      rw [show (⟨b, o, some q⟩ : Addr).add 0 = ⟨b, o, some q⟩ from rfl] at h
      unfold World.cell? at h
      split at h <;> simp_all
  rw [hs]
theorem addr_at {w : World} {a : Addr} {i : Nat} {v : Value} (ha : a = ⟨a.block, a.off, none⟩) (h : w.cell? (a.add i) = some v) : w.cell? ⟨a.block, a.off + i, none⟩ = some v := by
  unfold Addr.add at h
  split at h
  · rename_i h0; rw [h0, Nat.add_zero, ← ha]; exact h
  · exact h

/-! ### rows that came in -/
section
variable {H : Type} {enc : TypeId × Value → H} {w : World} {base : Nat} {held : Bool}
theorem lit64 {n : Int} (h : (Lit.int .i64 n).wf = true) : -9223372036854775808 ≤ n ∧ n ≤ 9223372036854775807 := by
  simp only [Lit.wf, Bool.and_eq_true, decide_eq_true_eq, show IntKind.i64.min = -9223372036854775808 from rfl, show IntKind.i64.max = 9223372036854775807 from rfl] at h
  exact h
theorem open_ints_row {fuel : Nat} {cs : List Value} {x : DataW H × List MemPlace} (h : DataW.trod enc Tryd.prog w base (fun _ => true) held fuel 27 cs = some x) :
    ∃ v zs, cs = [v] ∧ RowOf w v (ints zs) ∧ zs.length + 1 ≤ Rows.uptoBulk x.1 ∧ ∀ z ∈ zs, -9223372036854775808 ≤ z ∧ z ≤ 9223372036854775807 := by
  rcases open_ints Tryd.underlying27 Tryd.underlying3 (by kernel_rfl) h with ⟨rfl, rfl⟩ | ⟨a, len, cap, zs, rfl, hb, hl, hm, hz, rfl, hc, hwf⟩
  · exact ⟨_, [], rfl, RowOf.nil w, by simp [Rows.uptoBulk], by simp⟩
  · simp only [if_true] at hz
    have hlen : (zs.take len).length = len := by rw [List.length_take]; omega
    refine ⟨_, zs.take len, rfl, ⟨some a, cap, by rw [ints_len, hlen], by rw [ints_len, hlen]; exact hl, hm, fun hne => ?_⟩, ?_, fun z hz' => lit64 (hwf z (List.mem_of_mem_take hz'))⟩
    · have h0 : 0 < len := by
        rcases Nat.eq_zero_or_pos len with h0 | h0
        · subst h0; simp [ints] at hne
        · exact h0
      have ha := addr_spot (hc 0 (by omega))
      refine ⟨a.block, a.off, by rw [← ha], fun i y hy => ?_⟩
      have hi : i < len := by have := (List.getElem?_eq_some_iff.1 hy).1; rw [ints_len, hlen] at this; exact this
      rw [addr_at ha (hc i (by omega))]
      rw [ints_get _ _ (by omega)] at hy
      rw [← hy, List.getD_eq_getElem?_getD, List.getD_eq_getElem?_getD, List.getElem?_take_of_lt hi]
    · simp only [Rows.uptoBulk, bulk_lits]; rw [hlen]; omega
theorem open_strs_row {fuel : Nat} {cs : List Value} {x : DataW H × List MemPlace} (h : DataW.trod enc Tryd.prog w base (fun _ => true) held fuel 28 cs = some x) :
    ∃ v ss, cs = [v] ∧ RowOf w v (strs ss) ∧ ss.length + sizeSum ss + 1 ≤ Rows.uptoBulk x.1 := by
  rcases open_strings Tryd.underlying28 Tryd.underlying9 (by kernel_rfl) h with ⟨rfl, rfl⟩ | ⟨a, len, cap, ss, rfl, hb, hl, hm, hz, rfl, hc, hwf⟩
  · exact ⟨_, [], rfl, RowOf.nil w, by simp [Rows.uptoBulk, sizeSum]⟩
  · simp only [if_true] at hz
    have hlen : (ss.take len).length = len := by rw [List.length_take]; omega
    refine ⟨_, ss.take len, rfl, ⟨some a, cap, by rw [strs_len, hlen], by rw [strs_len, hlen]; exact hl, hm, fun hne => ?_⟩, ?_⟩
    · have h0 : 0 < len := by
        rcases Nat.eq_zero_or_pos len with h0 | h0
        · subst h0; simp [strs] at hne
        · exact h0
      have ha := addr_spot (hc 0 (by omega))
      refine ⟨a.block, a.off, by rw [← ha], fun i y hy => ?_⟩
      have hi : i < len := by have := (List.getElem?_eq_some_iff.1 hy).1; rw [strs_len, hlen] at this; exact this
      rw [addr_at ha (hc i (by omega))]
      rw [strs_get _ _ (by omega)] at hy
      rw [← hy, List.getD_eq_getElem?_getD, List.getD_eq_getElem?_getD, List.getElem?_take_of_lt hi]
    · simp only [Rows.uptoBulk, bulk_strs]; rw [hlen]; omega
instance : Inhabited StepM := ⟨⟨0, [], [], 0, 0, 0⟩⟩
set_option maxRecDepth 100000 in
/-- one step's cells, as the form reads them -/
theorem open_step {fuel : Nat} {cs : List Value} {x : DataW H × List MemPlace} (h : DataW.trod enc Tryd.prog w base (fun _ => true) held fuel 32 cs = some x) (hbulk : Rows.uptoBulk x.1 ≤ 1048576) :
    ∃ s : StepM, StepIs w cs.toArray s ∧ cs.length = 6 ∧ s.ok ∧ s.wt ≤ Rows.uptoBulk x.1 ∧ s.ns.length ≤ Rows.uptoBulk x.1 := by
  obtain ⟨ys, n, rfl, rfl, hl, hyl, hf⟩ := DataW.trod_struct Tryd.underlying32 h
  have h6 : cs.length = 6 := by rw [hl]; kernel_rfl
  match cs, h6 with
  | [c0, c1, c2, c3, c4, c5], _ =>
    match ys, hyl with
    | [y0, y1, y2, y3], _ =>
      have f0 := hf 0 _ rfl
      have f1 := hf 1 _ rfl
      have f2 := hf 2 _ rfl
      have f3 := hf 3 _ rfl
      simp only [List.drop_succ_cons, List.drop_zero, show Tryd.prog.cellsOf 3 = 1 by kernel_rfl, show Tryd.prog.cellsOf 27 = 1 by kernel_rfl, show Tryd.prog.cellsOf 28 = 1 by kernel_rfl, show Tryd.prog.cellsOf 30 = 3 by kernel_rfl, List.take_succ_cons, List.take_zero, List.getElem?_cons_zero, List.getElem?_cons_succ] at f0 f1 f2 f3
      obtain ⟨K, hK, rfl, wK⟩ := DataW.trod_int Tryd.underlying3 f0
      obtain ⟨nv, zs, hn, rn, bn, wn⟩ := open_ints_row f1
      obtain ⟨sv, ss, hs, rs, bs⟩ := open_strs_row f2
      obtain ⟨zs3, n3, _, rfl, hl3, hyl3, hf3⟩ := DataW.trod_struct Tryd.underlying30 f3
      match zs3, hyl3 with
      | [o0, o1, o2], _ =>
        have g0 := hf3 0 _ rfl
        have g1 := hf3 1 _ rfl
        have g2 := hf3 2 _ rfl
        simp only [List.drop_succ_cons, List.drop_zero, show Tryd.prog.cellsOf 3 = 1 by kernel_rfl, List.take_succ_cons, List.take_zero, List.getElem?_cons_zero, List.getElem?_cons_succ] at g0 g1 g2
        obtain ⟨k0, e0, rfl, w0⟩ := DataW.trod_int Tryd.underlying3 g0
        obtain ⟨k1, e1, rfl, w1⟩ := DataW.trod_int Tryd.underlying3 g1
        obtain ⟨k2, e2, rfl, w2⟩ := DataW.trod_int Tryd.underlying3 g2
        obtain rfl := (List.cons.inj hK).1; obtain rfl := (List.cons.inj hn).1; obtain rfl := (List.cons.inj hs).1; obtain rfl := (List.cons.inj e0).1; obtain rfl := (List.cons.inj e1).1; obtain rfl := (List.cons.inj e2).1
        simp only [List.map_cons, List.map_nil, Rows.uptoBulk, Rows.uptoBulkAll] at hbulk ⊢
        refine ⟨⟨K, zs, ss, k0, k1, k2⟩, ⟨_, _, rfl, rn, rs⟩, rfl, ⟨lit64 wK, wn, by show ss.length ≤ _; omega, fun x hx => by have hx' : x ∈ ss := hx; have := sizeSum_mem hx'; omega, lit64 w0, lit64 w1, lit64 w2⟩, ?_, ?_⟩
        · show 1 + ss.length + sizeSum ss ≤ _; omega
        · show zs.length ≤ _; omega
set_option maxRecDepth 100000 in
/-- an argument of type []Step -/
theorem open_steps {v : Value} {d : DataW H} {p : List MemPlace} {r : Reach} {b0 : Nat} (hv : Value.okWide Tryd.prog w r b0 22 v) (h : DataW.Trod enc Tryd.prog w base (fun _ => true) held 22 v d p) (hbulk : Rows.uptoBulk d ≤ 1048576) :
    ∃ xs : List StepM, StepsOf w v xs ∧ (∀ s ∈ xs, s.ok) ∧ wts xs ≤ 1048576 ∧ xs.length ≤ 1048576 ∧ (∀ s ∈ xs, s.ns.length ≤ 1048576) ∧ (∀ s ∈ xs, s.ss.length ≤ 1048576) := by
  obtain ⟨fuel, hf⟩ := h
  obtain ⟨a0, len0, cap0, rfl⟩ := okWide_slice Tryd.underlying22 hv
  rcases open_slice Tryd.underlying22 hf with ⟨he, hx⟩ | ⟨a, len, cap, m, n, D, Pl, hcs, hb, hl, hm, hmm, hx, hi⟩
  · simp [Value.cells] at he
    obtain ⟨rfl, rfl, rfl⟩ := he
    exact ⟨[], ⟨none, 0, rfl, Nat.le_refl _, by unfold maxLen; omega, fun h => absurd rfl h⟩, by simp, by simp [wts], by simp, by simp, by simp⟩
  · simp [Value.cells] at hcs
    obtain ⟨rfl, rfl, rfl⟩ := hcs
    simp only [if_true] at hmm
    subst hmm
    simp only [Prod.mk.injEq] at hx
    obtain ⟨rfl, rfl⟩ := hx
    have hc6 : Tryd.prog.cellsOf 32 = 6 := by kernel_rfl
    rw [hc6] at hi
    simp only [Rows.uptoBulk] at hbulk
    have hD : ∀ i, i < len0 → Rows.uptoBulk (D i) ≤ 1048576 := fun i h => by
      have := bulk_part (d := D i) (l := (List.range len0).map D) (List.mem_map.2 ⟨i, List.mem_range.2 h, rfl⟩)
      omega
    obtain ⟨f, hfs⟩ : ∃ f : Nat → StepM, ∀ i, i < len0 → ∃ cs' : List Value, (∀ j, j < 6 → w.cell? ((a.add (i * 6)).add j) = cs'[j]?) ∧ StepIs w cs'.toArray (f i) ∧ cs'.length = 6 ∧ (f i).ok ∧ (f i).wt ≤ Rows.uptoBulk (D i) ∧ (f i).ns.length ≤ Rows.uptoBulk (D i) := by
      refine choose_lt (p := fun i s => ∃ cs' : List Value, (∀ j, j < 6 → w.cell? ((a.add (i * 6)).add j) = cs'[j]?) ∧ StepIs w cs'.toArray s ∧ cs'.length = 6 ∧ s.ok ∧ s.wt ≤ Rows.uptoBulk (D i) ∧ s.ns.length ≤ Rows.uptoBulk (D i)) fun i h => ?_
      obtain ⟨cs', hc, ht⟩ := hi i (by omega)
      obtain ⟨_, hcl, hat⟩ := World.cells?_some hc
      obtain ⟨s, h1, h2, h3, h4, h5⟩ := open_step ht (hD i h)
      exact ⟨s, cs', hat, h1, h2, h3, h4, h5⟩
    refine ⟨(List.range len0).map f, ⟨some a, m, by simp, by simpa using hl, hm, fun hne => ?_⟩, ?_, ?_, ?_, ?_, ?_⟩
    · have h0 : 0 < len0 := by
        rcases Nat.eq_zero_or_pos len0 with h0 | h0
        · subst h0; simp at hne
        · exact h0
      have ha : a = ⟨a.block, a.off, none⟩ := by
        obtain ⟨cs', hat, _, hl6, _⟩ := hfs 0 h0
        have hx := hat 0 (by omega)
        rw [List.getElem?_eq_getElem (by omega), Go.Deep.add_add] at hx
        exact addr_spot hx
      have hadd : ∀ i j x, w.cell? ((a.add (i * 6)).add j) = some x → w.cell? ⟨a.block, a.off + i * 6 + j, none⟩ = some x := by
        intro i j x h'
        rw [Go.Deep.add_add] at h'
        rw [Nat.add_assoc]; exact addr_at ha h'
      refine ⟨a.block, a.off, by rw [← ha], fun i s hs => ?_⟩
      have hil : i < len0 := by have := (List.getElem?_eq_some_iff.1 hs).1; simpa using this
      have hs' : s = f i := by
        rw [List.getElem?_map, List.getElem?_range hil] at hs
        simpa using hs.symm
      subst hs'
      obtain ⟨cs', hat, h1, hl6, _⟩ := hfs i hil
      refine ⟨cs'.toArray, h1, fun j x hx => ?_⟩
      have hx' : cs'[j]? = some x := by simpa using hx
      have hj : j < 6 := by have := (List.getElem?_eq_some_iff.1 hx').1; omega
      exact hadd i j x (by rw [hat j hj]; exact hx')
    · intro s hs
      obtain ⟨i, hi', rfl⟩ := List.mem_map.1 hs
      obtain ⟨_, _, _, _, h, _⟩ := hfs i (List.mem_range.1 hi')
      exact h
    · have : wts ((List.range len0).map f) ≤ ((List.range len0).map fun i => Rows.uptoBulk (D i)).sum := by
        have h : ∀ l : List Nat, (∀ i ∈ l, i < len0) → wts (l.map f) ≤ (l.map fun i => Rows.uptoBulk (D i)).sum := by
          intro l
          induction l with
          | nil => intro _; simp [wts]
          | cons x r ih =>
            intro hl'
            have h1 := ih (fun i hi => hl' i (List.mem_cons_of_mem _ hi))
            obtain ⟨_, _, _, _, _, h2, _⟩ := hfs x (hl' x List.mem_cons_self)
            simp only [wts, List.map_cons, List.sum_cons] at *
            omega
        exact h _ (fun i hi => List.mem_range.1 hi)
      rw [← bulk_range] at this
      omega
    · have h1 : ∀ l : List Nat, l.length ≤ Rows.uptoBulkAll (l.map D) := by
        intro l
        induction l with
        | nil => simp
        | cons x r ih =>
          have h2 : 1 ≤ Rows.uptoBulk (D x) := by
            cases D x with
            | lit l => cases l <;> simp [Rows.uptoBulk]
            | nil => simp [Rows.uptoBulk]
            | ptr d => simp [Rows.uptoBulk]
            | slice elems spare => simp [Rows.uptoBulk]
            | agg parts => simp [Rows.uptoBulk]
            | iface t d => simp [Rows.uptoBulk]
            | map entries => simp [Rows.uptoBulk]
            | held h => simp [Rows.uptoBulk]
          simp only [List.map_cons, Rows.uptoBulkAll, List.length_cons]; omega
      have := h1 (List.range len0)
      simp at this ⊢
      omega
    · intro s hs
      obtain ⟨i, hi', rfl⟩ := List.mem_map.1 hs
      obtain ⟨_, _, _, _, _, _, h⟩ := hfs i (List.mem_range.1 hi')
      have := hD i (List.mem_range.1 hi')
      omega
    · intro s hs
      obtain ⟨i, hi', rfl⟩ := List.mem_map.1 hs
      obtain ⟨_, _, _, _, _, h, _⟩ := hfs i (List.mem_range.1 hi')
      have := hD i (List.mem_range.1 hi')
      unfold StepM.wt at h
      omega
end

/-! ### the arguments read again -/
theorem trod_again {H : Type} {enc : TypeId × Value → H} {W W' : World} {ts : List TypeId} {vs : List Value} {ds : List (DataW H)} {ps : List MemPlace}
    (h : DataW.TrodAll enc Tryd.prog W 0 (fun _ => true) true ts vs ds ps) (hts : ∀ t ∈ ts, t < Tryd.prog.types.size) (hb : Below W.heap.size W W') (hlt : ∀ p ∈ ps, p.block < W.heap.size) (sp : Nat → Bool) (hsp : ∀ p ∈ ps, sp p.block = true) :
    DataW.TrodAll enc Tryd.prog W' 0 sp true ts vs ds ps := by
  have h1 := DataW.TrodAll.respare (spare' := sp) (kids_rows (P := Tryd.prog) (by kernel_rfl) (by kernel_rfl)) (slices_full_of Tryd.prog (by kernel_rfl)) hts h hsp
  have h2 : ∀ p ∈ ps, W.sameAt W' p := fun p hp => hb.same (hlt p hp)
  clear h hts hlt hsp
  induction ts generalizing vs ds ps with
  | nil =>
    cases vs <;> cases ds <;> simp_all [DataW.TrodAll]
  | cons t ts ih =>
    cases vs with
    | nil => cases ds <;> simp_all [DataW.TrodAll]
    | cons v vs =>
      cases ds with
      | nil => simp_all [DataW.TrodAll]
      | cons d ds =>
        obtain ⟨p, q, ⟨n, hn⟩, hq, rfl⟩ := h1
        exact ⟨p, q, ⟨n, DataW.trod_carry n _ _ _ hn (fun x hx => h2 x (List.mem_append_left _ hx))⟩, ih hq (fun x hx => h2 x (List.mem_append_right _ hx)), rfl⟩
end Go.Proofs.YtijlfggficjamaaDoor
