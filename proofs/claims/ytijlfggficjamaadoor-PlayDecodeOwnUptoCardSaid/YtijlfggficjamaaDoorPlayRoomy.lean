/- The walk of roomy: a copy of the steps, each list with marks in the room behind it. -/
import Derived.Test.YtijlfggficjamaaDoorPlaySame
import Derived.Deep.DeepAppendRoom
import Derived.OwnWalk
import Derived.Deep.RegionHeld3
import Derived.Deep.AppendLies
namespace Go.Proofs.YtijlfggficjamaaDoor
set_option linter.unusedVariables false
set_option linter.unusedSimpArgs false
open Go Go.RowKit
open Go.Lib (hid)

theorem infoInt : (Tryd.prog.info? 3).map (fun i => (i.zero, i.size, i.bytes)) = some (some (.int .i64 0), 1, 8) := by kernel_rfl
def stepZero : Value := .agg #[.int .i64 0, .slice none 0 0, .slice none 0 0, .int .i64 0, .int .i64 0, .int .i64 0]
def markStep : List Value := [.int .i64 71, .slice none 0 0, .slice none 0 0, .int .i64 0, .int .i64 0, .int .i64 0, .int .i64 72, .slice none 0 0, .slice none 0 0, .int .i64 0, .int .i64 0, .int .i64 0]
theorem new_cells (w : World) (l : List Value) (e : TypeId) : ∀ (j : Nat) u, l[j]? = some u → (w.alloc (.cells l.toArray e)).cell? ((⟨w.heap.size, 0, none⟩ : Addr).add j) = some u := by
  intro j u hj
  have := World.cell?_alloc_at (w := w) l.toArray e w.heap.size j rfl
  rw [show (⟨w.heap.size, 0, none⟩ : Addr).add j = ⟨w.heap.size, j, none⟩ by
    by_cases h : j = 0
    · subst h; rfl
    · simp [Addr.add, h]]
  rw [this]; simpa using hj
/-- the block's cells begin with these -/
def CellsAt (w : World) (g : Nat) (l : List Value) : Prop := ∀ (i : Nat) x, l[i]? = some x → w.cell? ⟨g, i, none⟩ = some x
theorem CellsAt.below {w w' : World} {g : Nat} {l : List Value} {B : Nat} (h : CellsAt w g l) (hb : Below B w w') (hB : g < B) : CellsAt w' g l := fun i x hx => (hb.cell (p := ⟨g, i, none⟩) hB).trans (h i x hx)
def markN : List Value := [.int .i64 (-71), .int .i64 (-72)]
def markS : List Value := [.string ⟨#[114, 111, 111, 109]⟩, .string ⟨#[109, 111, 114, 101, 32, 114, 111, 111, 109]⟩]
/-- a step's cells, whose lists lie in blocks of their own, from B on, and have the marks behind them -/
def Roomed (w : World) (B : Nat) (cs : List Value) (s : StepM) : Prop :=
  ∃ g1 g2, B ≤ g1 ∧ B ≤ g2 ∧ g1 < w.heap.size ∧ g2 < w.heap.size ∧
    cs = [.int .i64 s.kind, .slice (some ⟨g1, 0, none⟩) s.ns.length (s.ns.length + 2), .slice (some ⟨g2, 0, none⟩) s.ss.length (s.ss.length + 2), .int .i64 s.w, .int .i64 s.c, .int .i64 s.m] ∧
    CellsAt w g1 (ints s.ns ++ markN) ∧ CellsAt w g2 (strs s.ss ++ markS)
theorem Roomed.below {w w' : World} {B : Nat} {cs : List Value} {s : StepM} (h : Roomed w B cs s) (hb : Below w.heap.size w w') : Roomed w' B cs s := by
  obtain ⟨g1, g2, h1, h2, h3, h4, e, h5, h6⟩ := h
  have := hb.size
  exact ⟨g1, g2, h1, h2, by omega, by omega, e, h5.below hb h3, h6.below hb h4⟩
theorem Roomed.grown {w w' : World} {B : Nat} {cs : List Value} {s : StepM} (h : Roomed w (B + 1) cs s) (hg : w.grownBy w' (some B)) (hz : w.heap.size ≤ w'.heap.size) : Roomed w' (B + 1) cs s := by
  obtain ⟨g1, g2, h1, h2, h3, h4, e, h5, h6⟩ := h
  refine ⟨g1, g2, h1, h2, by omega, by omega, e, fun i x hx => hg.cell (h5 i x hx) ?_, fun i x hx => hg.cell (h6 i x hx) ?_⟩
  · intro h; simp at h; omega
  · intro h; simp at h; omega
theorem Roomed.len {w : World} {B : Nat} {cs : List Value} {s : StepM} (h : Roomed w B cs s) : cs.length = 6 := by
  obtain ⟨g1, g2, h1, h2, h3, h4, rfl, h5, h6⟩ := h; rfl
theorem flat_get (L : List (List Value)) (h : ∀ c ∈ L, c.length = 6) (i j : Nat) (hj : j < 6) (c : List Value) (hc : L[i]? = some c) : L.flatten[i * 6 + j]? = c[j]? := by
  induction L generalizing i with
  | nil => simp at hc
  | cons a r ih =>
    have ha := h a List.mem_cons_self
    cases i with
    | zero =>
      simp at hc; subst hc
      rw [List.flatten_cons, Nat.zero_mul, Nat.zero_add, List.getElem?_append_left (by omega)]
    | succ i =>
      rw [List.flatten_cons, List.getElem?_append_right (by omega)]
      have := ih (fun c hc => h c (List.mem_cons_of_mem _ hc)) i (by simpa using hc)
      rw [← this]; congr 1; omega
theorem ints_take (l : List Int) (j : Nat) (h : j < l.length) : ints (l.take j) ++ [.int .i64 (l.getD j 0)] = ints (l.take (j + 1)) := by
  have e : l.getD j 0 = l[j] := by simp [List.getD_eq_getElem?_getD, h]
  rw [e, List.take_succ_eq_append_getElem h, ints, ints, List.map_append]; rfl
theorem strs_take (l : List ByteArray) (j : Nat) (h : j < l.length) : strs (l.take j) ++ [.string (l.getD j ByteArray.empty)] = strs (l.take (j + 1)) := by
  have e : l.getD j ByteArray.empty = l[j] := by simp [List.getD_eq_getElem?_getD, h]
  rw [e, List.take_succ_eq_append_getElem h, strs, strs, List.map_append]; rfl
theorem mk_int (w : World) (n : Nat) (hn : n ≤ 100000000) :
    ∃ w', (Instr.makeSlice 27 (.int .i64 0) (.int .i64 ((n : Int) + 2))).run Tryd.prog w = .ok (.slice (some ⟨w.heap.size, 0, none⟩) 0 (n + 2)) w' ∧
      w'.ownsRow w.heap.size 3 1 (.slice (some ⟨w.heap.size, 0, none⟩) 0 (n + 2)) 0 [] ∧ Below w.heap.size w w' ∧ w.heap.size < w'.heap.size := by
  obtain ⟨i1, hi1, hy0, hy1, hy2⟩ := info_parts infoInt
  obtain ⟨w', h1, h2, h3⟩ := run_make_own (P := Tryd.prog) w w.heap.size 27 3 i1 _ 1 Tryd.underlying27 hi1 hy0 hy1 .i64 .i64 (n + 2) (by rw [hy2]; omega) (by unfold maxLen; omega) (Nat.le_refl _)
  exact ⟨w', h1, h2, (Below.refl _ _).grown h3 (Nat.le_refl _) (fun k hk => by cases hk), (h2.lt _ rfl).2⟩
theorem mk_str (w : World) (n : Nat) (hn : n ≤ 100000000) :
    ∃ w', (Instr.makeSlice 28 (.int .i64 0) (.int .i64 ((n : Int) + 2))).run Tryd.prog w = .ok (.slice (some ⟨w.heap.size, 0, none⟩) 0 (n + 2)) w' ∧
      w'.ownsRow w.heap.size 9 1 (.slice (some ⟨w.heap.size, 0, none⟩) 0 (n + 2)) 0 [] ∧ Below w.heap.size w w' ∧ w.heap.size < w'.heap.size := by
  obtain ⟨i1, hi1, hy0, hy1, hy2⟩ := info_parts infoStr
  obtain ⟨w', h1, h2, h3⟩ := run_make_own (P := Tryd.prog) w w.heap.size 28 9 i1 _ 1 Tryd.underlying28 hi1 hy0 hy1 .i64 .i64 (n + 2) (by rw [hy2]; omega) (by unfold maxLen; omega) (Nat.le_refl _)
  exact ⟨w', h1, h2, (Below.refl _ _).grown h3 (Nat.le_refl _) (fun k hk => by cases hk), (h2.lt _ rfl).2⟩
/-- an append with room, at a step of a region that draws its order -/
theorem step_append_spare {P : Program} {w : World} {ops : Array Oper} {o : Oper} {a : Act} {K : Act → World → Prop} {Q : Exit → Act → World → Prop} {E : Prop} (hgd : o.guard = none) (s x : Operand) (t : TypeId)
    (ho : o.op = .call { callee := .builtin .append, args := #[s, x], argTypes := #[t, t] })
    (base : Nat) (e : TypeId) (i : TypeInfo) (size : Nat) (ht : P.underlying t = some (.slice e)) (hi : P.info? e = some i) (hsize : i.size = size)
    (g n cap : Nat) (xs : List Value) (hs : a.eval s = .slice (some ⟨g, 0, none⟩) n cap) (hown : w.ownsRow base e size (.slice (some ⟨g, 0, none⟩) n cap) n xs)
    (ad : Addr) (m c : Nat) (news : List Value) (hx : a.eval x = .slice (some ad) m c) (hl : news.length = m * size) (hnews : ∀ j u, news[j]? = some u → w.cell? (ad.add j) = some u) (h1 : ∀ u ∈ news, u.oneCell' = true)
    (hroom : n + m ≤ cap)
    (h : ∀ w', w'.ownsRow base e size (.slice (some ⟨g, 0, none⟩) (n + m) cap) (n + m) (xs ++ news) → w.grownBy w' (some g) → K (a.put o.dst (.slice (some ⟨g, 0, none⟩) (n + m) cap)) w') :
    if Region.wanted o (yielded ops a.tmps) = true then Oper.wp P o a w K Q else E := by
  have hw : Region.wanted o (yielded ops a.tmps) = true := by simp [Region.wanted, hgd]
  rw [if_pos hw]
  exact wp_append_own_spare w s x t ho base e i size ht hi hsize g n cap xs hs hown ad m c news hx hl hnews h1 hroom h
theorem box_far {W w' : World} {r B : Nat} {o : Obj} (hg : (W.alloc o).grownBy w' (some r)) (hB : B < W.heap.size) (hne : B ≠ r) (i : Nat) : w'.cell? ⟨B, i, none⟩ = W.cell? ⟨B, i, none⟩ := by
  rw [hg.cell_far ⟨B, i, none⟩ (by rw [World.size_alloc]; exact Nat.lt_succ_of_lt hB) (by intro h; exact hne (by simpa using h))]
  exact (below_allocW W o).cell (p := ⟨B, i, none⟩) hB
theorem cut_room (t e : TypeId) (ht : Tryd.prog.underlying t = some (.slice e)) (g n m : Nat) (w : World) (hn : n ≤ 1000000000) (hm : n ≤ m) (i : TypeInfo) (hi : Tryd.prog.info? e = some i) :
    (Instr.slice t (.slice (some ⟨g, 0, none⟩) m m) none (some (.int .i64 (n : Int))) none).run Tryd.prog w = .ok (.slice (some ⟨g, 0, none⟩) n m) w := by
  have h0 : (0 : Int) ≤ (n : Int) := by omega
  have h1 : (n : Int) ≤ (m : Int) := by omega
  simp [Instr.slice, Instr.sliceBounds, run_underlying ht, go_sem, h0, h1, hm, sizeOf, typeInfo, hi]
theorem infoStep : (Tryd.prog.info? 32).map (fun i => (i.zero, i.size, i.bytes)) = some (some stepZero, 6, 80) := by kernel_rfl
theorem mk_step (w : World) (n : Nat) (hn : n ≤ 100000000) :
    ∃ w', (Instr.makeSlice 22 (.int .i64 0) (.int .i64 ((n : Int) + 2))).run Tryd.prog w = .ok (.slice (some ⟨w.heap.size, 0, none⟩) 0 (n + 2)) w' ∧
      w'.ownsRow w.heap.size 32 6 (.slice (some ⟨w.heap.size, 0, none⟩) 0 (n + 2)) 0 [] ∧ Below w.heap.size w w' ∧ w.heap.size < w'.heap.size := by
  obtain ⟨i1, hi1, hy0, hy1, hy2⟩ := info_parts infoStep
  obtain ⟨w', h1, h2, h3⟩ := run_make_own (P := Tryd.prog) w w.heap.size 22 32 i1 _ 6 Tryd.underlying22 hi1 hy0 hy1 .i64 .i64 (n + 2) (by rw [hy2]; omega) (by unfold maxLen; omega) (Nat.le_refl _)
  exact ⟨w', h1, h2, (Below.refl _ _).grown h3 (Nat.le_refl _) (fun k hk => by cases hk), (h2.lt _ rfl).2⟩
theorem own_cells {w : World} {base : Nat} {e : TypeId} {g n cap : Nat} {l : List Value} (h : w.ownsRow base e 1 (.slice (some ⟨g, 0, none⟩) n cap) n l) : CellsAt w g l := by
  intro i x hx
  have hl : i < l.length := (List.getElem?_eq_some_iff.1 hx).1
  rcases h.2 with ⟨h0, _⟩ | ⟨g', cap', cur, hv, _⟩
  · cases h0
  · have := h.cellAt i (by have := h.1; omega)
    cases hv
    rw [this, hx]

set_option maxRecDepth 100000 in
set_option maxHeartbeats 4000000 in
theorem roomy_c (w : World) (v : Value) (xs : List StepM) (hv : StepsOf w v xs) (hlx : xs.length ≤ 10000000) (hln : ∀ s ∈ xs, s.ns.length ≤ 100000000) (hls : ∀ s ∈ xs, s.ss.length ≤ 100000000) :
    Calls Tryd.prog 8 #[v] w fun e w' => ∃ L : List (List Value), e = .returned (.slice (some ⟨w.heap.size, 0, none⟩) xs.length (xs.length + 2)) ∧ L.length = xs.length ∧ (∀ (i : Nat) cs s, L[i]? = some cs → xs[i]? = some s → Roomed w' (w.heap.size + 1) cs s) ∧
      w'.ownsRow w.heap.size 32 6 (.slice (some ⟨w.heap.size, 0, none⟩) (xs.length + 2) (xs.length + 2)) (xs.length + 2) (L.flatten ++ markStep) ∧ Below w.heap.size w w' := by
  obtain ⟨ad, cap, rfl, hlc, hcm, hst⟩ := hv
  unfold maxLen at hcm
  have HST := hid hst; have HLN := hid hln; have HLS := hid hls
  clear hst hln hls
  obtain ⟨i0, hi, hz0, hz1, hz2⟩ := info_parts infoStr
  obtain ⟨i1, hi1, hy0, hy1, hy2⟩ := info_parts infoInt
  go_enter Tryd.func8, Tryd.ntmps8
  go_wp2_with fail
  obtain ⟨w0, hrun, ho0, hB0, hz0'⟩ := mk_step w xs.length (by omega)
  rw [hrun]
  clear hrun
  go_wp2_with fail
  go_loopw [3, 4] (fun v i wr => ∃ k : Nat, k ≤ xs.length ∧ i = .int .i64 k ∧ v = .slice (some ⟨w.heap.size, 0, none⟩) k (xs.length + 2) ∧ ∃ L : List (List Value), L.length = k ∧ (∀ (i : Nat) cs s, L[i]? = some cs → xs[i]? = some s → Roomed wr (w.heap.size + 1) cs s) ∧ wr.ownsRow w.heap.size 32 6 (.slice (some ⟨w.heap.size, 0, none⟩) k (xs.length + 2)) k L.flatten ∧ Below w.heap.size w wr ∧ w.heap.size < wr.heap.size) (fun _ i _ => xs.length - (RowKit.intOf i).toNat)
  case atStart => exact ⟨0, Nat.zero_le _, rfl, rfl, [], rfl, by simp, ho0, hB0, hz0'⟩
  case round =>
    clear ho0 hB0 hz0'
    obtain ⟨k, hk, rfl, rfl, L, hL, hR, ho, hB, hz⟩ := hrel
    obtain ⟨wo, rfl⟩ : ∃ wo : World, wo = wr := ⟨_, rfl⟩
    by_cases hlt : k < xs.length
    · have hne : xs ≠ [] := by intro h; rw [h] at hlt; simp at hlt
      obtain ⟨b, o, rfl, hcell⟩ := HST.out hne
      obtain ⟨s, hs⟩ : ∃ s, xs[k]? = some s := ⟨_, List.getElem?_eq_getElem hlt⟩
      obtain ⟨cs, hcs, hcc⟩ := hcell k s hs
      obtain ⟨⟨nv, sv, rfl, hnv, hsv⟩, hcc⟩ := And.intro (hcs.below hB (Nat.le_refl _)) (fun (j : Nat) x (hx : cs[j]? = some x) => by
        have := hcc j x hx
        exact (hB.cell (p := ⟨b, o + k * 6 + j, none⟩) (World.block_lt_of_cell? w _ this)).trans this)
      have hkn := HLN.out s (List.mem_of_getElem? hs)
      have hks := HLS.out s (List.mem_of_getElem? hs)
      have HS := hid hs
      clear hs
      obtain ⟨K, ns, ss, sw, sc, sm⟩ := s
      obtain ⟨a1, c1, rfl, p1, p2, p3⟩ := hnv
      obtain ⟨a2, c2, rfl, p4, p5, p6⟩ := hsv
      rw [ints_len] at p1 hcc
      rw [strs_len] at p4 hcc
      unfold maxLen at p2 p5
      have q0 := hcc 0 (.int .i64 K) rfl; have q1 := hcc 1 (.slice a1 ns.length c1) rfl; have q2 := hcc 2 (.slice a2 ss.length c2) rfl; have q3 := hcc 3 (.int .i64 sw) rfl; have q4 := hcc 4 (.int .i64 sc) rfl; have q5 := hcc 5 (.int .i64 sm) rfl
      rw [Nat.add_zero] at q0
      have HR := hid hR; have HO := hid ho; have HB := hid hB; have P3 := hid p3; have P6 := hid p6
      clear hcc hcell hcs hR ho hB p3 p6 hne
      have hkn' : ns.length ≤ 100000000 := hkn
      have hks' : ss.length ≤ 100000000 := hks
      clear hkn hks
      go_wp2_with fail
      generalize hW1 : wo.alloc (.cells #[.int .i64 K, .slice a1 ns.length c1, .slice a2 ss.length c2, .int .i64 sw, .int .i64 sc, .int .i64 sm] 32) = W1
      have hbx : ∀ j, W1.cell? ⟨wo.heap.size, j, none⟩ = (#[.int .i64 K, .slice a1 ns.length c1, .slice a2 ss.length c2, .int .i64 sw, .int .i64 sc, .int .i64 sm] : Array Value)[j]? := by
        intro j; rw [← hW1]; exact World.cell?_alloc_at _ _ _ _ rfl
      have hbW : Below wo.heap.size wo W1 := hW1 ▸ below_allocW _ _
      have hzW : W1.heap.size = wo.heap.size + 1 := by rw [← hW1]; simp
      have HBX := hid hbx; have HBW := hid hbW; have HZW := hid hzW
      clear hW1 hbx hbW hzW q0 q1 q2 q3 q4 q5
      obtain ⟨w2, hrun, ho2, hb2, hz2'⟩ := mk_int W1 ns.length hkn'
      rw [hrun]
      clear hrun
      go_wp2_with fail
      go_loopw [6, 7] (fun v i wr => ∃ j : Nat, j ≤ ns.length ∧ i = .int .i64 j ∧ v = .slice (some ⟨W1.heap.size, 0, none⟩) j (ns.length + 2) ∧ wr.ownsRow W1.heap.size 3 1 (.slice (some ⟨W1.heap.size, 0, none⟩) j (ns.length + 2)) j (ints (ns.take j)) ∧ Below W1.heap.size W1 wr ∧ W1.heap.size < wr.heap.size) (fun _ i _ => ns.length - (RowKit.intOf i).toNat)
      case atStart => exact ⟨0, Nat.zero_le _, rfl, rfl, ho2, hb2, hz2'⟩
      case round =>
        clear ho2 hb2 hz2'
        obtain ⟨j, hj, rfl, rfl, hoc, hbc, hzc⟩ := hrel
        have hbox : ∀ i, wr.cell? ⟨wo.heap.size, i, none⟩ = (#[.int .i64 K, .slice a1 ns.length c1, .slice a2 ss.length c2, .int .i64 sw, .int .i64 sc, .int .i64 sm] : Array Value)[i]? := fun i => (hbc.cell (p := ⟨wo.heap.size, i, none⟩) (by show wo.heap.size < _; have := HZW.out; omega)).trans (HBX.out i)
        have z1 := hbox 1
        simp at z1
        clear hbox
        by_cases hjl : j < ns.length
        · obtain ⟨bn, on, rfl, hcn⟩ := P3.out (by intro h; have := ints_len ns; rw [h] at this; simp at this; omega)
          have hx := hcn j _ (ints_get _ _ hjl)
          have hbl := World.block_lt_of_cell? wo _ hx
          have hx' := (hbc.cell (p := ⟨bn, on + j, none⟩) (by have := HZW.out; simp at hbl ⊢; omega)).trans ((HBW.out.cell (p := ⟨bn, on + j, none⟩) hbl).trans hx)
          obtain ⟨x, hx0⟩ : ∃ x, x = ns.getD j 0 := ⟨_, rfl⟩
          rw [← hx0] at hx'
          have HX := hid hx0
          clear hcn hx hx0 hbl
          go_wp2_with (at_builtin; refine wpList_append_own_spare _ rfl _ _ 27 rfl W1.heap.size 3 i1 1 Tryd.underlying27 hi1 hy1 W1.heap.size j (ns.length + 2) _ rfl (hoc.alloc _) ⟨wr.heap.size, 0, none⟩ 1 1 [.int .i64 x] rfl rfl (one_new _ _ _) (by intro u hu; simp at hu; subst hu; rfl) (by omega) ?_)
          intro w3 ho3 hg3
          have hz3 := hg3.size
          rw [World.size_alloc] at hz3
          have HB3 := hid ((hbc.alloc (by omega) (.cells #[.int .i64 x] 3)).grown hg3 (by rw [World.size_alloc]; omega) (fun k hk => by cases hk; exact Nat.le_refl _))
          have HO3 := hid ho3
          clear ho3 hg3 hbc hoc
          go_wp2_with fail
          refine ⟨⟨j + 1, by omega, by go_num, rfl, ?_, HB3.out, by omega⟩, by simp [RowKit.intOf]; omega⟩
          have := HO3.out
          rw [HX.out, ints_take _ _ hjl] at this
          exact this
        · have ej : j = ns.length := by omega
          subst ej
          rw [List.take_length] at hoc
          go_wp2_with (at_builtin; refine wpList_append_own_spare _ rfl _ _ 27 rfl W1.heap.size 3 i1 1 Tryd.underlying27 hi1 hy1 W1.heap.size ns.length (ns.length + 2) _ rfl (hoc.alloc _) ⟨wr.heap.size, 0, none⟩ 2 2 markN rfl rfl (new_cells _ markN _) (by decide) (by omega) ?_)
          intro w3 ho3 hg3
          have hz3 := hg3.size
          rw [World.size_alloc] at hz3
          have HB3 := hid ((hbc.alloc (by omega) (.cells markN.toArray 3)).grown hg3 (by rw [World.size_alloc]; omega) (fun k hk => by cases hk; exact Nat.le_refl _))
          have HC3 := hid (own_cells ho3)
          have hz3' : W1.heap.size < w3.heap.size := by omega
          clear ho3 hg3 hbc hoc hjl hj hz3 hzc
          have HBX3 : Hid (∀ i, w3.cell? ⟨wo.heap.size, i, none⟩ = (#[.int .i64 K, .slice a1 ns.length c1, .slice a2 ss.length c2, .int .i64 sw, .int .i64 sc, .int .i64 sm] : Array Value)[i]?) := hid (fun i => (HB3.out.cell (p := ⟨wo.heap.size, i, none⟩) (by show wo.heap.size < _; have := HZW.out; omega)).trans (HBX.out i))
          have z2 := HBX3.out 2
          simp at z2
          clear z1
          obtain ⟨w4, hrun, ho4, hb4, hz4⟩ := mk_str w3 ss.length hks'
          go_wp2_with fail
          clear hrun z2
          go_loopw [8, 9] (fun v i wr => ∃ j : Nat, j ≤ ss.length ∧ i = .int .i64 j ∧ v = .slice (some ⟨w3.heap.size, 0, none⟩) j (ss.length + 2) ∧ wr.ownsRow w3.heap.size 9 1 (.slice (some ⟨w3.heap.size, 0, none⟩) j (ss.length + 2)) j (strs (ss.take j)) ∧ Below w3.heap.size w3 wr ∧ w3.heap.size < wr.heap.size) (fun _ i _ => ss.length - (RowKit.intOf i).toNat)
          case atStart => exact ⟨0, Nat.zero_le _, rfl, rfl, ho4, hb4, hz4⟩
          case round =>
            clear ho4 hb4 hz4
            obtain ⟨j, hj, rfl, rfl, hoc, hbc, hzc⟩ := hrel
            obtain ⟨wq, rfl⟩ : ∃ wq : World, wq = wr := ⟨_, rfl⟩
            have hbox : ∀ i, wq.cell? ⟨wo.heap.size, i, none⟩ = (#[.int .i64 K, .slice a1 ns.length c1, .slice a2 ss.length c2, .int .i64 sw, .int .i64 sc, .int .i64 sm] : Array Value)[i]? := fun i => (hbc.cell (p := ⟨wo.heap.size, i, none⟩) (by show wo.heap.size < _; have := HZW.out; omega)).trans (HBX3.out i)
            have z2 := hbox 2
            simp at z2
            clear hbox
            by_cases hjl : j < ss.length
            · obtain ⟨bn, on, rfl, hcn⟩ := P6.out (by intro h; have := strs_len ss; rw [h] at this; simp at this; omega)
              have hx := hcn j _ (strs_get _ _ hjl)
              have hbl := World.block_lt_of_cell? wo _ hx
              have hx' := (hbc.cell (p := ⟨bn, on + j, none⟩) (by have := HZW.out; simp at hbl ⊢; omega)).trans ((HB3.out.cell (p := ⟨bn, on + j, none⟩) (by have := HZW.out; simp at hbl ⊢; omega)).trans ((HBW.out.cell (p := ⟨bn, on + j, none⟩) hbl).trans hx))
              obtain ⟨x, hx0⟩ : ∃ x, x = ss.getD j ByteArray.empty := ⟨_, rfl⟩
              rw [← hx0] at hx'
              have HX := hid hx0
              clear hcn hx hx0 hbl
              go_wp2_with (at_builtin; refine wpList_append_own_spare _ rfl _ _ 28 rfl w3.heap.size 9 i0 1 Tryd.underlying28 hi hz1 w3.heap.size j (ss.length + 2) _ rfl (hoc.alloc _) ⟨wq.heap.size, 0, none⟩ 1 1 [.string x] rfl rfl (one_new _ _ _) (by intro u hu; simp at hu; subst hu; rfl) (by omega) ?_)
              intro w5 ho3 hg3
              have hz5 := hg3.size
              rw [World.size_alloc] at hz5
              have HB5 := hid ((hbc.alloc (by omega) (.cells #[.string x] 9)).grown hg3 (by rw [World.size_alloc]; omega) (fun k hk => by cases hk; exact Nat.le_refl _))
              have HO5 := hid ho3
              clear ho3 hg3 hbc hoc
              go_wp2_with fail
              refine ⟨⟨j + 1, by omega, by go_num, rfl, ?_, HB5.out, by omega⟩, by simp [RowKit.intOf]; omega⟩
              have := HO5.out
              rw [HX.out, strs_take _ _ hjl] at this
              exact this
            · have ej : j = ss.length := by omega
              subst ej
              rw [List.take_length] at hoc
              go_wp2_with (at_builtin; refine wpList_append_own_spare _ rfl _ _ 28 rfl w3.heap.size 9 i0 1 Tryd.underlying28 hi hz1 w3.heap.size ss.length (ss.length + 2) _ rfl (hoc.alloc _) ⟨wq.heap.size, 0, none⟩ 2 2 markS rfl rfl (new_cells _ markS _) (by decide) (by omega) ?_)
              intro w5 ho3 hg3
              have hz5 := hg3.size
              rw [World.size_alloc] at hz5
              have HB5 := hid ((hbc.alloc (by omega) (.cells markS.toArray 9)).grown hg3 (by rw [World.size_alloc]; omega) (fun k hk => by cases hk; exact Nat.le_refl _))
              have HC5 := hid (own_cells ho3)
              have hz5' : w3.heap.size < w5.heap.size := by omega
              clear ho3 hg3 hbc hoc hjl hj hz5 hzc z2
              have hbox : ∀ i, w5.cell? ⟨wo.heap.size, i, none⟩ = (#[.int .i64 K, .slice a1 ns.length c1, .slice a2 ss.length c2, .int .i64 sw, .int .i64 sc, .int .i64 sm] : Array Value)[i]? := fun i => (HB5.out.cell (p := ⟨wo.heap.size, i, none⟩) (by show wo.heap.size < _; have := HZW.out; omega)).trans (HBX3.out i)
              have y0 := hbox 0; have y1 := hbox 1; have y2 := hbox 2; have y3 := hbox 3; have y4 := hbox 4; have y5 := hbox 5
              simp at y0 y1 y2 y3 y4 y5
              clear hbox
              go_wp2_with fail
              have sl1 : ∀ w, (Instr.slice 27 (.slice (some ⟨W1.heap.size, 0, none⟩) (ns.length + 2) (ns.length + 2)) none (some (.int .i64 (ns.length : Int))) none).run Tryd.prog w = .ok (.slice (some ⟨W1.heap.size, 0, none⟩) ns.length (ns.length + 2)) w := fun w => cut_room _ _ Tryd.underlying27 _ _ _ w (by omega) (by omega) i1 hi1
              have sl2 : ∀ w, (Instr.slice 28 (.slice (some ⟨w3.heap.size, 0, none⟩) (ss.length + 2) (ss.length + 2)) none (some (.int .i64 (ss.length : Int))) none).run Tryd.prog w = .ok (.slice (some ⟨w3.heap.size, 0, none⟩) ss.length (ss.length + 2)) w := fun w => cut_room _ _ Tryd.underlying28 _ _ _ w (by omega) (by omega) i0 hi
              obtain ⟨i2, hi2, hx0, hx1, hx2⟩ := info_parts infoStep
              have hall : Below wo.heap.size wo w5 := HBW.out.trans ((HB3.out.mono (by have := HZW.out; omega)).trans (HB5.out.mono (by have := HZW.out; omega)))
              have ho5 : w5.ownsRow w.heap.size 32 6 (.slice (some ⟨w.heap.size, 0, none⟩) k (xs.length + 2)) k L.flatten := ownsRow_below HO.out hall
              have HALL := hid hall
              have hwo5 : wo.heap.size < w5.heap.size := by have := HZW.out; omega
              have hneB : wo.heap.size ≠ w.heap.size := by omega
              clear hall
              have ho5d : w5.drew.ownsRow w.heap.size 32 6 (.slice (some ⟨w.heap.size, 0, none⟩) k (xs.length + 2)) k L.flatten := ho5
              have hy : ∀ i x, w5.cell? ⟨wo.heap.size, i, none⟩ = some x → (w5.alloc (.cells #[.int .i64 K, .slice (some ⟨W1.heap.size, 0, none⟩) ns.length (ns.length + 2), .slice (some ⟨w3.heap.size, 0, none⟩) ss.length (ss.length + 2), .int .i64 sw, .int .i64 sc, .int .i64 sm] 32)).cell? ⟨wo.heap.size, i, none⟩ = some x := fun i x h => ((below_allocW w5 _).cell (p := ⟨wo.heap.size, i, none⟩) hwo5).trans h
              have hlt6 : wo.heap.size < (w5.alloc (.cells #[.int .i64 K, .slice (some ⟨W1.heap.size, 0, none⟩) ns.length (ns.length + 2), .slice (some ⟨w3.heap.size, 0, none⟩) ss.length (ss.length + 2), .int .i64 sw, .int .i64 sc, .int .i64 sm] 32)).heap.size := by rw [World.size_alloc]; omega
              have hne6 : some wo.heap.size ≠ some w.heap.size := by intro h; exact hneB (by simpa using h)
              have hone : ∀ u ∈ ([.int .i64 K, .slice (some ⟨W1.heap.size, 0, none⟩) ns.length (ns.length + 2), .slice (some ⟨w3.heap.size, 0, none⟩) ss.length (ss.length + 2), .int .i64 sw, .int .i64 sc, .int .i64 sm] : List Value), u.oneCell' = true := by intro u hu; simp at hu; rcases hu with rfl | rfl | rfl | rfl | rfl | rfl <;> rfl
              go_region_held3 (fun w' => w'.cell? ⟨wo.heap.size, 0, none⟩ = some (.int .i64 K) ∧ w'.cell? ⟨wo.heap.size, 1, none⟩ = some (.slice a1 ns.length c1) ∧ w'.cell? ⟨wo.heap.size, 2, none⟩ = some (.slice a2 ss.length c2) ∧ w'.cell? ⟨wo.heap.size, 3, none⟩ = some (.int .i64 sw) ∧ w'.cell? ⟨wo.heap.size, 4, none⟩ = some (.int .i64 sc) ∧ w'.cell? ⟨wo.heap.size, 5, none⟩ = some (.int .i64 sm))
                (first | exact ⟨y0, y1, y2, y3, y4, y5⟩ | exact ⟨v0, v1, v2, v3, v4, v5⟩ | go_keep)
                (((first | (refine step_append_spare (by rfl) _ _ _ (by rfl) w.heap.size 32 i2 6 Tryd.underlying22 hi2 hx1 w.heap.size k (xs.length + 2) _ (by rfl) ((ho5.alloc _).drew) ⟨w5.heap.size, 0, none⟩ 1 1 [.int .i64 K, .slice (some ⟨W1.heap.size, 0, none⟩) ns.length (ns.length + 2), .slice (some ⟨w3.heap.size, 0, none⟩) ss.length (ss.length + 2), .int .i64 sw, .int .i64 sc, .int .i64 sm] (by rfl) (by rfl) (World.news_of_block (cs := #[.int .i64 K, .slice (some ⟨W1.heap.size, 0, none⟩) ns.length (ns.length + 2), .slice (some ⟨w3.heap.size, 0, none⟩) ss.length (ss.length + 2), .int .i64 sw, .int .i64 sc, .int .i64 sm]) (t := 32) (fr := (0, 0)) (heap_alloc_new w5 _)) hone (by omega) ?_) | (refine step_append_spare (by rfl) _ _ _ (by rfl) w.heap.size 32 i2 6 Tryd.underlying22 hi2 hx1 w.heap.size k (xs.length + 2) _ (by rfl) (ho5.alloc _) ⟨w5.heap.size, 0, none⟩ 1 1 [.int .i64 K, .slice (some ⟨W1.heap.size, 0, none⟩) ns.length (ns.length + 2), .slice (some ⟨w3.heap.size, 0, none⟩) ss.length (ss.length + 2), .int .i64 sw, .int .i64 sc, .int .i64 sm] (by rfl) (by rfl) (World.news_of_block (cs := #[.int .i64 K, .slice (some ⟨W1.heap.size, 0, none⟩) ns.length (ns.length + 2), .slice (some ⟨w3.heap.size, 0, none⟩) ss.length (ss.length + 2), .int .i64 sw, .int .i64 sc, .int .i64 sm]) (t := 32) (fr := (0, 0)) (heap_alloc_new w5 _)) hone (by omega) ?_) | (refine step_append_spare (by rfl) _ _ _ (by rfl) w.heap.size 32 i2 6 Tryd.underlying22 hi2 hx1 w.heap.size k (xs.length + 2) _ (by rfl) (ho5d.alloc _) ⟨w5.heap.size, 0, none⟩ 1 1 [.int .i64 K, .slice (some ⟨W1.heap.size, 0, none⟩) ns.length (ns.length + 2), .slice (some ⟨w3.heap.size, 0, none⟩) ss.length (ss.length + 2), .int .i64 sw, .int .i64 sc, .int .i64 sm] (by rfl) (by rfl) (World.news_of_block (cs := #[.int .i64 K, .slice (some ⟨W1.heap.size, 0, none⟩) ns.length (ns.length + 2), .slice (some ⟨w3.heap.size, 0, none⟩) ss.length (ss.length + 2), .int .i64 sw, .int .i64 sc, .int .i64 sm]) (t := 32) (fr := (0, 0)) (heap_alloc_new w5.drew _)) hone (by omega) ?_)); intro w6 ho6 hg6; have v0 := (hg6.cell_far ⟨wo.heap.size, 0, none⟩ hlt6 hne6).trans (hy 0 _ y0); have v1 := (hg6.cell_far ⟨wo.heap.size, 1, none⟩ hlt6 hne6).trans (hy 1 _ y1); have v2 := (hg6.cell_far ⟨wo.heap.size, 2, none⟩ hlt6 hne6).trans (hy 2 _ y2); have v3 := (hg6.cell_far ⟨wo.heap.size, 3, none⟩ hlt6 hne6).trans (hy 3 _ y3); have v4 := (hg6.cell_far ⟨wo.heap.size, 4, none⟩ hlt6 hne6).trans (hy 4 _ y4); have v5 := (hg6.cell_far ⟨wo.heap.size, 5, none⟩ hlt6 hne6).trans (hy 5 _ y5)))
              have hg6' : (w5.alloc (.cells #[.int .i64 K, .slice (some ⟨W1.heap.size, 0, none⟩) ns.length (ns.length + 2), .slice (some ⟨w3.heap.size, 0, none⟩) ss.length (ss.length + 2), .int .i64 sw, .int .i64 sc, .int .i64 sm] 32)).grownBy w6 (some w.heap.size) := ⟨hg6.1, hg6.2, hg6.3, hg6.4, hg6.5⟩
              have hz6 := hg6'.size
              rw [World.size_alloc] at hz6
              have r5 : Roomed w5 (w.heap.size + 1) [.int .i64 K, .slice (some ⟨W1.heap.size, 0, none⟩) ns.length (ns.length + 2), .slice (some ⟨w3.heap.size, 0, none⟩) ss.length (ss.length + 2), .int .i64 sw, .int .i64 sc, .int .i64 sm] ⟨K, ns, ss, sw, sc, sm⟩ := ⟨W1.heap.size, w3.heap.size, by have := HZW.out; omega, by have := HZW.out; omega, by omega, by omega, rfl, HC3.out.below HB5.out hz3', HC5.out⟩
              have hR6 : ∀ (i : Nat) cs s, (L ++ [[.int .i64 K, .slice (some ⟨W1.heap.size, 0, none⟩) ns.length (ns.length + 2), .slice (some ⟨w3.heap.size, 0, none⟩) ss.length (ss.length + 2), .int .i64 sw, .int .i64 sc, .int .i64 sm]])[i]? = some cs → xs[i]? = some s → Roomed w6 (w.heap.size + 1) cs s := by
                intro i cs s h1 h2
                rcases Nat.lt_or_ge i L.length with h | h
                · rw [List.getElem?_append_left h] at h1
                  exact (((HR.out i cs s h1 h2).below HALL.out).below (below_allocW w5 _)).grown hg6' hg6'.size
                · rw [List.getElem?_append_right h] at h1
                  have hi0 : i - L.length = 0 := by
                    have := (List.getElem?_eq_some_iff.1 h1).1
                    simp only [List.length_cons, List.length_nil] at this
                    omega
                  have hik : i = k := by omega
                  rw [hi0] at h1
                  subst hik
                  rw [HS.out] at h2
                  simp only [List.getElem?_cons_zero, Option.some.injEq] at h1 h2
                  subst h1; subst h2
                  exact (r5.below (below_allocW w5 _)).grown hg6' hg6'.size
              have HR6 := hid hR6
              have HB6 := hid (((HB.out.trans (HALL.out.mono (by omega))).alloc (by omega) (.cells #[.int .i64 K, .slice (some ⟨W1.heap.size, 0, none⟩) ns.length (ns.length + 2), .slice (some ⟨w3.heap.size, 0, none⟩) ss.length (ss.length + 2), .int .i64 sw, .int .i64 sc, .int .i64 sm] 32)).grown hg6' (by rw [World.size_alloc]; omega) (fun k hk => by cases hk; exact Nat.le_refl _))
              have HO6 := hid ho6
              have hz6' : w.heap.size < w6.heap.size := by omega
              clear hR6 r5 hg6' hg6 ho6 hy hlt6 hne6 hone ho5 ho5d sl1 sl2 y0 y1 y2 y3 y4 y5 v0 v1 v2 v3 v4 v5
              go_wp2_with fail
              exact ⟨⟨k + 1, by omega, by go_num, rfl, L ++ [[.int .i64 K, .slice (some ⟨W1.heap.size, 0, none⟩) ns.length (ns.length + 2), .slice (some ⟨w3.heap.size, 0, none⟩) ss.length (ss.length + 2), .int .i64 sw, .int .i64 sc, .int .i64 sm]], by simp [hL], HR6.out, by have := HO6.out; rw [List.flatten_append]; simpa using this, HB6.out, hz6'⟩, by simp [RowKit.intOf]; omega⟩
    · have hek : k = xs.length := by omega
      subst hek
      obtain ⟨i2, hi2, hx0, hx1, hx2⟩ := info_parts infoStep
      have HR := hid hR; have HB := hid hB
      clear hR hB hlt HST
      go_wp2_with (at_builtin; refine wpList_append_own_spare _ rfl _ _ 22 rfl w.heap.size 32 i2 6 Tryd.underlying22 hi2 hx1 w.heap.size xs.length (xs.length + 2) _ rfl (ho.alloc _) ⟨wo.heap.size, 0, none⟩ 2 2 markStep rfl rfl (new_cells _ markStep _) (by decide) (by omega) ?_)
      intro w1 ho1 hg1
      have hz1 := hg1.size
      rw [World.size_alloc] at hz1
      have HR1 := hid (fun i cs s h1 h2 => ((HR.out i cs s h1 h2).below (below_allocW wo _)).grown hg1 hg1.size)
      have HB1 := hid ((HB.out.alloc (by omega) _).grown hg1 (by rw [World.size_alloc]; omega) (fun k hk => by cases hk; exact Nat.le_refl _))
      have HO1 := hid ho1
      clear ho1 hg1 HR HB
      go_wp2_with fail
      go_ret
      exact ⟨L, rfl, hL, HR1.out, HO1.out, HB1.out⟩
end Go.Proofs.YtijlfggficjamaaDoor
