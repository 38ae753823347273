/- slices.SortFunc of groups by their heads. -/
import Derived.Test.YtgohdcegplbkjaaGuSort
import Derived.Test.YtgohdcegplbkjaaSf
namespace Go.Proofs.Ytgohdcegplbkjaa
set_option linter.unusedVariables false
set_option linter.unusedSimpArgs false
open Go Go.RowKit Go.Sort
open Go.Lib (hid)

theorem holds_vals {w : World} {g : Nat} {cur : Array Value} {e : TypeId} {ss : List Value} (hb : w.heap[g]? = some (.cells cur e (0, 0))) (ht : cur.toList.take ss.length = ss) : Holds id w g 0 ss.toArray := by
  intro j hj
  have hj' : j < ss.length := by simpa using hj
  refine ⟨?_, by simp [World.frozen?, hb]⟩
  have h1 : (cur.toList.take ss.length)[j]? = ss[j]? := by rw [ht]
  rw [List.getElem?_take_of_lt hj'] at h1
  simp only [World.cell?, hb, Nat.zero_add]
  simp only [Option.isSome_none, Bool.false_eq_true, if_false]
  rw [← Array.getElem?_toList, h1]
  simp [hj']
theorem heap_vals {w : World} {g n : Nat} {os : Array Obj} {cur : Array Value} {e : TypeId} {fr : Nat × Nat} (d : Array Value) (hb : w.heap[g]? = some (.cells cur e fr)) :
    (grow (putRow id (Sort.ahead w n) g 0 d) os).heap[g]? = some (.cells (putCells id 0 d cur) e fr) := by
  have hg : g < w.heap.size := (Array.getElem?_eq_some_iff.1 hb).1
  rw [heap_grow_old _ _ (by simpa using hg)]
  simp [putRow, mapBlock, Sort.ahead, Array.getElem?_modify, hb, onCells]
theorem grownBy_vals {w : World} {g n : Nat} {os : Array Obj} (d : Array Value) : w.grownBy (grow (putRow id (Sort.ahead w n) g 0 d) os) (some g) := by
  refine ⟨rfl, rfl, rfl, by simp, fun k hk hne => ?_⟩
  rw [heap_grow_old _ _ (by simpa using hk)]
  have : g ≠ k := fun e => hne (by rw [e])
  simp [putRow, mapBlock, Sort.ahead, Array.getElem?_modify, this]
theorem take_vals (cur : Array Value) (ts : List Value) (h : ts.length ≤ cur.size) : (putCells id 0 ts.toArray cur).toList.take ts.length = ts := by
  apply List.ext_getElem?
  intro j
  by_cases hj : j < ts.length
  · rw [List.getElem?_take_of_lt hj, Array.getElem?_toList]
    simp [putCells, hj, show j < cur.size by omega]
  · rw [List.getElem?_take_eq_none (by omega), List.getElem?_eq_none (by omega)]
theorem flat1 {α : Type} [Inhabited α] (f : α → Value) (d : Array α) : flatK (fun x => [f x]) 1 d = d.map f := by
  apply Array.ext
  · simp
  · intro i h1 h2
    simp at h1
    simp [flatK, Nat.mod_one, getElem!_pos d i h1]

set_option maxHeartbeats 1000000 in
theorem headLess_c (W : World) (bx bz nx cx nz cz : Nat) (x z : Int) (hnx : 0 < nx) (hnz : 0 < nz) (hx : W.cell? ⟨bx, 0, none⟩ = some (.int .i64 x)) (hz : W.cell? ⟨bz, 0, none⟩ = some (.int .i64 z)) :
    Calls Try.prog 19 #[.agg #[.slice (some ⟨bx, 0, none⟩) nx cx], .agg #[.slice (some ⟨bz, 0, none⟩) nz cz]] W fun e w' => e = .returned (.int .i64 (Lib.compareInt x z)) ∧ ∃ q os', w' = grow (W.drewN q) os' := by
  have hcon := fun W' => Try.cmp_Compare_int x z W'
  generalize Lib.compareInt x z = r at hcon ⊢
  have hX : bx < W.heap.size := World.block_lt_of_cell? W _ hx
  have hZ : bz < W.heap.size := World.block_lt_of_cell? W _ hz
  go_enter Try.func19, Try.ntmps19
  go_wp2_with (go_at_call 20; refine (hcon _).mono ?_; rintro e w' ⟨rfl, rfl⟩)
  go_quiet ((go_at_call 20; exact Calls.quiet_of_same (hcon _)))
  go_wp2_with fail
  go_ret
  exact ⟨rfl, nq, _, by rw [alloc_eq_grow, alloc_eq_grow, grow_grow]; rfl⟩

def hd (r : Row) : Int := r.g.headD 0
theorem cmp_lt (x y : Int) : decide (Lib.compareInt x y < 0) = decide (x < y) := by
  unfold Lib.compareInt
  by_cases h1 : x < y
  · simp [h1]
  · by_cases h2 : y < x <;> simp [h1, h2]
/-- a row that is not empty: its block, its head -/
theorem Row.head {W0 W : World} {r : Row} {M : Frag} (hr : r.ok 3) (hne : r.g ≠ []) (hS : St W0 W M) (hm : r.F.Sublist M) :
    ∃ b n cap, r.v = .slice (some ⟨b, 0, none⟩) n cap ∧ 0 < n ∧ W.cell? ⟨b, 0, none⟩ = some (.int .i64 (hd r)) ∧ b < W.heap.size ∧ ∃ o, (b, o) ∈ M := by
  obtain ⟨h1, h2⟩ := hr
  have hp : 0 < r.g.length := List.length_pos_iff.2 hne
  rcases h2 with ⟨_, h0, _⟩ | ⟨g, cap, cur, hv, hF, h3, h4, h5, h6⟩
  · omega
  · rw [hF] at hm
    have hmem : (g, Obj.cells cur 3 (0, 0)) ∈ M := hm.subset List.mem_cons_self
    refine ⟨g, _, cap, hv, hp, ?_, hS.lt hmem, _, hmem⟩
    rw [hS.cell hmem 0]
    have h7 := congrArg (fun l => l[0]?) h6
    rw [Nat.mul_one, List.getElem?_take_of_lt hp, Array.getElem?_toList] at h7
    rw [h7]
    cases hg : r.g with
    | nil => exact absurd hg hne
    | cons a q => simp [ints, hd, hg]
theorem frag_sub {D : List Row} {r : Row} (h : r ∈ D) : r.F.Sublist (frags D) := by
  obtain ⟨A, B, rfl⟩ := List.append_of_mem h
  rw [frags_app, frags_cons]
  exact (List.sublist_append_left _ _).trans (List.sublist_append_right _ _)

def SortPost (W0 : World) (M : Frag) (v : Value) (D : List Row) (e : Ending) (w' : World) : Prop :=
  e = .returned (.tuple #[]) ∧ ∃ D' F', D'.Perm D ∧ D'.Pairwise (fun a b => hd a < hd b) ∧ Rw 50 1 v D'.length (vals D') F' ∧ St W0 w' ((F' ++ frags D') ++ M)

set_option maxHeartbeats 1000000 in
theorem sortF_c (W0 w : World) (M : Frag) (v : Value) (D : List Row) (F0 : Frag) (hR : Rw 50 1 v D.length (vals D) F0) (hD : ∀ r ∈ D, r.ok 3) (hne : ∀ r ∈ D, r.g ≠ []) (hinj : (D.map hd).Nodup) (hS : St W0 w ((F0 ++ frags D) ++ M)) (hn : D.length ≤ 100000000) :
    Calls Try.prog 18 #[v, .func (.func 19) #[] #[]] w (SortPost W0 M v D) := by
  rcases Nat.eq_zero_or_pos D.length with h0 | hp
  · have hD0 : D = [] := List.length_eq_zero_iff.1 h0
    subst hD0
    obtain ⟨ad, cap, rfl, _⟩ := hR.form
    refine (AnyF.slices_SortFunc_none Try.laysSF ad cap (.func (.func 19) #[] #[]) w).mono ?_
    rintro e w' ⟨rfl, rfl⟩
    exact ⟨rfl, [], F0, List.Perm.refl _, List.Pairwise.nil, hR, hS⟩
  · obtain ⟨hl, h2⟩ := hR
    rcases h2 with ⟨_, h0, _⟩ | ⟨g, cap, cur, rfl, rfl, h3, h4, h5, h6⟩
    · omega
    · have hS' : St W0 w ((g, .cells cur 50 (0, 0)) :: (frags D ++ M)) := by simpa using hS
      have hb := hS'.get
      rw [Nat.mul_one] at h5 h6
      let α := { r : Row // r ∈ D }
      have hmem0 : D[0]'hp ∈ D := List.getElem_mem _
      haveI : Inhabited α := ⟨⟨D[0]'hp, hmem0⟩⟩
      let d : Array α := D.attach.toArray
      have hdz : d.size = D.length := by show D.attach.toArray.size = _; simp
      let enc : α → List Value := fun x => [x.1.v]
      let cf : α → α → Int := fun x y => Lib.compareInt (hd x.1) (hd y.1)
      have hflat : flatK enc 1 d = (vals D).toArray := by
        rw [show enc = fun x : α => [x.1.v] from rfl, flat1]
        apply Array.ext'
        show (D.attach.toArray.map fun x => x.1.v).toList = _
        have e : D.attach.map (fun x => x.1.v) = (D.attach.map Subtype.val).map (·.v) := by rw [List.map_map]; rfl
        rw [Array.toList_map]
        show D.attach.map (fun x => x.1.v) = D.map (·.v)
        rw [e, List.attach_map_subtype_val]
      have hH : HoldsK enc 1 w g 0 d := by
        unfold HoldsK
        rw [hflat]
        exact holds_vals hb (by simpa [vals] using h6)
      have hO : SWO (ltOf cf) := by
        refine ⟨fun x => ?_, fun x y z h1 h2 => ?_, fun x y z h1 h2 => ?_⟩ <;> simp only [ltOf, cf, cmp_lt, decide_eq_true_eq, decide_eq_false_iff_not] at * <;> omega
      have hcmp : CmpLays Try.prog 19 #[] enc 1 cf g 0 d.size w := by
        intro m os dk hs x y
        obtain ⟨bx, nx, cx, ex, px, hx, lx, ox, mx⟩ := Row.head (hD _ x.2) (hne _ x.2) hS'.tail ((frag_sub x.2).trans (List.sublist_append_left _ _))
        obtain ⟨bz, nz, cz, ez, pz, hz, lz, oz, mz⟩ := Row.head (hD _ y.2) (hne _ y.2) hS'.tail ((frag_sub y.2).trans (List.sublist_append_left _ _))
        show Calls Try.prog _ #[.agg #[x.1.v], .agg #[y.1.v]] _ _
        rw [ex, ez]
        exact headLess_c _ bx bz nx cx nz cz (hd x.1) (hd y.1) px pz ((cell?_sortWorldK_other enc 1 w g 0 m dk os ⟨bx, 0, none⟩ (hS'.ne mx) lx).trans hx) ((cell?_sortWorldK_other enc 1 w g 0 m dk os ⟨bz, 0, none⟩ (hS'.ne mz) lz).trans hz)
      have eg : ∀ args w, (callFunc 19 args).run Try.prog w = .ok (.enter 19 args) w := enters_of Try.func19 (by kernel_rfl) rfl
      have hcon := AnyQ.slices_SortFunc Try.laysSF 1 Try.isAgg50 Try.sizeOf50 enc (fun _ => rfl) (fun x u hu => by obtain ⟨ad, cp, ev, _⟩ := Rw.form (hD _ x.2); have hu' : u = x.1.v := List.mem_singleton.1 hu; rw [hu', ev]; rfl) cf hO 19 #[] g 0 cap d w eg hcmp hH hS'.hlt (by rw [hdz]; omega)
      rw [hdz] at hcon
      refine hcon.mono ?_
      rintro e w' ⟨rfl, d', n, os, ⟨p1, p2, p3⟩, hs, rfl⟩
      have hdd : d.extract 0 D.length = d := by rw [← hdz]; simp
      have hdd' : d'.extract 0 D.length = d' := by rw [← hdz, ← p1]; simp
      rw [hdd, hdd'] at p3
      have hp1 : (d'.toList.map Subtype.val).Perm D := by
        have h1 := p3.map Subtype.val
        have h2 : d.toList.map Subtype.val = D := List.attach_map_subtype_val D
        rwa [h2] at h1
      have hlen : d'.toList.length = D.length := by rw [← hp1.length_eq]; simp
      have hflat' : flatK enc 1 d' = (vals (d'.toList.map Subtype.val)).toArray := by
        rw [show enc = fun x : α => [x.1.v] from rfl, flat1]
        apply Array.ext'
        rw [Array.toList_map]
        show d'.toList.map (fun x => x.1.v) = (d'.toList.map Subtype.val).map (·.v)
        rw [List.map_map]; rfl
      refine ⟨rfl, d'.toList.map Subtype.val, [(g, .cells (putCells id 0 (vals (d'.toList.map Subtype.val)).toArray cur) 50 (0, 0))], hp1, ?_, ?_, ?_⟩
      · have hnd : ((d'.toList.map Subtype.val).map hd).Nodup := (hp1.map hd).nodup_iff.2 hinj
        rw [List.pairwise_iff_getElem]
        intro i j hi hj hij
        have hi' : i < d'.size := by simpa using hi
        have hj' : j < d'.size := by simpa using hj
        have h1 := hs i j (Nat.zero_le _) hij (by rw [← hlen]; simpa using hj')
        rw [getElem!_pos d' i hi', getElem!_pos d' j hj'] at h1
        simp only [ltOf, cf, cmp_lt, decide_eq_false_iff_not] at h1
        have h2 : hd ((d'.toList.map Subtype.val)[i]) ≠ hd ((d'.toList.map Subtype.val)[j]) := by
          have h3 := (List.pairwise_iff_getElem.1 hnd) i j (by simpa using hi') (by simpa using hj') hij
          simpa using h3
        simp only [List.getElem_map, Array.getElem_toList] at h2 ⊢
        omega
      · have e1 : (d'.toList.map Subtype.val).length = D.length := hp1.length_eq
        refine ⟨by simp [vals], .inr ⟨g, cap, _, by rw [e1], rfl, by omega, h4, by simp [putCells, h5], ?_⟩⟩
        rw [Nat.mul_one]
        have := take_vals cur (vals (d'.toList.map Subtype.val)) (by simp [vals, h5]; have := hlen; simp at this; omega)
        simpa [vals] using this
      · have h1 : St W0 (sortWorldK enc 1 w g 0 n d' os) ((g, .cells (putCells id 0 (vals (d'.toList.map Subtype.val)).toArray cur) 50 (0, 0)) :: (frags D ++ M)) := by
          unfold sortWorldK putRowK
          rw [hflat']
          exact hS'.put (grownBy_vals _) (heap_vals _ hb)
        refine h1.perm ?_
        simp only [List.cons_append, List.nil_append]
        exact List.Perm.cons _ ((frags_perm hp1).append_right M)
end Go.Proofs.Ytgohdcegplbkjaa
