/- A symbolic heap: what a call has made so far, block by block. Over any program. -/
import Derived.Test.YtgohdcegplbkjaaProg
import Derived.WalkKit
import Derived.Below
import Derived.OneCell
import Derived.Lib.Hide
import Derived.Laws.NewBlocks
import Derived.Laws.Rows
import Derived.Laws.AppendOwnNone
import Derived.Maps.AppendAt
import Derived.Deep.QuietTactic
import Derived.Deep.AppendLies
import Derived.Deep.RegionHeld3
namespace Go.Proofs.Ytgohdcegplbkjaa
set_option linter.unusedVariables false
set_option linter.unusedSimpArgs false
open Go Go.RowKit
open Go.Lib (hid)

theorem drewN_below {B : Nat} {w w' : World} (h : Below B w w') (n : Nat) : Below B w (w'.drewN n) := ⟨h.os, h.tape, h.output, h.size, h.block⟩
theorem retI {k : IntKind} {a b : Int} (h : a = b) : Ending.returned (.int k a) = .returned (.int k b) := by rw [h]
theorem retB {a b : Bool} (h : a = b) : Ending.returned (.bool a) = .returned (.bool b) := by rw [h]
abbrev Frag := List (Nat × Obj)
/-- in W, which is W0 with new blocks, the blocks of M (all of them new, no two alike) are as M says -/
structure St (W0 W : World) (M : Frag) : Prop where
  below : Below W0.heap.size W0 W
  at' : ∀ x ∈ M, W0.heap.size ≤ x.1 ∧ W.heap[x.1]? = some x.2
  nodup : (M.map (·.1)).Nodup
namespace St
variable {W0 W W' : World} {M M' : Frag} {b : Nat} {o : Obj}
theorem refl (W : World) : St W W [] := ⟨Below.refl _ _, by simp, by simp⟩
theorem drew (h : St W0 W M) : St W0 W.drew M := ⟨h.below.drew, h.at', h.nodup⟩
theorem drewN (h : St W0 W M) (n : Nat) : St W0 (W.drewN n) M := ⟨⟨h.below.os, h.below.tape, h.below.output, h.below.size, h.below.block⟩, h.at', h.nodup⟩
theorem sz (h : St W0 W M) : W0.heap.size ≤ W.heap.size := h.below.size
theorem lt (h : St W0 W M) {x : Nat × Obj} (hx : x ∈ M) : x.1 < W.heap.size := lt_of_block (h.at' x hx).2
theorem get (h : St W0 W ((b, o) :: M)) : W.heap[b]? = some o := (h.at' (b, o) List.mem_cons_self).2
theorem hlt (h : St W0 W ((b, o) :: M)) : b < W.heap.size := lt_of_block h.get
theorem hge (h : St W0 W ((b, o) :: M)) : W0.heap.size ≤ b := (h.at' (b, o) List.mem_cons_self).1
theorem tail (h : St W0 W ((b, o) :: M)) : St W0 W M := ⟨h.below, fun x hx => h.at' x (List.mem_cons_of_mem _ hx), (List.nodup_cons.1 h.nodup).2⟩
theorem ne (h : St W0 W ((b, o) :: M)) {x : Nat × Obj} (hx : x ∈ M) : x.1 ≠ b := fun e => (List.nodup_cons.1 h.nodup).1 (List.mem_map.2 ⟨x, hx, e⟩)
theorem perm (h : St W0 W M) (hp : M'.Perm M) : St W0 W M' := ⟨h.below, fun x hx => h.at' x (hp.mem_iff.1 hx), (hp.map _).nodup_iff.2 h.nodup⟩
theorem sub (h : St W0 W M) (hp : M'.Sublist M) : St W0 W M' := ⟨h.below, fun x hx => h.at' x (hp.subset hx), h.nodup.sublist (hp.map _)⟩
theorem appL {M1 M2 : Frag} (h : St W0 W (M1 ++ M2)) : St W0 W M1 := h.sub (List.sublist_append_left _ _)
theorem appR {M1 M2 : Frag} (h : St W0 W (M1 ++ M2)) : St W0 W M2 := h.sub (List.sublist_append_right _ _)
theorem comm {M1 M2 : Frag} (h : St W0 W (M1 ++ M2)) : St W0 W (M2 ++ M1) := h.perm List.perm_append_comm
theorem swap {x y : Nat × Obj} (h : St W0 W (x :: y :: M)) : St W0 W (y :: x :: M) := h.perm (List.Perm.swap _ _ _)
/-- a new block -/
theorem alloc (h : St W0 W M) (o : Obj) : St W0 (W.alloc o) ((W.heap.size, o) :: M) := by
  refine ⟨h.below.alloc h.sz o, fun x hx => ?_, ?_⟩
  · rcases List.mem_cons.1 hx with rfl | hx
    · exact ⟨h.sz, heap_alloc_new W o⟩
    · have := h.at' x hx
      exact ⟨this.1, (Below.heap_alloc W o x.1 (h.lt hx)).trans this.2⟩
  · simp only [List.map_cons]
    refine List.nodup_cons.2 ⟨fun hm => ?_, h.nodup⟩
    obtain ⟨x, hx, e⟩ := List.mem_map.1 hm
    have := h.lt hx
    omega
/-- a store -/
theorem set {cs : Array Value} {T : TypeId} (h : St W0 W ((b, .cells cs T (0, 0)) :: M)) (i : Nat) (v : Value) : St W0 (W.setCell ⟨b, i, none⟩ v) ((b, .cells (cs.setIfInBounds i v) T (0, 0)) :: M) := by
  refine ⟨h.below.setCell h.hge v, fun x hx => ?_, by simpa using h.nodup⟩
  rcases List.mem_cons.1 hx with rfl | hx
  · exact ⟨h.hge, heap_setCell_same W b i cs T v h.get⟩
  · have := h.at' x (List.mem_cons_of_mem _ hx)
    exact ⟨this.1, (heap_setCell_other W _ x.1 v (h.ne hx)).trans this.2⟩
/-- the block at the head has been replaced; the others are as they were -/
theorem put (h : St W0 W ((b, o) :: M)) {o' : Obj} (hg : W.grownBy W' (some b)) (hb : W'.heap[b]? = some o') : St W0 W' ((b, o') :: M) := by
  refine ⟨h.below.grown hg h.sz (fun k hk => by cases hk; exact h.hge), fun x hx => ?_, by simpa using h.nodup⟩
  rcases List.mem_cons.1 hx with rfl | hx
  · exact ⟨h.hge, hb⟩
  · have hm := List.mem_cons_of_mem (b, o) hx
    have := h.at' x hm
    exact ⟨this.1, (hg.block x.1 (h.lt hm) (fun e => h.ne hx (Option.some.inj e))).trans this.2⟩
/-- a call that leaves what was there as it was, and hands over what it made -/
theorem call (h : St W0 W M) (k : St W W' M') : St W0 W' (M' ++ M) := by
  refine ⟨h.below.trans (k.below.mono h.sz), fun x hx => ?_, ?_⟩
  · rcases List.mem_append.1 hx with hx | hx
    · have := k.at' x hx
      exact ⟨Nat.le_trans h.sz this.1, this.2⟩
    · have := h.at' x hx
      exact ⟨this.1, (k.below.block x.1 (h.lt hx)).trans this.2⟩
  · rw [List.map_append]
    refine List.nodup_append.2 ⟨k.nodup, h.nodup, fun a ha b hb e => ?_⟩
    obtain ⟨x, hx, rfl⟩ := List.mem_map.1 ha
    obtain ⟨y, hy, rfl⟩ := List.mem_map.1 hb
    have h1 := (k.at' x hx).1
    have h2 := h.lt hy
    omega
theorem callB (h : St W0 W M) (k : Below W.heap.size W W') : St W0 W' M := by
  have := h.call (M' := []) ⟨k, by simp, by simp⟩
  simpa using this
/-- the parts of a block -/
theorem cell {cs : Array Value} {T : TypeId} {fr : Nat × Nat} (h : St W0 W M) (hm : (b, Obj.cells cs T fr) ∈ M) (i : Nat) : W.cell? ⟨b, i, none⟩ = cs[i]? := by
  have := (h.at' _ hm).2
  simp only at this
  simp [World.cell?, this]
theorem cellH {cs : Array Value} {T : TypeId} {fr : Nat × Nat} (h : St W0 W ((b, .cells cs T fr) :: M)) (i : Nat) : W.cell? ⟨b, i, none⟩ = cs[i]? := h.cell List.mem_cons_self i
theorem free {cs : Array Value} {T : TypeId} (h : St W0 W M) (hm : (b, Obj.cells cs T (0, 0)) ∈ M) (i : Nat) : W.frozen? ⟨b, i, none⟩ = false := by
  have := (h.at' _ hm).2
  simp only at this
  simp [World.frozen?, this]
theorem freeH {cs : Array Value} {T : TypeId} (h : St W0 W ((b, .cells cs T (0, 0)) :: M)) (i : Nat) : W.frozen? ⟨b, i, none⟩ = false := h.free List.mem_cons_self i
/-- what was there before is as it was -/
theorem old (h : St W0 W M) {a : Addr} {v : Value} (hc : W0.cell? a = some v) : W.cell? a = some v :=
  (h.below.cell (World.block_lt_of_cell? W0 _ hc)).trans hc
theorem toSt0 (h : St W0 W M) : St W0 W [] := ⟨h.below, by simp, by simp⟩
theorem mid {A B : Frag} {x : Nat × Obj} (h : St W0 W (A ++ x :: B)) : St W0 W (x :: (A ++ B)) := h.perm List.perm_middle.symm
theorem unmid {A B : Frag} {x : Nat × Obj} (h : St W0 W (x :: (A ++ B))) : St W0 W (A ++ x :: B) := h.perm List.perm_middle
theorem setAt {A B : Frag} {cs : Array Value} {T : TypeId} (h : St W0 W (A ++ (b, .cells cs T (0, 0)) :: B)) (i : Nat) (v : Value) : St W0 (W.setCell ⟨b, i, none⟩ v) (A ++ (b, .cells (cs.setIfInBounds i v) T (0, 0)) :: B) := (h.mid.set i v).unmid
theorem rot {A B C : Frag} (h : St W0 W (A ++ (B ++ C))) : St W0 W (B ++ (A ++ C)) := h.perm (by rw [← List.append_assoc, ← List.append_assoc]; exact List.perm_append_comm.append_right C)
theorem rd {cs : Array Value} {T : TypeId} {fr : Nat × Nat} {i : Nat} {v : Value} (h : St W0 W M) (hm : (b, Obj.cells cs T fr) ∈ M) (hv : cs[i]? = some v) : W.cell? ⟨b, i, none⟩ = some v := (h.cell hm i).trans hv
theorem set6 {a0 a1 a2 a3 a4 a5 : Value} {T : TypeId} (h : St W0 W ((b, .cells #[a0, a1, a2, a3, a4, a5] T (0, 0)) :: M)) (v0 v1 v2 v3 v4 v5 : Value) :
    St W0 ((((((W.setCell ⟨b, 0, none⟩ v0).setCell ⟨b, 1, none⟩ v1).setCell ⟨b, 2, none⟩ v2).setCell ⟨b, 3, none⟩ v3).setCell ⟨b, 4, none⟩ v4).setCell ⟨b, 5, none⟩ v5) ((b, .cells #[v0, v1, v2, v3, v4, v5] T (0, 0)) :: M) :=
  (((((h.set 0 v0).set 1 v1).set 2 v2).set 3 v3).set 4 v4).set 5 v5
/-- the world behind a name, at the end of a body and ahead of code -/
theorem nameB {P : Program} {f : Func} {R : Ending → World → Prop} {ex : Exit} {a : Act} (h : St W0 W M) (k : ∀ W', St W0 W' M → bodyPost P f R ex a W') : bodyPost P f R ex a W := k W h
theorem nameC {P : Program} {c : Code} {Q : Exit → Act → World → Prop} {a : Act} (h : St W0 W M) (k : ∀ W', St W0 W' M → c.wp P Q a W') : c.wp P Q a W := k W h
/-- the world behind a name -/
theorem name {C : World → Prop} (h : St W0 W M) (k : ∀ W', St W0 W' M → C W') : C W := k W h
end St

/-- the slice v, of elements of type e of so many cells, owns the fragment F, and reads xs -/
def Rw (e : TypeId) (size : Nat) (v : Value) (n : Nat) (xs : List Value) (F : Frag) : Prop :=
  xs.length = n * size ∧
  ((v = .slice none 0 0 ∧ n = 0 ∧ F = []) ∨
   ∃ g cap cur, v = .slice (some ⟨g, 0, none⟩) n cap ∧ F = [(g, .cells cur e (0, 0))] ∧ n ≤ cap ∧ cap ≤ maxLen ∧ cur.size = cap * size ∧ cur.toList.take (n * size) = xs)
namespace Rw
variable {e : TypeId} {size n : Nat} {v : Value} {xs : List Value} {F M : Frag} {W0 W : World}
theorem nil (e : TypeId) (size : Nat) : Rw e size (.slice none 0 0) 0 [] [] := ⟨by simp, .inl ⟨rfl, rfl, rfl⟩⟩
theorem lit (e : TypeId) (size n : Nat) (g : Nat) (cs : Array Value) (h : cs.size = n * size) (hn : n ≤ maxLen) : Rw e size (.slice (some ⟨g, 0, none⟩) n n) n cs.toList [(g, .cells cs e (0, 0))] :=
  ⟨by simpa using h, .inr ⟨g, n, cs, rfl, rfl, Nat.le_refl _, hn, h, by rw [← h]; exact List.take_of_length_le (by simp)⟩⟩
theorem owns (h : Rw e size v n xs F) (hS : St W0 W (F ++ M)) : W.ownsRow W0.heap.size e size v n xs := by
  obtain ⟨h1, h2⟩ := h
  refine ⟨h1, ?_⟩
  rcases h2 with ⟨rfl, rfl, rfl⟩ | ⟨g, cap, cur, rfl, rfl, h3, h4, h5, h6⟩
  · exact .inl ⟨rfl, rfl⟩
  · exact .inr ⟨g, cap, cur, rfl, hS.hge, hS.get, h3, h4, h5, h6⟩
theorem form (h : Rw e size v n xs F) : ∃ ad cap, v = .slice ad n cap ∧ n ≤ cap ∧ cap ≤ maxLen ∧ (ad = none → n = 0 ∧ cap = 0) := by
  rcases h.2 with ⟨rfl, rfl, rfl⟩ | ⟨g, cap, cur, rfl, rfl, h3, h4, h5, h6⟩
  · exact ⟨none, 0, rfl, Nat.le_refl _, by unfold maxLen; omega, fun _ => ⟨rfl, rfl⟩⟩
  · exact ⟨some ⟨g, 0, none⟩, cap, rfl, h3, h4, fun h => by cases h⟩
theorem cells (h : Rw e size v n xs F) (hS : St W0 W (F ++ M)) (hne : xs ≠ []) : ∃ g cap, v = .slice (some ⟨g, 0, none⟩) n cap ∧ ∀ (i : Nat) x, xs[i]? = some x → W.cell? ⟨g, i, none⟩ = some x := by
  rcases h.2 with ⟨rfl, rfl, rfl⟩ | ⟨g, cap, cur, rfl, rfl, h3, h4, h5, h6⟩
  · have := h.1; simp at this; exact absurd this hne
  · refine ⟨g, cap, rfl, fun i x hx => ?_⟩
    have hl : i < xs.length := (List.getElem?_eq_some_iff.1 hx).1
    rw [hS.cellH]
    rw [← h6, List.getElem?_take_of_lt (by rw [← h.1]; exact hl)] at hx
    simpa using hx
end Rw

/-- what an append leaves -/
theorem St.appended {W0 W w' : World} {M F : Frag} {e : TypeId} {size n n' : Nat} {v v' : Value} {xs ys : List Value} (hR : Rw e size v n xs F) (hS : St W0 W (F ++ M)) (hown' : w'.ownsRow W0.heap.size e size v' n' ys)
    (hg : W.grownBy w' v.ownBlock) (hnil : v' = .slice none 0 0 → v = .slice none 0 0) (hat : v'.ownBlock = v.ownBlock ∨ v'.ownBlock = some W.heap.size) : ∃ F', Rw e size v' n' ys F' ∧ St W0 w' (F' ++ M) := by
  have hown := hR.owns hS
  obtain ⟨g1, g2⟩ := hown'
  rcases g2 with ⟨rfl, hn0⟩ | ⟨g', cap', cur', rfl, hb', hg', hn', hc', hs', ht'⟩
  · refine ⟨[], ⟨g1, .inl ⟨rfl, hn0, rfl⟩⟩, ?_⟩
    have hv := hnil rfl
    subst hv
    rcases hR.2 with ⟨_, _, rfl⟩ | ⟨g, cap, cur, he, _⟩
    · refine ⟨hS.below.grown hg hS.sz (fun k hk => by simp [Value.ownBlock] at hk), fun y hy => ?_, by simpa using hS.nodup⟩
      have := hS.at' y hy
      exact ⟨this.1, (hg.block y.1 (hS.lt hy) (by simp [Value.ownBlock])).trans this.2⟩
    · cases he
  · refine ⟨[(g', .cells cur' e (0, 0))], ⟨g1, .inr ⟨g', cap', cur', rfl, rfl, hn', hc', hs', ht'⟩⟩, ?_⟩
    have hM : ∀ y ∈ M, W0.heap.size ≤ y.1 ∧ w'.heap[y.1]? = some y.2 ∧ y.1 < W.heap.size ∧ some y.1 ≠ v.ownBlock := by
      intro y hy
      have hy' : y ∈ F ++ M := List.mem_append_right _ hy
      have h6 := hS.at' y hy'
      have h7 : some y.1 ≠ v.ownBlock := by
        rcases hR.2 with ⟨rfl, _, rfl⟩ | ⟨g, cap, cur, rfl, rfl, _⟩
        · simp [Value.ownBlock]
        · intro he
          simp [Value.ownBlock] at he
          exact hS.ne hy he
      exact ⟨h6.1, (hg.block y.1 (hS.lt hy') h7).trans h6.2, hS.lt hy', h7⟩
    refine ⟨hS.below.grown hg hS.sz (fun k hk => (hown.lt k hk).1), fun y hy => ?_, ?_⟩
    · rcases List.mem_cons.1 hy with rfl | hy
      · exact ⟨hb', hg'⟩
      · have hy : y ∈ M := by simpa using hy
        exact ⟨(hM y hy).1, (hM y hy).2.1⟩
    · simp only [List.cons_append, List.nil_append, List.map_cons]
      refine List.nodup_cons.2 ⟨fun hm => ?_, (hS.appR).nodup⟩
      obtain ⟨y, hy, he⟩ := List.mem_map.1 hm
      have := hM y hy
      rcases hat with h5 | h5
      · rw [← h5] at this; simp [Value.ownBlock] at this; exact this.2.2.2 he
      · simp [Value.ownBlock] at h5; omega
theorem news_at {w : World} {g : Nat} {news : List Value} {e : TypeId} (h : w.heap[g]? = some (.cells news.toArray e (0, 0))) : ∀ (j : Nat) u, news[j]? = some u → w.cell? ((⟨g, 0, none⟩ : Addr).add j) = some u := by
  intro j u hj
  have h0 : (⟨g, 0, none⟩ : Addr).add j = ⟨g, j, none⟩ := by
    unfold Addr.add
    split
    · rename_i h; rw [h]
    · simp
  rw [h0]
  simp only [World.cell?, h]
  simpa using hj

/-- append(own, x..) of a block that the statement has just made -/
theorem append_st {P : Program} {W0 W : World} {ops : Array Oper} {rest : List Oper} {o : Oper} {a : Act} {Q : Exit → Act → World → Prop} (hgd : o.guard = none) (s x : Operand) (t : TypeId)
    (ho : o.op = .call { callee := .builtin .append, args := #[s, x], argTypes := #[t, t] })
    (e : TypeId) (i : TypeInfo) (z : Value) (size bytes : Nat) (ht : P.underlying t = some (.slice e)) (hi : P.info? e = some i) (hz : i.zero = some z)
    (hsize : i.size = size) (hby : i.bytes = bytes) (hzs : z.cells.size = size) (hsz : 0 < size)
    (v : Value) (n : Nat) (xs : List Value) (F M : Frag) (hs : a.eval s = v) (hR : Rw e size v n xs F) (hS : St W0 W (F ++ M))
    (m g : Nat) (news : List Value) (hx : a.eval x = .slice (some ⟨g, 0, none⟩) m m) (hg : g = W.heap.size) (hl : news.length = m * size) (h1 : ∀ u ∈ news, u.oneCell' = true)
    (h63 : n + m ≤ maxLen) (hbytes : (n + m) * bytes ≤ 140737488355328)
    (h : ∀ v' W' F', Rw e size v' (n + m) (xs ++ news) F' → St W0 W' (F' ++ M) → wpList P ops Q rest (a.put o.dst v') W') :
    wpList P ops Q (o :: rest) a (W.alloc (.cells news.toArray e)) := by
  subst hg
  have hA := (hS.alloc (.cells news.toArray e)).tail
  refine wpList_append_own_at _ hgd s x t ho W0.heap.size e i z size bytes ht hi hz hsize hby hzs hsz v n xs hs (hR.owns hA) ⟨W.heap.size, 0, none⟩ m m news hx hl (news_at (heap_alloc_new W _)) h1 h63 hbytes (by rw [World.size_alloc]; have := hS.sz; omega) ?_
  intro v' w' h2 h3 h4 h5
  obtain ⟨F', hR', hS'⟩ := St.appended hR hA h2 h3 (fun e => (h4.1 e).1) h5
  exact h v' w' F' hR' hS'
/-- the same at a step of a region that draws its order: the new cells' block stands at the head -/
theorem step_append_st {P : Program} {W0 w : World} {ops : Array Oper} {o : Oper} {a : Act} {K : Act → World → Prop} {Q : Exit → Act → World → Prop} {E : Prop} (hgd : o.guard = none) (s x : Operand) (t : TypeId)
    (ho : o.op = .call { callee := .builtin .append, args := #[s, x], argTypes := #[t, t] })
    (e : TypeId) (i : TypeInfo) (z : Value) (size bytes : Nat) (ht : P.underlying t = some (.slice e)) (hi : P.info? e = some i) (hz : i.zero = some z)
    (hsize : i.size = size) (hby : i.bytes = bytes) (hzs : z.cells.size = size) (hsz : 0 < size)
    (v : Value) (n : Nat) (xs : List Value) (F M : Frag) (hs : a.eval s = v) (hR : Rw e size v n xs F)
    (m g : Nat) (news : List Value) (hS : St W0 w ((g, .cells news.toArray e (0, 0)) :: (F ++ M))) (hx : a.eval x = .slice (some ⟨g, 0, none⟩) m m) (hl : news.length = m * size) (h1 : ∀ u ∈ news, u.oneCell' = true)
    (hm : 0 < m) (h63 : n + m ≤ maxLen) (hbytes : (n + m) * bytes ≤ 140737488355328)
    (h : ∀ g' cap w' F', Rw e size (.slice (some ⟨g', 0, none⟩) (n + m) cap) (n + m) (xs ++ news) F' → St W0 w' (F' ++ M) → K (a.put o.dst (.slice (some ⟨g', 0, none⟩) (n + m) cap)) w') :
    if Region.wanted o (yielded ops a.tmps) = true then Oper.wp P o a w K Q else E := by
  refine step_append_lies _ hgd s x t ho W0.heap.size e i z size bytes ht hi hz hsize hby hzs hsz v n xs hs (hR.owns hS.tail) ⟨g, 0, none⟩ m m news hx hl (news_at hS.get) h1 hm h63 hbytes hS.sz w.heap.size rfl ?_
  intro g' cap w' h2 h3 h5 _
  obtain ⟨F', hR', hS'⟩ := St.appended hR hS.tail h2 h3 (fun e => by cases e) (by
    rcases h5 with h5 | h5
    · exact .inl h5.symm
    · exact .inr (by rw [h5]; rfl))
  exact h g' cap w' F' hR' hS'
end Go.Proofs.Ytgohdcegplbkjaa
