/- Rows of numbers in a symbolic heap: read, written over, grown; rows of rows. Over any program. -/
import Derived.Test.YtgohdcegplbkjaaSt
import Derived.ArgAppend
import Derived.Deep.DeepAppendRoom
namespace Go.Proofs.Ytgohdcegplbkjaa
set_option linter.unusedVariables false
set_option linter.unusedSimpArgs false
open Go Go.RowKit
open Go.Lib (hid)

/-- the slice v, of one-cell elements, reads as vals -/
def RowOf (w : World) (v : Value) (vals : List Value) : Prop :=
  ∃ ad cap, v = .slice ad vals.length cap ∧ vals.length ≤ cap ∧ cap ≤ maxLen ∧
    (vals ≠ [] → ∃ b o, ad = some ⟨b, o, none⟩ ∧ ∀ (i : Nat) x, vals[i]? = some x → w.cell? ⟨b, o + i, none⟩ = some x)
theorem RowOf.nil (w : World) : RowOf w (.slice none 0 0) [] := ⟨none, 0, rfl, Nat.le_refl _, by unfold maxLen; omega, fun h => absurd rfl h⟩
theorem RowOf.below {w w' : World} {v : Value} {vals : List Value} {B : Nat} (h : RowOf w v vals) (hb : Below B w w') (hB : w.heap.size ≤ B) : RowOf w' v vals := by
  obtain ⟨ad, cap, rfl, h1, h2, h3⟩ := h
  refine ⟨ad, cap, rfl, h1, h2, fun hne => ?_⟩
  obtain ⟨b, o, e, hc⟩ := h3 hne
  refine ⟨b, o, e, fun i x hx => ?_⟩
  have := hc i x hx
  rw [hb.cell (p := ⟨b, o + i, none⟩) (Nat.lt_of_lt_of_le (World.block_lt_of_cell? w _ this) hB)]
  exact this
def ints (ns : List Int) : List Value := ns.map (Value.int .i64)
theorem ints_len (ns : List Int) : (ints ns).length = ns.length := by simp [ints]
theorem ints_get (ns : List Int) (i : Nat) (h : i < ns.length) : (ints ns)[i]? = some (.int .i64 (ns.getD i 0)) := by
  simp [ints, List.getElem?_map, List.getD_eq_getElem?_getD, h]
theorem ints_snoc (l : List Int) (x : Int) : ints l ++ [.int .i64 x] = ints (l ++ [x]) := by simp [ints]
theorem RowOf.drewN {w : World} {v : Value} {l : List Value} (h : RowOf w v l) (n : Nat) : RowOf (w.drewN n) v l := h
theorem parts3 {P : Program} {t : TypeId} {z : Value} {a b : Nat} (h : (P.info? t).map (fun i => (i.zero, i.size, i.bytes)) = some (some z, a, b)) : ∃ i, P.info? t = some i ∧ i.zero = some z ∧ i.size = a ∧ i.bytes = b := by
  cases hi : P.info? t with
  | none => rw [hi] at h; cases h
  | some i =>
    rw [hi] at h
    simp only [Option.map_some, Option.some.injEq, Prod.mk.injEq] at h
    exact ⟨i, rfl, h.1, h.2.1, h.2.2⟩
theorem Rw.rowOf {e : TypeId} {v : Value} {n : Nat} {l : List Value} {F M : Frag} {W0 W : World} (h : Rw e 1 v n l F) (hS : St W0 W (F ++ M)) : RowOf W v l := by
  obtain ⟨ad, cap, he, h1, h2, _⟩ := h.form
  have hl := h.1
  refine ⟨ad, cap, by rw [he, hl, Nat.mul_one], by omega, h2, fun hne => ?_⟩
  obtain ⟨g, c, he', hc⟩ := h.cells hS hne
  rw [he] at he'
  injection he' with a b d
  subst a
  exact ⟨g, 0, rfl, fun i x hx => by rw [Nat.zero_add]; exact hc i x hx⟩
/-- what a call has made for its own, as a fragment -/
theorem St.ofOwn {W W' : World} {e : TypeId} {size n : Nat} {v : Value} {l : List Value} (h : W'.ownsRow W.heap.size e size v n l) (hb : Below W.heap.size W W') : ∃ F, Rw e size v n l F ∧ St W W' F := by
  obtain ⟨h1, h2⟩ := h
  rcases h2 with ⟨rfl, h0⟩ | ⟨g, cap, cur, rfl, hg, hc, hn, hm, hs, ht⟩
  · exact ⟨[], ⟨h1, .inl ⟨rfl, h0, rfl⟩⟩, ⟨hb, by simp, by simp⟩⟩
  · exact ⟨[(g, .cells cur e (0, 0))], ⟨h1, .inr ⟨g, cap, cur, rfl, rfl, hn, hm, hs, ht⟩⟩, ⟨hb, by intro x hx; simp at hx; subst hx; exact ⟨hg, hc⟩, by simp⟩⟩
/-- the first j are f of what they were -/
def upd {α : Type} (f : α → α) (j : Nat) (l : List α) : List α := (l.take j).map f ++ l.drop j
theorem upd_zero {α : Type} (f : α → α) (l : List α) : upd f 0 l = l := by simp [upd]
theorem upd_len {α : Type} (f : α → α) (j : Nat) (l : List α) : (upd f j l).length = l.length := by simp [upd]; omega
theorem upd_full {α : Type} (f : α → α) (l : List α) : upd f l.length l = l.map f := by simp [upd]
theorem upd_get {α : Type} (f : α → α) (j : Nat) (l : List α) (h : j < l.length) : (upd f j l)[j]? = l[j]? := by
  unfold upd
  have hl : ((l.take j).map f).length = j := by simp; omega
  rw [List.getElem?_append_right (by omega), hl, Nat.sub_self, List.getElem?_drop, Nat.add_zero]
theorem upd_set {α : Type} (f : α → α) (j : Nat) (l : List α) (h : j < l.length) : (upd f j l).set j (f l[j]) = upd f (j + 1) l := by
  unfold upd
  have hl : ((l.take j).map f).length = j := by simp; omega
  rw [List.set_append, if_neg (by omega), hl, Nat.sub_self, List.drop_eq_getElem_cons h, List.set_cons_zero, List.take_succ_eq_append_getElem h, List.map_append]
  simp
theorem ints_set (l : List Int) (j : Nat) (x : Int) : (ints l).set j (.int .i64 x) = ints (l.set j x) := by simp [ints, List.map_set]
/-- a row's cell is written -/
theorem Rw.put {e : TypeId} {v : Value} {n : Nat} {l : List Value} {F M : Frag} {W0 W : World} (h : Rw e 1 v n l F) (hS : St W0 W (F ++ M)) (j : Nat) (hj : j < n) :
    ∃ g cap, v = .slice (some ⟨g, 0, none⟩) n cap ∧ W.cell? ⟨g, j, none⟩ = l[j]? ∧ W.frozen? ⟨g, j, none⟩ = false ∧ ∀ n' x, ∃ F', Rw e 1 v n (l.set j x) F' ∧ St W0 ((W.drewN n').setCell ⟨g, j, none⟩ x) (F' ++ M) := by
  obtain ⟨hl, h2⟩ := h
  rcases h2 with ⟨rfl, rfl, rfl⟩ | ⟨g, cap, cur, rfl, rfl, h3, h4, h5, h6⟩
  · omega
  · rw [Nat.mul_one] at h5 h6 hl
    refine ⟨g, cap, rfl, ?_, hS.freeH j, fun n' x => ⟨[(g, .cells (cur.setIfInBounds j x) e (0, 0))], ⟨by simp [hl], .inr ⟨g, cap, _, rfl, rfl, h3, h4, by simp [h5], ?_⟩⟩, (hS.drewN n').set j x⟩⟩
    · rw [hS.cellH, ← h6, List.getElem?_take_of_lt hj]; simp
    · rw [Nat.mul_one, Array.toList_setIfInBounds, List.take_set, h6]

/-- a row v that has grown by ks on its base bs, whose cells are as they were -/
def Gro (e : TypeId) (bs v : Value) (n : Nat) (l ks : List Value) (F : Frag) : Prop :=
  (∃ g cap, bs = .slice (some ⟨g, 0, none⟩) n cap ∧ v = .slice (some ⟨g, 0, none⟩) (n + ks.length) cap ∧ Rw e 1 v (n + ks.length) (l ++ ks) F) ∨
  (∃ F1 F2, F = F1 ++ F2 ∧ Rw e 1 bs n l F2 ∧ Rw e 1 v (n + ks.length) (l ++ ks) F1)
theorem Gro.start {e : TypeId} {bs : Value} {n : Nat} {l : List Value} {F : Frag} (h : Rw e 1 bs n l F) : Gro e bs bs n l [] F := by
  have h0 := h
  rcases h.2 with ⟨rfl, rfl, rfl⟩ | ⟨g, cap, cur, rfl, rfl, h3, h4, h5, h6⟩
  · exact .inr ⟨[], [], rfl, h0, by simpa using h0⟩
  · exact .inl ⟨g, cap, rfl, rfl, by simpa using h0⟩
theorem Rw.pre {e : TypeId} {g n m cap : Nat} {l ks : List Value} {F : Frag} (h : Rw e 1 (.slice (some ⟨g, 0, none⟩) (n + m) cap) (n + m) (l ++ ks) F) (hl : l.length = n) : Rw e 1 (.slice (some ⟨g, 0, none⟩) n cap) n l F := by
  obtain ⟨h1, h2⟩ := h
  rcases h2 with ⟨e0, _⟩ | ⟨g', cap', cur, e0, rfl, h3, h4, h5, h6⟩
  · cases e0
  · cases e0
    refine ⟨by omega, .inr ⟨g, cap, cur, rfl, rfl, by omega, h4, h5, ?_⟩⟩
    have := congrArg (List.take n) h6
    rw [Nat.mul_one, List.take_take, Nat.min_eq_left (by omega), ← hl, List.take_left] at this
    rw [Nat.mul_one, ← hl]; exact this
theorem Gro.base {e : TypeId} {bs v : Value} {n : Nat} {l ks : List Value} {F : Frag} (h : Gro e bs v n l ks F) (hl : l.length = n) : ∃ F', Rw e 1 bs n l F' ∧ F'.Sublist F := by
  rcases h with ⟨g, cap, rfl, rfl, hR⟩ | ⟨F1, F2, rfl, h1, h2⟩
  · exact ⟨F, hR.pre hl, List.Sublist.refl _⟩
  · exact ⟨F2, h1, List.sublist_append_right _ _⟩
theorem Gro.form {e : TypeId} {bs v : Value} {n : Nat} {l ks : List Value} {F : Frag} (h : Gro e bs v n l ks F) : ∃ ad cap, v = .slice ad (n + ks.length) cap := by
  rcases h with ⟨g, cap, rfl, rfl, hR⟩ | ⟨F1, F2, rfl, h1, h2⟩
  · exact ⟨_, _, rfl⟩
  · obtain ⟨ad, cap, rfl, _⟩ := h2.form
    exact ⟨_, _, rfl⟩
/-- append(v, u) -/
theorem append_gro {P : Program} {W0 W : World} {ops : Array Oper} {rest : List Oper} {o : Oper} {a : Act} {Q : Exit → Act → World → Prop} (hgd : o.guard = none) (s x : Operand) (t : TypeId)
    (ho : o.op = .call { callee := .builtin .append, args := #[s, x], argTypes := #[t, t] })
    (e : TypeId) (i : TypeInfo) (z : Value) (bytes : Nat) (ht : P.underlying t = some (.slice e)) (hi : P.info? e = some i) (hz : i.zero = some z)
    (hsize : i.size = 1) (hby : i.bytes = bytes) (hzs : z.cells.size = 1)
    (bs v : Value) (n : Nat) (l ks : List Value) (F M : Frag) (hs : a.eval s = v) (hG : Gro e bs v n l ks F) (hS : St W0 W (F ++ M)) (hl : l.length = n)
    (g : Nat) (u : Value) (hx : a.eval x = .slice (some ⟨g, 0, none⟩) 1 1) (hg : g = W.heap.size) (h1 : u.oneCell' = true)
    (h63 : n + ks.length + 1 ≤ maxLen) (hbytes : (n + ks.length + 1) * bytes ≤ 140737488355328)
    (h : ∀ v' W' F', Gro e bs v' n l (ks ++ [u]) F' → St W0 W' (F' ++ M) → wpList P ops Q rest (a.put o.dst v') W') :
    wpList P ops Q (o :: rest) a (W.alloc (.cells #[u] e)) := by
  subst hg
  have hu : ∀ w ∈ [u], w.oneCell' = true := by intro w hw; simp at hw; subst hw; exact h1
  rcases hG with ⟨g, cap, rfl, rfl, hR⟩ | ⟨F1, F2, rfl, hB, hR⟩
  · have hA := (hS.alloc (.cells #[u] e)).tail
    have hnew : ∀ (j : Nat) w, [u][j]? = some w → (W.alloc (.cells #[u] e)).cell? ((⟨W.heap.size, 0, none⟩ : Addr).add j) = some w := news_at (news := [u]) (heap_alloc_new W _)
    by_cases hroom : n + ks.length + 1 ≤ cap
    · refine wpList_append_own_spare _ hgd s x t ho W0.heap.size e i 1 ht hi hsize g (n + ks.length) cap (l ++ ks) hs (hR.owns hA) ⟨W.heap.size, 0, none⟩ 1 1 [u] hx rfl hnew hu hroom ?_
      intro w' h2 h3
      obtain ⟨F', hR', hS'⟩ := St.appended hR hA h2 h3 (fun e => by cases e) (.inl rfl)
      refine h _ _ F' (.inl ⟨g, cap, rfl, by simp [Nat.add_assoc], ?_⟩) hS'
      simpa [Nat.add_assoc] using hR'
    · refine wpList_append_grows _ hgd s x t ho e i z 1 bytes ht hi hz hsize hby hzs (by decide) (some ⟨g, 0, none⟩) (n + ks.length) cap (l ++ ks) hs (fun e => by cases e) (by simp [hl]) (fun b hb j w hj => ?_)
        ⟨W.heap.size, 0, none⟩ 1 1 [u] hx rfl hnew hu (by omega) h63 hbytes ?_
      · cases hb
        obtain ⟨g', c', e', hc⟩ := hR.cells hA (by intro e0; rw [e0] at hj; simp at hj)
        cases e'
        have h0 : (⟨g, 0, none⟩ : Addr).add j = ⟨g, j, none⟩ := by
          unfold Addr.add
          split
          · rename_i h; rw [h]
          · simp
        rw [h0]; exact hc j w hj
      · intro v' w' h2 h3
        obtain ⟨F', hR', hS'⟩ := St.ofOwn h2 ((Below.refl _ _).grown h3 (Nat.le_refl _) (fun k hk => by cases hk))
        have := hA.call hS'
        rw [← List.append_assoc] at this
        refine h v' w' (F' ++ F) (.inr ⟨F', F, rfl, hR.pre hl, ?_⟩) this
        simpa [Nat.add_assoc] using hR'
  · rw [List.append_assoc] at hS
    refine append_st hgd s x t ho e i z 1 bytes ht hi hz hsize hby hzs (by decide) v (n + ks.length) (l ++ ks) F1 (F2 ++ M) hs hR hS 1 W.heap.size [u] hx rfl rfl hu h63 hbytes ?_
    intro v' W' F' hR' hS'
    rw [← List.append_assoc] at hS'
    refine h v' W' (F' ++ F2) (.inr ⟨F', F2, rfl, hB, ?_⟩) hS'
    simpa [Nat.add_assoc] using hR'


/-- a row of numbers with the slice that it lies in and the blocks that it owns -/
structure Row where
  g : List Int
  v : Value
  F : Frag
def Row.ok (e : TypeId) (r : Row) : Prop := Rw e 1 r.v r.g.length (ints r.g) r.F
def frags (T : List Row) : Frag := T.flatMap (·.F)
def vals (T : List Row) : List Value := T.map (·.v)
def lists (T : List Row) : List (List Int) := T.map (·.g)
theorem frags_app (A B : List Row) : frags (A ++ B) = frags A ++ frags B := by simp [frags]
theorem frags_cons (r : Row) (B : List Row) : frags (r :: B) = r.F ++ frags B := by simp [frags]
theorem frags_perm {A B : List Row} (h : A.Perm B) : (frags A).Perm (frags B) := h.flatMap_right _
theorem split_at {α : Type} {T : List α} {k : Nat} {r : α} (h : T[k]? = some r) : ∃ A B, T = A ++ r :: B ∧ A.length = k := by
  obtain ⟨hl, rfl⟩ := List.getElem?_eq_some_iff.1 h
  exact ⟨T.take k, T.drop (k + 1), by rw [← List.drop_eq_getElem_cons hl, List.take_append_drop], by simp; omega⟩
theorem set_split {α : Type} (A B : List α) (r r' : α) : (A ++ r :: B).set A.length r' = A ++ r' :: B := by simp
theorem perm_row (A B : List Row) (r : Row) (F0 M : Frag) : (r.F ++ (F0 ++ (frags A ++ (frags B ++ M)))).Perm ((F0 ++ frags (A ++ r :: B)) ++ M) := by
  rw [frags_app, frags_cons]
  have out3 : ∀ (A B C X : Frag), (A ++ (B ++ (C ++ X))).Perm (C ++ (A ++ (B ++ X))) := fun A B C X =>
    ((List.perm_append_comm_assoc B C X).append_left A).trans (List.perm_append_comm_assoc A C (B ++ X))
  have h1 := (out3 F0 (frags A) r.F (frags B ++ M)).symm
  simpa only [List.append_assoc] using h1

/-- the blocks behind the first, for rowOf -/
theorem St.tail' {W0 W : World} {x : Nat × Obj} {F : Frag} (h : St W0 W (x :: F)) : St W0 W (F ++ []) := by
  obtain ⟨b, o⟩ := x
  rw [List.append_nil]; exact h.tail
/-- a nil list has no room -/
def VNil (v : Value) : Prop := ∀ n c, v = .slice none n c → n = 0 ∧ c = 0
theorem Rw.vnil {e : TypeId} {v : Value} {n size : Nat} {l : List Value} {F : Frag} (h : Rw e size v n l F) : VNil v := by
  intro k c hv
  rcases h.2 with ⟨rfl, _⟩ | ⟨g, cap, cur, rfl, _⟩
  · cases hv; exact ⟨rfl, rfl⟩
  · cases hv
theorem VNil.of_some (a : Addr) (n c : Nat) : VNil (.slice (some a) n c) := fun n c e => by cases e
/-- a part of a row: its head -/
theorem row_lo {P : Program} {t e : TypeId} (ht : P.underlying t = some (.slice e)) {i : TypeInfo} (hi : P.info? e = some i) {W : World} {ad : Option Addr} {n cap k : Nat} {l : List Value} (h : RowOf W (.slice ad n cap) l) (hv : VNil (.slice ad n cap)) (hk : k ≤ n) :
    ∃ ad', (∀ w, (Instr.slice t (.slice ad n cap) none (some (.int .i64 (k : Int))) none).run P w = .ok (.slice ad' k cap) w) ∧ RowOf W (.slice ad' k cap) (l.take k) ∧ VNil (.slice ad' k cap) := by
  obtain ⟨a, c, e0, h1, h2, h3⟩ := h
  cases e0
  have hle : (k : Int) ≤ (cap : Int) := by omega
  refine ⟨if cap = 0 then ad else ad.map (·.add 0), fun w => by simp [Instr.slice, Instr.sliceBounds, run_underlying ht, go_sem, hle, sizeOf, typeInfo, hi], ?_, ?_⟩
  · refine ⟨_, cap, by rw [List.length_take, Nat.min_eq_left hk], by rw [List.length_take, Nat.min_eq_left hk]; omega, h2, fun hne => ?_⟩
    have hp : 0 < k := by
      rcases Nat.eq_zero_or_pos k with h0 | h0
      · subst h0; simp at hne
      · exact h0
    obtain ⟨b, o, rfl, hc⟩ := h3 (by intro e; rw [e] at hk; simp at hk; omega)
    rw [if_neg (by omega)]
    refine ⟨b, o, rfl, fun j x hx => hc j x ?_⟩
    have hj := (List.getElem?_eq_some_iff.1 hx).1
    rw [List.length_take] at hj
    rwa [List.getElem?_take_of_lt (by omega)] at hx
  · intro m c' e0
    cases ad with
    | none =>
      obtain ⟨h5, h6⟩ := hv _ _ rfl
      subst h6
      cases e0
      exact ⟨by omega, rfl⟩
    | some a =>
      exfalso
      split at e0
      · cases e0
      · cases e0
/-- .. and the rest -/
theorem row_hi {P : Program} {t e : TypeId} (ht : P.underlying t = some (.slice e)) {i : TypeInfo} (hi : P.info? e = some i) (hz : i.size = 1) {W : World} {ad : Option Addr} {n cap k : Nat} {l : List Value} (h : RowOf W (.slice ad n cap) l) (hv : VNil (.slice ad n cap)) (hk : k ≤ n) :
    ∃ ad', (∀ w, (Instr.slice t (.slice ad n cap) (some (.int .i64 (k : Int))) none none).run P w = .ok (.slice ad' (n - k) (cap - k)) w) ∧ RowOf W (.slice ad' (n - k) (cap - k)) (l.drop k) ∧ VNil (.slice ad' (n - k) (cap - k)) := by
  obtain ⟨a, c, e0, h1, h2, h3⟩ := h
  cases e0
  have hle : (k : Int) ≤ ((l.length : Nat) : Int) := by omega
  refine ⟨if cap = k then ad else ad.map (·.add (k * 1)), fun w => by simp [Instr.slice, Instr.sliceBounds, run_underlying ht, go_sem, hle, sizeOf, typeInfo, hi, hz], ?_, ?_⟩
  · refine ⟨_, cap - k, by rw [List.length_drop], by rw [List.length_drop]; omega, by omega, fun hne => ?_⟩
    have hp : k < l.length := by
      rcases Nat.lt_or_ge k l.length with h0 | h0
      · exact h0
      · rw [List.drop_eq_nil_of_le h0] at hne; exact absurd rfl hne
    obtain ⟨b, o, rfl, hc⟩ := h3 (by intro e; rw [e] at hp; simp at hp)
    rw [if_neg (by omega)]
    refine ⟨b, o + k, ?_, fun j x hx => ?_⟩
    · by_cases h0 : k = 0
      · simp [Addr.add, h0]
      · simp [Addr.add, h0]
    · rw [List.getElem?_drop] at hx
      rw [Nat.add_assoc]; exact hc _ _ hx
  · intro m c' e0
    cases ad with
    | none =>
      obtain ⟨h5, h6⟩ := hv _ _ rfl
      have hk0 : k = 0 := by omega
      subst h6 hk0
      simp only [if_true] at e0
      injection e0 with e1 e2 e3
      exact ⟨by omega, by omega⟩
    | some a =>
      exfalso
      split at e0
      · cases e0
      · cases e0
/-- append(own, row...) -/
theorem append_rows_st {P : Program} {W0 W : World} {ops : Array Oper} {rest : List Oper} {o : Oper} {a : Act} {Q : Exit → Act → World → Prop} (hgd : o.guard = none) (s x : Operand) (t : TypeId)
    (ho : o.op = .call { callee := .builtin .append, args := #[s, x], argTypes := #[t, t] })
    (e : TypeId) (i : TypeInfo) (z : Value) (bytes : Nat) (ht : P.underlying t = some (.slice e)) (hi : P.info? e = some i) (hz : i.zero = some z)
    (hsize : i.size = 1) (hby : i.bytes = bytes) (hzs : z.cells.size = 1)
    (v : Value) (n : Nat) (xs : List Value) (F M : Frag) (hs : a.eval s = v) (hR : Rw e 1 v n xs F) (hS : St W0 W (F ++ M))
    (xv : Value) (vals : List Value) (hx : a.eval x = xv) (hrow : RowOf W xv vals) (hnil : VNil xv) (h1 : ∀ u ∈ vals, u.oneCell' = true)
    (h63 : n + vals.length ≤ maxLen) (hbytes : (n + vals.length) * bytes ≤ 140737488355328)
    (h : ∀ v' W' F', Rw e 1 v' (n + vals.length) (xs ++ vals) F' → St W0 W' (F' ++ M) → wpList P ops Q rest (a.put o.dst v') W') :
    wpList P ops Q (o :: rest) a W := by
  obtain ⟨ad, cap, rfl, p1, p2, p3⟩ := hrow
  cases ad with
  | none =>
    obtain ⟨hl, hc⟩ := hnil _ _ rfl
    have hv : vals = [] := List.length_eq_zero_iff.1 hl
    subst hv
    subst hc
    exact wpList_append_own_none hgd s x t ho W0.heap.size e i 1 ht hi v n xs hs (hR.owns hS) hx (h v W F (by simpa using hR) hS)
  | some p =>
    refine wpList_append_own_at W hgd s x t ho W0.heap.size e i z 1 bytes ht hi hz hsize hby hzs (by decide) v n xs hs (hR.owns hS) p vals.length cap vals hx (by omega) ?_ h1 h63 hbytes hS.sz ?_
    · intro j u hj
      have hne : vals ≠ [] := by intro h; rw [h] at hj; simp at hj
      obtain ⟨b, off, he, hc⟩ := p3 hne
      cases he
      have := hc j u hj
      unfold Addr.add
      split
      · rename_i h; rw [h] at this; simpa using this
      · simpa using this
    · intro v' w' h2 h3 h4 h5
      obtain ⟨F', hR', hS'⟩ := St.appended hR hS h2 h3 (fun e => (h4.1 e).1) h5
      exact h v' w' F' hR' hS'

/-- the same at a step of a region that draws its order -/
theorem step_append_rows_st {P : Program} {W0 w : World} {ops : Array Oper} {o : Oper} {a : Act} {K : Act → World → Prop} {Q : Exit → Act → World → Prop} {E : Prop} (hgd : o.guard = none) (s x : Operand) (t : TypeId)
    (ho : o.op = .call { callee := .builtin .append, args := #[s, x], argTypes := #[t, t] })
    (e : TypeId) (i : TypeInfo) (z : Value) (bytes : Nat) (ht : P.underlying t = some (.slice e)) (hi : P.info? e = some i) (hz : i.zero = some z)
    (hsize : i.size = 1) (hby : i.bytes = bytes) (hzs : z.cells.size = 1)
    (v : Value) (n : Nat) (xs : List Value) (F M : Frag) (hs : a.eval s = v) (hR : Rw e 1 v n xs F) (hS : St W0 w (F ++ M))
    (xv : Value) (vals : List Value) (hx : a.eval x = xv) (hrow : RowOf w xv vals) (hnil : VNil xv) (h1 : ∀ u ∈ vals, u.oneCell' = true)
    (h63 : n + vals.length ≤ maxLen) (hbytes : (n + vals.length) * bytes ≤ 140737488355328)
    (h : ∀ v' W' F', Rw e 1 v' (n + vals.length) (xs ++ vals) F' → St W0 W' (F' ++ M) → K (a.put o.dst v') W') :
    if Region.wanted o (yielded ops a.tmps) = true then Oper.wp P o a w K Q else E := by
  have hw : Region.wanted o (yielded ops a.tmps) = true := by simp [Region.wanted, hgd]
  rw [if_pos hw]
  obtain ⟨ad, cap, rfl, p1, p2, p3⟩ := hrow
  cases ad with
  | none =>
    obtain ⟨hl, hc⟩ := hnil _ _ rfl
    have hv : vals = [] := List.length_eq_zero_iff.1 hl
    subst hv
    subst hc
    have hrun := run_append_owned_none (P := P) (w := w) W0.heap.size t o.type e i 1 ht hi v n xs (hR.owns hS)
    have hx' : a.eval x = .slice none 0 0 := hx
    unfold Oper.wp
    simp [execOp, ho, resolve, invoke, builtin, hs, hx', hrun, Result.andThen]
    exact h v w F (by simpa using hR) hS
  | some p =>
    obtain ⟨v', w', hr, h2, h3, h4, h5⟩ := run_append_own_at (P := P) w W0.heap.size t o.type e i z 1 bytes ht hi hz hsize hby hzs (by decide) v n xs (hR.owns hS) p vals.length cap vals (by omega) (fun j u hj => by
      have hne : vals ≠ [] := by intro h; rw [h] at hj; simp at hj
      obtain ⟨b, off, he, hc⟩ := p3 hne
      cases he
      have := hc j u hj
      unfold Addr.add
      split
      · rename_i h; rw [h] at this; simpa using this
      · simpa using this) h1 h63 hbytes hS.sz
    obtain ⟨F', hR', hS'⟩ := St.appended hR hS h2 h3 (fun e => (h4.1 e).1) h5
    unfold Oper.wp execOp
    simp only [ho, resolve, invoke, builtin, Sem.run_bind, Sem.run_pure, Result.andThen_ok, List.map_toArray, List.map_cons, List.map_nil, hs, hx, hr]
    exact h v' w' F' hR' hS'
end Go.Proofs.Ytgohdcegplbkjaa
