/- Plain Lean: unions of numbers, as the program keeps them (who stands for whom) and as the document does (each one's least). No program in sight. -/
import Derived.Test.YtgohdcegplbkjaaProg
namespace Go.Proofs.Ytgohdcegplbkjaa
set_option linter.unusedVariables false
set_option linter.unusedSimpArgs false

/-- what making a union of these answers: a refusal, or none -/
def newM : List Int → List Int → Option Int
  | _, [] => none
  | seen, x :: r => if x < 0 ∨ 281474976710656 < x then some 60 else if x ∈ seen then some 130 else newM (seen ++ [x]) r

/-- the number at place i -/
def idAt (ids : List Int) (i : Nat) : Int := ids.getD i 0
def ovAt (ov : List Nat) (i : Nat) : Nat := ov.getD i 0
theorem idAt_get {ids : List Int} {i : Nat} (h : i < ids.length) : ids[i]? = some (idAt ids i) := by
  simp [idAt, List.getD_eq_getElem?_getD, h]
theorem idAt_mem {ids : List Int} {i : Nat} (h : i < ids.length) : idAt ids i ∈ ids := List.mem_of_getElem? (idAt_get h)
theorem idAt_inj {ids : List Int} (hnd : ids.Nodup) {i j : Nat} (hi : i < ids.length) (hj : j < ids.length) (h : idAt ids i = idAt ids j) : i = j := by
  have h1 := idAt_get hi
  have h2 := idAt_get hj
  rw [← h] at h2
  exact (List.getElem?_inj hi hnd).1 (h1.trans h2.symm)
theorem idAt_of_mem {ids : List Int} {x : Int} (h : x ∈ ids) : ∃ i, i < ids.length ∧ idAt ids i = x := by
  obtain ⟨i, hi, rfl⟩ := List.getElem_of_mem h
  exact ⟨i, hi, by simp [idAt, List.getD_eq_getElem?_getD, hi]⟩

/-- a forest: R i is the one that stands for i's group, h falls on no way -/
structure UInv (n : Nat) (ov : List Nat) (R h : Nat → Nat) : Prop where
  len : ov.length = n
  lt : ∀ i, i < n → ovAt ov i < n
  rlt : ∀ i, i < n → R i < n
  root : ∀ i, i < n → R (ovAt ov i) = R i
  fix : ∀ i, i < n → (ovAt ov i = i ↔ R i = i)
  idem : ∀ i, i < n → R (R i) = R i
  dec : ∀ i, i < n → ovAt ov i ≠ i → h (ovAt ov i) < h i

theorem ovAt_set (ov : List Nat) (i v j : Nat) (hi : i < ov.length) : ovAt (ov.set i v) j = if j = i then v else ovAt ov j := by
  unfold ovAt
  rw [List.getD_eq_getElem?_getD, List.getD_eq_getElem?_getD, List.getElem?_set]
  by_cases h : i = j
  · subst h; simp [hi]
  · rw [if_neg h, if_neg (fun e => h e.symm)]
theorem UInv.start (n : Nat) : UInv n (List.range n) id id := by
  have ho : ∀ i, i < n → ovAt (List.range n) i = i := fun i hi => by simp [ovAt, List.getD_eq_getElem?_getD, hi]
  exact ⟨by simp, fun i hi => by rw [ho i hi]; exact hi, fun i hi => hi, fun i hi => by rw [ho i hi], fun i hi => by rw [ho i hi]; simp, fun i hi => rfl, fun i hi hne => absurd (ho i hi) hne⟩
/-- halving a way -/
theorem UInv.halve {n : Nat} {ov : List Nat} {R h : Nat → Nat} (u : UInv n ov R h) {i : Nat} (hi : i < n) (hne : ovAt ov i ≠ i) : UInv n (ov.set i (ovAt ov (ovAt ov i))) R h := by
  have hl := u.len
  have h1 := u.lt i hi
  have h2 := u.lt _ h1
  have hd := u.dec i hi hne
  have hle : h (ovAt ov (ovAt ov i)) ≤ h (ovAt ov i) := by
    by_cases e : ovAt ov (ovAt ov i) = ovAt ov i
    · rw [e]; exact Nat.le_refl _
    · exact Nat.le_of_lt (u.dec _ h1 e)
  have hs : ∀ j, ovAt (ov.set i (ovAt ov (ovAt ov i))) j = if j = i then ovAt ov (ovAt ov i) else ovAt ov j := fun j => ovAt_set ov i _ j (by omega)
  refine ⟨by simp [hl], fun j hj => ?_, u.rlt, fun j hj => ?_, fun j hj => ?_, u.idem, fun j hj hn => ?_⟩
  · rw [hs]; split
    · exact h2
    · exact u.lt j hj
  · rw [hs]; split
    · rename_i e; subst e; rw [u.root _ h1, u.root _ hj]
    · exact u.root j hj
  · rw [hs]; split
    · rename_i e; subst e
      constructor
      · intro e; rw [e] at hle; omega
      · intro e; exact absurd ((u.fix _ hj).2 e) hne
    · exact u.fix j hj
  · rw [hs] at hn ⊢; split
    · rename_i e; subst e; omega
    · rename_i e; rw [if_neg e] at hn; exact u.dec j hj hn
/-- joining the groups of two that stand for theirs -/
def joinR (R : Nat → Nat) (a b : Nat) : Nat → Nat := fun j => if R j = a then b else R j
theorem UInv.join {n : Nat} {ov : List Nat} {R h : Nat → Nat} (u : UInv n ov R h) {a b : Nat} (ha : a < n) (hb : b < n) (hra : R a = a) (hrb : R b = b) : ∃ h', UInv n (ov.set a b) (joinR R a b) h' := by
  have hl := u.len
  have hs : ∀ j, ovAt (ov.set a b) j = if j = a then b else ovAt ov j := fun j => ovAt_set ov a b j (by omega)
  by_cases hab : a = b
  · subst hab
    have hoa := (u.fix a ha).2 hra
    have hR : joinR R a a = R := by funext j; unfold joinR; split <;> simp_all
    have ho : ov.set a a = ov := by
      have : ov[a]? = some a := by
        have := hoa
        unfold ovAt at this
        rw [List.getD_eq_getElem?_getD, List.getElem?_eq_getElem (by omega)] at this
        rw [List.getElem?_eq_getElem (by omega)]
        simpa using this
      obtain ⟨hlt, he⟩ := List.getElem?_eq_some_iff.1 this
      have hset := List.set_getElem_self hlt
      rwa [he] at hset
    rw [hR, ho]
    exact ⟨h, u⟩
  · refine ⟨fun j => if R j = a then h j + (h b + 1) else h j, by simp [hl], fun j hj => ?_, fun j hj => ?_, fun j hj => ?_, fun j hj => ?_, fun j hj => ?_, fun j hj hn => ?_⟩
    · rw [hs]; split
      · exact hb
      · exact u.lt j hj
    · unfold joinR; split
      · exact hb
      · exact u.rlt j hj
    · rw [hs]; unfold joinR; split
      · rename_i e; subst e
        rw [hrb, hra]
        simp [hab, Ne.symm hab]
      · rw [u.root j hj]
    · rw [hs]; unfold joinR
      by_cases e : j = a
      · subst e; simp only [if_true, hra]
      · rw [if_neg e]
        by_cases e2 : R j = a
        · rw [if_pos e2]
          constructor
          · intro e3
            have := (u.fix j hj).1 e3
            omega
          · intro e3
            subst e3
            rw [hrb] at e2
            exact absurd e2.symm hab
        · rw [if_neg e2]; exact u.fix j hj
    · unfold joinR
      by_cases e2 : R j = a
      · rw [if_pos e2, hrb, if_neg (fun e => hab e.symm)]
      · rw [if_neg e2, u.idem j hj, if_neg e2]
    · rw [hs] at hn ⊢
      by_cases e : j = a
      · subst e
        rw [if_pos rfl, hrb, if_neg (fun e => hab e.symm), if_pos hra]
        omega
      · rw [if_neg e] at hn
        rw [if_neg e, u.root j hj]
        have := u.dec j hj hn
        split <;> omega

/-- the program's groups and the document's are the same -/
structure Rel (ids : List Int) (R : Nat → Nat) (L : Int → Int) : Prop where
  same : ∀ i j, i < ids.length → j < ids.length → (R i = R j ↔ L (idAt ids i) = L (idAt ids j))
  cls : ∀ x, x ∈ ids → L x ∈ ids ∧ L (L x) = L x
  le : ∀ x, x ∈ ids → L x ≤ x
theorem Rel.start (ids : List Int) (hnd : ids.Nodup) : Rel ids id id :=
  ⟨fun i j hi hj => ⟨fun e => by rw [show i = j from e], fun e => idAt_inj hnd hi hj e⟩, fun x hx => ⟨hx, rfl⟩, fun x hx => Int.le_refl _⟩
def joinL (L : Int → Int) (a b : Int) : Int → Int := fun z => if L z = max (L a) (L b) then min (L a) (L b) else L z
theorem Rel.join {ids : List Int} {R : Nat → Nat} {L : Int → Int} (r : Rel ids R L) {n : Nat} (hn : n = ids.length) (hid : ∀ i, i < n → R (R i) = R i ∧ R i < n) {i k : Nat} (hi : i < n) (hk : k < n) :
    Rel ids (joinR R (R i) (R k)) (joinL L (idAt ids i) (idAt ids k)) := by
  subst hn
  have hci := r.cls _ (idAt_mem hi)
  have hck := r.cls _ (idAt_mem hk)
  obtain ⟨la, hla⟩ : ∃ la, la = L (idAt ids i) := ⟨_, rfl⟩
  obtain ⟨lb, hlb⟩ : ∃ lb, lb = L (idAt ids k) := ⟨_, rfl⟩
  have hL : ∀ z, joinL L (idAt ids i) (idAt ids k) z = if L z = la ∨ L z = lb then min la lb else L z := by
    intro z
    unfold joinL
    rw [← hla, ← hlb]
    by_cases h1 : L z = la
    · by_cases h2 : L z = lb
      · rw [if_pos (by omega), if_pos (.inl h1)]
      · by_cases h3 : la ≤ lb
        · rw [if_neg (by omega), if_pos (.inl h1)]; omega
        · rw [if_pos (by omega), if_pos (.inl h1)]
    · by_cases h2 : L z = lb
      · by_cases h3 : la ≤ lb
        · rw [if_pos (by omega), if_pos (.inr h2)]
        · rw [if_neg (by omega), if_pos (.inr h2)]; omega
      · rw [if_neg (by omega), if_neg (by omega)]
  refine ⟨fun a b ha hb => ?_, fun x hx => ?_, fun x hx => ?_⟩
  · have e1 := r.same a i ha hi
    have e2 := r.same a k ha hk
    have e3 := r.same b i hb hi
    have e4 := r.same b k hb hk
    have e5 := r.same a b ha hb
    have e6 := r.same i k hi hk
    rw [hL, hL]
    rw [← hla] at e1 e3 e6
    rw [← hlb] at e2 e4 e6
    unfold joinR
    by_cases c1 : R a = R i
    · by_cases c3 : R b = R i
      · rw [if_pos c1, if_pos c3, if_pos (.inl (e1.1 c1)), if_pos (.inl (e3.1 c3))]; simp
      · rw [if_pos c1, if_neg c3, if_pos (.inl (e1.1 c1))]
        have n3 : ¬ L (idAt ids b) = la := fun e => c3 (e3.2 e)
        by_cases c4 : R b = R k
        · rw [if_pos (.inr (e4.1 c4))]; simp [c4]
        · have n4 : ¬ L (idAt ids b) = lb := fun e => c4 (e4.2 e)
          rw [if_neg (by omega)]
          constructor
          · intro e; exact absurd e.symm c4
          · intro e; omega
    · have n1 : ¬ L (idAt ids a) = la := fun e => c1 (e1.2 e)
      by_cases c3 : R b = R i
      · rw [if_neg c1, if_pos c3, if_pos (c := L (idAt ids b) = la ∨ L (idAt ids b) = lb) (.inl (e3.1 c3))]
        by_cases c2 : R a = R k
        · rw [if_pos (.inr (e2.1 c2))]; simp [c2]
        · have n2 : ¬ L (idAt ids a) = lb := fun e => c2 (e2.2 e)
          rw [if_neg (by omega)]
          constructor
          · intro e; exact absurd e c2
          · intro e; omega
      · have n3 : ¬ L (idAt ids b) = la := fun e => c3 (e3.2 e)
        rw [if_neg c1, if_neg c3]
        by_cases c2 : R a = R k
        · have d2 := e2.1 c2
          rw [if_pos (.inr d2)]
          by_cases c4 : R b = R k
          · rw [if_pos (.inr (e4.1 c4))]; simp [c2, c4]
          · have n4 : ¬ L (idAt ids b) = lb := fun e => c4 (e4.2 e)
            rw [if_neg (by omega)]
            constructor
            · intro e; exact absurd (e.symm.trans c2) c4
            · intro e; omega
        · have n2 : ¬ L (idAt ids a) = lb := fun e => c2 (e2.2 e)
          rw [if_neg (c := L (idAt ids a) = la ∨ L (idAt ids a) = lb) (by omega)]
          by_cases c4 : R b = R k
          · rw [if_pos (.inr (e4.1 c4))]
            constructor
            · intro e; exact absurd (e.trans c4) c2
            · intro e; omega
          · have n4 : ¬ L (idAt ids b) = lb := fun e => c4 (e4.2 e)
            rw [if_neg (by omega)]
            exact e5
  · rw [hL]
    rw [← hla] at hci
    rw [← hlb] at hck
    by_cases h : L x = la ∨ L x = lb
    · rw [if_pos h]
      refine ⟨?_, ?_⟩
      · rcases Int.le_total la lb with h1 | h1
        · rw [Int.min_eq_left h1]; exact hci.1
        · rw [Int.min_eq_right h1]; exact hck.1
      · rw [hL, if_pos ?_]
        rcases Int.le_total la lb with h1 | h1
        · rw [Int.min_eq_left h1]; exact .inl hci.2
        · rw [Int.min_eq_right h1]; exact .inr hck.2
    · rw [if_neg h]
      have := r.cls x hx
      exact ⟨this.1, by rw [hL, this.2, if_neg h]⟩
  · rw [hL]
    have := r.le x hx
    split
    · omega
    · exact this

/-- the document's groups: S rising, of each its least -/
def refGroups (S : List Int) (L : Int → Int) (least : Int) : List (List Int) := ((S.filter fun x => L x = x).map fun x => S.filter fun y => L y = x).filter fun l => least ≤ (l.length : Int)
/-- the members of the group that r stands for -/
def memR (ids : List Int) (R : Nat → Nat) (r : Nat) : List Int := ((List.range ids.length).filter fun i => R i = r).map (idAt ids)
theorem memR_mem {ids : List Int} {R : Nat → Nat} {r : Nat} {x : Int} : x ∈ memR ids R r ↔ ∃ i, i < ids.length ∧ R i = r ∧ idAt ids i = x := by
  simp [memR, and_assoc]
theorem rising_nodup {l : List Int} (h : l.Pairwise (· < ·)) : l.Nodup := h.imp fun h => by omega
theorem rising_eq {l m : List Int} (h : l.Pairwise (· < ·)) (h' : m.Pairwise (· < ·)) (hm : ∀ x, x ∈ l ↔ x ∈ m) : l = m :=
  List.Perm.eq_of_pairwise (le := (· < ·)) (fun a b _ _ h1 h2 => by omega) h h' ((List.perm_ext_iff_of_nodup (rising_nodup h) (rising_nodup h')).2 hm)
theorem rising_min {l : List Int} (h : l.Pairwise (· < ·)) {x : Int} (hx : x ∈ l) : ∃ a r, l = a :: r ∧ a ≤ x := by
  cases l with
  | nil => cases hx
  | cons a r =>
    refine ⟨a, r, rfl, ?_⟩
    rcases List.mem_cons.1 hx with rfl | hx
    · exact Int.le_refl _
    · exact Int.le_of_lt ((List.pairwise_cons.1 h).1 x hx)
/-- the program's groups, each in order, the list in whatever order of the heads: the document's -/
theorem groups_eq {ids S : List Int} {R : Nat → Nat} {L : Int → Int} {least : Int} (r : Rel ids R L) (hid : ∀ i, i < ids.length → R (R i) = R i ∧ R i < ids.length) (hS : S.Pairwise (· < ·)) (hm : ∀ x, x ∈ S ↔ x ∈ ids)
    (sort : Nat → List Int) (hs1 : ∀ k, k < ids.length → (sort k).Pairwise (· < ·)) (hs2 : ∀ k x, k < ids.length → (x ∈ sort k ↔ x ∈ memR ids R k))
    (G : List (List Int)) (hG : G.Perm (((List.range ids.length).map sort).filter fun l => 0 < l.length ∧ least ≤ (l.length : Int))) (hord : G.Pairwise (fun a b => a.headD 0 < b.headD 0)) : G = refGroups S L least := by
  -- a group is told by its head
  have hgrp : ∀ g ∈ G, L (g.headD 0) = g.headD 0 ∧ g.headD 0 ∈ S ∧ g = (S.filter fun y => L y = g.headD 0) ∧ least ≤ (g.length : Int) := by
    intro g hg
    have := (hG.mem_iff.1 hg)
    rw [List.mem_filter] at this
    obtain ⟨hg1, hg2⟩ := this
    simp only [Bool.decide_and, Bool.and_eq_true, decide_eq_true_eq] at hg2
    obtain ⟨k, hk, rfl⟩ := List.mem_map.1 hg1
    have hk : k < ids.length := List.mem_range.1 hk
    obtain ⟨a, hga⟩ := List.exists_mem_of_length_pos hg2.1
    have ha := hga
    rw [hs2 k a hk, memR_mem] at ha
    obtain ⟨i, hi, hri, rfl⟩ := ha
    have hmem : ∀ x, x ∈ sort k ↔ x ∈ S ∧ L x = L (idAt ids i) := by
      intro x
      rw [hs2 k x hk, memR_mem, hm]
      constructor
      · rintro ⟨j, hj, hrj, rfl⟩
        exact ⟨idAt_mem hj, (r.same j i hj hi).1 (hrj.trans hri.symm)⟩
      · rintro ⟨hx, he⟩
        obtain ⟨j, hj, rfl⟩ := idAt_of_mem hx
        exact ⟨j, hj, ((r.same j i hj hi).2 he).trans hri, rfl⟩
    have hc := r.cls _ (idAt_mem hi)
    have hLin : L (idAt ids i) ∈ sort k := (hmem _).2 ⟨(hm _).2 hc.1, hc.2⟩
    obtain ⟨a, q, hq, hle⟩ := rising_min (hs1 k hk) hLin
    have haS := (hmem a).1 (by rw [hq]; exact List.mem_cons_self)
    have hla := r.le a ((hm a).1 haS.1)
    have hhd : (sort k).headD 0 = L (idAt ids i) := by rw [hq]; simp only [List.headD_cons]; omega
    rw [hhd]
    refine ⟨hc.2, (hm _).2 hc.1, ?_, hg2.2⟩
    refine rising_eq (hs1 k hk) (hS.filter _) fun x => ?_
    rw [hmem, List.mem_filter]
    simp
  have hback : ∀ x, x ∈ S → L x = x → least ≤ ((S.filter fun y => L y = x).length : Int) → (S.filter fun y => L y = x) ∈ G := by
    intro x hx hLx hle
    obtain ⟨i, hi, rfl⟩ := idAt_of_mem ((hm x).1 hx)
    obtain ⟨hri, hrl⟩ := hid i hi
    have he : sort (R i) = S.filter fun y => L y = idAt ids i := by
      refine rising_eq (hs1 _ hrl) (hS.filter _) fun y => ?_
      rw [hs2 _ y hrl, memR_mem, List.mem_filter]
      simp only [decide_eq_true_eq, hm]
      constructor
      · rintro ⟨j, hj, hrj, rfl⟩
        exact ⟨idAt_mem hj, ((r.same j i hj hi).1 hrj).trans hLx⟩
      · rintro ⟨hy, hLy⟩
        obtain ⟨j, hj, rfl⟩ := idAt_of_mem hy
        exact ⟨j, hj, (r.same j i hj hi).2 (hLy.trans hLx.symm), rfl⟩
    rw [hG.mem_iff, List.mem_filter]
    refine ⟨List.mem_map.2 ⟨R i, List.mem_range.2 hrl, he⟩, ?_⟩
    simp only [Bool.decide_and, Bool.and_eq_true, decide_eq_true_eq]
    exact ⟨List.length_pos_of_mem (List.mem_filter.2 ⟨hx, by simpa using hLx⟩), hle⟩
  -- the heads
  obtain ⟨H, hH⟩ : ∃ H, H = (S.filter fun x => L x = x).filter fun x => least ≤ ((S.filter fun y => L y = x).length : Int) := ⟨_, rfl⟩
  have href : refGroups S L least = H.map fun x => S.filter fun y => L y = x := by
    rw [hH]; unfold refGroups
    rw [List.filter_map]
    rfl
  have hheads : G.map (·.headD 0) = H := by
    refine rising_eq (List.pairwise_map.2 hord) (by rw [hH]; exact (hS.filter _).filter _) fun x => ?_
    rw [hH, List.mem_filter, List.mem_filter, List.mem_map]
    simp only [decide_eq_true_eq]
    constructor
    · rintro ⟨g, hg, rfl⟩
      obtain ⟨h1, h2, h3, h4⟩ := hgrp g hg
      exact ⟨⟨h2, h1⟩, by rw [← h3]; exact h4⟩
    · rintro ⟨⟨hx, hLx⟩, hle⟩
      refine ⟨_, hback x hx hLx hle, ?_⟩
      have hxm : x ∈ S.filter fun y => L y = x := List.mem_filter.2 ⟨hx, by simpa using hLx⟩
      obtain ⟨a, q, hq, hax⟩ := rising_min (hS.filter _) hxm
      have ham := List.mem_filter.1 (show a ∈ S.filter fun y => L y = x by rw [hq]; exact List.mem_cons_self)
      simp only [decide_eq_true_eq] at ham
      have := r.le a ((hm a).1 ham.1)
      rw [hq]
      simp only [List.headD_cons]
      omega
  rw [href, ← hheads, List.map_map]
  conv => lhs; rw [← List.map_id G]
  refine List.map_congr_left fun g hg => ?_
  exact (hgrp g hg).2.2.1
end Go.Proofs.Ytgohdcegplbkjaa
