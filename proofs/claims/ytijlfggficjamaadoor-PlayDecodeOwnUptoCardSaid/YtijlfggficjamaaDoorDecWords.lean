/- The contracts of play.words and kindredref26.Words. -/
import Derived.Test.YtijlfggficjamaaDoorDecUnesc2
namespace Go.Proofs.YtijlfggficjamaaDoor
set_option linter.unusedVariables false
set_option linter.unusedSimpArgs false
open Go Go.RowKit
open Go.Lib (hid)

/-- the library's variable holds some number -/
def MaxOk (w : World) : Prop := ∃ m, w.cell? ⟨1, 0, none⟩ = some (.int .i64 m)
theorem MaxOk.below {w w' : World} {B : Nat} (h : MaxOk w) (hb : Below B w w') (hB : w.heap.size ≤ B) : MaxOk w' := by
  obtain ⟨m, hm⟩ := h
  exact ⟨m, (hb.cell (Nat.lt_of_lt_of_le (World.block_lt_of_cell? w _ hm) hB)).trans hm⟩
theorem MaxOk.st {w0 w w' : World} {M : Frag} (h : MaxOk w0) (hS : St w0 w M) : MaxOk w := by
  obtain ⟨m, hm⟩ := h
  exact ⟨m, hS.old hm⟩
theorem split_c (s : ByteArray) (w : World) (hs : s.size < 4294967281) (hm : MaxOk w) :
    Calls Tryd.prog 44 #[.string s, .string ⟨#[32]⟩] w fun e w' => e = .returned (.slice (some ⟨w.heap.size, 0, none⟩) (splitAt' 32 s.data.toList).length (splitAt' 32 s.data.toList).length) ∧
      St w w' [(w.heap.size, .cells (LS (splitAt' 32 s.data.toList)).toArray 9 (0, 0))] := by
  obtain ⟨m, hm⟩ := hm
  have h1 := splitB_one 32 s
  have h2 := Lib.splitB_all ⟨#[32]⟩ (by decide) 0 _ s rfl
  have h3 : (splitAt' 32 s.data.toList).length = Lib.countB s ⟨#[32]⟩ + 1 := by rw [← h1, List.length_map, h2]
  have h4 : (Lib.splitB ⟨#[32]⟩ 0 (Lib.countB s ⟨#[32]⟩) s).map Value.string = LS (splitAt' 32 s.data.toList) := by
    rw [← h1, LS, List.map_map]
    apply List.map_congr_left
    intro x _
    simp only [Function.comp, S_data]
  refine (Tryd.strings_Split s ⟨#[32]⟩ m w hs hm (by decide)).mono fun e w' ⟨he, hw⟩ => ?_
  refine ⟨by rw [he, h3], ?_⟩
  rw [hw, h4]
  exact (St.refl w).alloc _
theorem unescaped_l (p r : List UInt8) (b : Bool) (h : unescR p = (r, b)) (w : World) (hs : p.length ≤ 1000000000000) :
    Calls Tryd.prog 45 #[.string (S p)] w fun e w' => e = .returned (.tuple #[.string (S r), .bool b]) ∧ Below w.heap.size w w' := by
  have := unescaped_c (S p) w (by rw [S_size]; exact hs)
  rw [S_list, h] at this
  exact this
theorem Unescape_l (p r : List UInt8) (b : Bool) (h : unescR p = (r, b)) (s : ByteArray) (hp : s.data.toList = p) (w : World) (hs : p.length ≤ 1000000000000) :
    Calls Tryd.prog 47 #[.string s] w fun e w' => e = .returned (.tuple #[.string (S r), .bool b]) ∧ Below w.heap.size w w' := by
  have := Unescape_c s w (by rw [← size_list, hp]; exact hs)
  rw [hp, h] at this
  exact this
/-- what the two readers of a line answer -/
def WordsPost (L : List UInt8) (w : World) (e : Ending) (w' : World) : Prop :=
  match wordsS L with
  | none => e = .returned (.tuple #[.slice none 0 0, .bool false]) ∧ St w w' []
  | some ws => ∃ v F, e = .returned (.tuple #[v, .bool true]) ∧ Rw 9 1 v ws.length (LS ws) F ∧ St w w' F
theorem wpost_no {L : List UInt8} {w w' : World} {e : Ending} (h : wordsS L = none) (he : e = .returned (.tuple #[.slice none 0 0, .bool false])) (hS : St w w' []) : WordsPost L w e w' := by
  unfold WordsPost; rw [h]; exact ⟨he, hS⟩
theorem wpost_ok {L : List UInt8} {ws : List (List UInt8)} {w w' : World} {e : Ending} {v : Value} {F : Frag} (h : wordsS L = some ws) (he : e = .returned (.tuple #[v, .bool true])) (hR : Rw 9 1 v ws.length (LS ws) F) (hS : St w w' F) : WordsPost L w e w' := by
  unfold WordsPost; rw [h]; exact ⟨v, F, he, hR, hS⟩
theorem LS_one (l : List (List UInt8)) (x : List UInt8) : LS l ++ [.string (S x)] = LS (l ++ [x]) := by simp [LS]
theorem LS_get (l : List (List UInt8)) (i : Nat) (h : i < l.length) : (LS l)[i]? = some (.string (S l[i])) := by simp [LS, h]

set_option maxRecDepth 100000 in
set_option maxHeartbeats 1000000 in
theorem words_c (s : ByteArray) (w : World) (hs : s.size ≤ 1000000000) (hm : MaxOk w) :
    Calls Tryd.prog 26 #[.string s] w (WordsPost s.data.toList w) := by
  obtain ⟨i0, hi, hz0, hz1, hz2⟩ := info_parts infoStr
  obtain ⟨P, hP⟩ : ∃ P, P = splitAt' 32 s.data.toList := ⟨_, rfl⟩
  have hPl : P.length ≤ s.size + 1 := by have := split_len 32 s.data.toList; rw [size_list] at this; rw [hP]; exact this
  have HPm : Hid (∀ (k : Nat) (h : k < P.length), P[k].length ≤ 1000000000) := hid (fun k h => by
    have := split_mem_len (c := 32) (l := s.data.toList) (p := P[k]) (by rw [← hP]; exact List.getElem_mem h)
    rw [size_list] at this; omega)
  have hsp := split_c s w (by omega) hm
  rw [← hP] at hsp
  have HSP := hid hsp
  have HP := hid hP
  clear hsp hP
  go_enter Tryd.func26, Tryd.ntmps26
  go_wp2_with fail
  refine HSP.out.mono ?_
  rintro e W1 ⟨rfl, hS1⟩
  obtain ⟨b, hb⟩ : ∃ b, b = w.heap.size := ⟨_, rfl⟩
  rw [← hb] at hS1 ⊢
  have HB := hid hb
  clear hb
  go_wp2_with fail
  go_loopw [4, 12] (fun v i wr => ∃ (k : Nat) (ws : List (List UInt8)) (F : Frag) (lv : Value), lv = v ∧ k ≤ P.length ∧ i = .int .i64 k ∧ Hid (wordsR (P.take k) = some ws) ∧ ws.length ≤ k ∧ Rw 9 1 lv ws.length (LS ws) F ∧ St w wr (F ++ [(b, .cells (LS P).toArray 9 (0, 0))])) (fun _ i _ => P.length - (intOf i).toNat)
  case atStart => exact ⟨0, [], [], _, rfl, Nat.zero_le _, rfl, hid rfl, Nat.le_refl _, Rw.nil _ _, hS1⟩
  case round =>
    clear hS1
    obtain ⟨k, ws, F, lv, rfl, hk, rfl, hW, hwl, hR, hS⟩ := hrel
    by_cases hlt : k < P.length
    · have hc := hS.cell (b := b) (List.mem_append_right _ List.mem_cons_self) k
      simp only [List.getElem?_toArray] at hc
      rw [LS_get P k hlt] at hc
      have hpl := HPm.out k hlt
      obtain ⟨p, hp⟩ : ∃ p, p = P[k] := ⟨_, rfl⟩
      rw [← hp] at hc hpl
      have HPk : Hid (P = P.take k ++ p :: P.drop (k + 1)) := hid (by
        rw [hp, ← List.drop_eq_getElem_cons hlt, List.take_append_drop])
      have HPk1 : Hid (P.take (k + 1) = P.take k ++ [p]) := hid (by rw [hp, List.take_succ_eq_append_getElem hlt])
      clear hp
      obtain ⟨r, q, hrq⟩ : ∃ r q, unescR p = (r, q) := ⟨_, _, rfl⟩
      have HRQ := hid hrq
      have HS := hid hS; have HR := hid hR
      clear hrq hS hR
      cases q with
      | false =>
        have HF : Hid (wordsS s.data.toList = none) := hid (by
          unfold wordsS
          rw [← HP.out, HPk.out]
          exact wordsR_fail (by unfold unescO; rw [HRQ.out]; rfl))
        go_wp2_with fail
        refine (unescaped_l p r false HRQ.out _ (by omega)).mono ?_
        rintro e w1 ⟨rfl, hb1⟩
        clear hc
        go_wp2_with fail
        go_ret2
        exact wpost_no HF.out rfl ((HS.out.callB hb1).toSt0)
      | true =>
        have HO : Hid (unescO p = some r) := hid (by unfold unescO; rw [HRQ.out]; rfl)
        go_wp2_with fail
        refine (unescaped_l p r true HRQ.out _ (by omega)).mono ?_
        rintro e w1 ⟨rfl, hb1⟩
        have HS1 := hid (HS.out.callB hb1)
        clear hc hb1
        go_wp2_with (at_builtin; refine append_st (by rfl) _ _ 28 (by rfl) 9 i0 (.string ⟨#[]⟩) 1 16 Tryd.underlying28 hi hz0 hz1 hz2 (by rfl) (by decide) lv ws.length (LS ws) F _ (by rfl) HR.out HS1.out 1 w1.heap.size [.string (S r)] (by rfl) (by rfl) (by rfl) (by intro u hu; simp at hu; subst hu; rfl) (by unfold maxLen; omega) (by omega) ?_)
        intro v' w2 F' hR' hS'
        rw [LS_one] at hR'
        have HR' := hid hR'; have HS' := hid hS'
        clear hR' hS'
        go_wp2_with fail
        exact ⟨⟨k + 1, ws ++ [r], F', _, rfl, by omega, by go_num, hid (by rw [HPk1.out]; exact wordsR_snoc hW.out HO.out), by simp; omega, by simpa using HR'.out, HS'.out⟩, by simp [intOf]; omega⟩
    · have HF : Hid (wordsS s.data.toList = some ws) := hid (by
        have := hW.out
        rw [List.take_of_length_le (by omega)] at this
        unfold wordsS; rw [← HP.out]; exact this)
      have HS := hid hS; have HR := hid hR
      clear hS hR
      go_wp2_with fail
      go_ret2
      exact wpost_ok HF.out rfl HR.out (HS.out.appL)

/-- the words ahead of 'from' have been read; there is no blank from there on up to i -/
def WordsAt (L : List UInt8) (a i : Nat) (ws : List (List UInt8)) : Prop :=
  (a ≤ i ∧ i ≤ L.length ∧ (∀ x ∈ (L.drop a).take (i - a), x ≠ 32) ∧ ∃ D, splitAt' 32 L = D ++ splitAt' 32 (L.drop a) ∧ wordsR D = some ws) ∨ (i = L.length + 1 ∧ wordsS L = some ws)
theorem wat_start (L : List UInt8) : WordsAt L 0 0 [] := .inl ⟨Nat.le_refl _, Nat.zero_le _, by simp, [], rfl, rfl⟩
theorem wat_le {L : List UInt8} {a i : Nat} {ws : List (List UInt8)} (h : WordsAt L a i ws) : i ≤ L.length + 1 := by
  rcases h with h | h
  · omega
  · omega
theorem wat_end {L : List UInt8} {a i : Nat} {ws : List (List UInt8)} (h : WordsAt L a i ws) (hi : L.length < i) : wordsS L = some ws := by
  rcases h with h | h
  · omega
  · exact h.2
theorem wat_a {L : List UInt8} {a i : Nat} {ws : List (List UInt8)} (h : WordsAt L a i ws) (hi : i ≤ L.length) : a ≤ i := by
  rcases h with h | h
  · exact h.1
  · omega
/-- a byte that is no blank -/
theorem wat_step {L : List UInt8} {a i : Nat} {ws : List (List UInt8)} (h : WordsAt L a i ws) (hi : i < L.length) (hc : L[i] ≠ 32) : WordsAt L a (i + 1) ws := by
  rcases h with ⟨h1, h2, h3, D, h4, h5⟩ | h
  · refine .inl ⟨by omega, hi, fun x hx => ?_, D, h4, h5⟩
    rw [show i + 1 - a = (i - a) + 1 by omega, List.take_succ_eq_append_getElem (by rw [List.length_drop]; omega)] at hx
    rcases List.mem_append.1 hx with hx | hx
    · exact h3 x hx
    · simp at hx
      subst hx
      simpa [show a + (i - a) = i by omega] using hc
  · omega
theorem wat_piece {L : List UInt8} {a i : Nat} (ha : a ≤ i) (hi : i ≤ L.length) : L.drop a = (L.drop a).take (i - a) ++ L.drop i := by
  have := List.take_append_drop (i - a) (L.drop a)
  rw [List.drop_drop, show a + (i - a) = i by omega] at this
  exact this.symm
theorem wat_split {L : List UInt8} {a i : Nat} {ws : List (List UInt8)} (h : WordsAt L a i ws) (hi : i ≤ L.length) (hc : ∀ h : i < L.length, L[i] = 32) :
    ∃ D, wordsR D = some ws ∧ splitAt' 32 L = D ++ (L.drop a).take (i - a) :: (if i < L.length then splitAt' 32 (L.drop (i + 1)) else []) := by
  rcases h with ⟨h1, h2, h3, D, h4, h5⟩ | h
  · refine ⟨D, h5, ?_⟩
    rw [h4]
    congr 1
    have hpc := wat_piece h1 hi
    obtain ⟨q, hq⟩ : ∃ q, q = (L.drop a).take (i - a) := ⟨_, rfl⟩
    rw [← hq] at hpc h3 ⊢
    rw [hpc]
    by_cases hl : i < L.length
    · rw [if_pos hl, List.drop_eq_getElem_cons hl, hc hl, split_pre 32 _ _ h3]
    · rw [if_neg hl, List.drop_eq_nil_of_le (by omega), List.append_nil, split_all 32 _ h3]
  · omega
theorem wat_no {L : List UInt8} {a i : Nat} {ws : List (List UInt8)} (h : WordsAt L a i ws) (hi : i ≤ L.length) (hc : ∀ h : i < L.length, L[i] = 32) (hp : unescO ((L.drop a).take (i - a)) = none) : wordsS L = none := by
  obtain ⟨D, h1, h2⟩ := wat_split h hi hc
  unfold wordsS
  rw [h2]
  exact wordsR_fail hp
theorem wat_yes {L : List UInt8} {a i : Nat} {ws : List (List UInt8)} {r : List UInt8} (h : WordsAt L a i ws) (hi : i ≤ L.length) (hc : ∀ h : i < L.length, L[i] = 32) (hp : unescO ((L.drop a).take (i - a)) = some r) :
    WordsAt L (i + 1) (i + 1) (ws ++ [r]) := by
  obtain ⟨D, h1, h2⟩ := wat_split h hi hc
  by_cases hl : i < L.length
  · rw [if_pos hl] at h2
    exact .inl ⟨Nat.le_refl _, hl, by simp, D ++ [(L.drop a).take (i - a)], by rw [h2]; simp, wordsR_snoc h1 hp⟩
  · rw [if_neg hl] at h2
    refine .inr ⟨by omega, ?_⟩
    unfold wordsS
    rw [h2]
    exact wordsR_snoc h1 hp
end Go.Proofs.YtijlfggficjamaaDoor
