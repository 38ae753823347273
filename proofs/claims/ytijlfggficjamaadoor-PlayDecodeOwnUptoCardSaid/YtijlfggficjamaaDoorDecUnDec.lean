/- The contract of kindredref26.UnDec. -/
import Derived.Test.YtijlfggficjamaaDoorDecNum
import Derived.Test.YtijlfggficjamaaDoorDecWords2
namespace Go.Proofs.YtijlfggficjamaaDoor
set_option linter.unusedVariables false
set_option linter.unusedSimpArgs false
open Go Go.RowKit
open Go.Lib (hid)

/-- what UnDec answers -/
def UnPost (L : List UInt8) (w : World) (e : Ending) (w' : World) : Prop :=
  (∃ x, e = .returned (.tuple #[.int .i64 x, .bool (undecS L).isSome]) ∧ (∀ v, undecS L = some v → x = v)) ∧ Below w.heap.size w w'
theorem list_get (s : ByteArray) (k : Nat) (h : k < s.size) : s.data.toList[k]? = some s[k] := by
  rw [List.getElem?_eq_getElem (by rw [size_list]; exact h)]; rfl
theorem unpost_no {L : List UInt8} {w w' : World} {e : Ending} (h : undecS L = none) (he : e = .returned (.tuple #[.int .i64 0, .bool false])) (hb : Below w.heap.size w w') : UnPost L w e w' := by
  refine ⟨⟨0, by rw [h]; exact he, fun v hv => ?_⟩, hb⟩
  rw [h] at hv; cases hv
theorem unpost_fin {L : List UInt8} {w w' : World} {e : Ending} {n : Int} (hn : n = wrap64 (sgn L * (valF 0 (numBody L) : Int))) (he : e = .returned (.tuple #[.int .i64 n, .bool (decide (Lib.itoa n = L))])) (hb : Below w.heap.size w w') : UnPost L w e w' := by
  have h := undec_fin L n hn
  by_cases hc : Lib.itoa n = L
  · rw [if_pos hc] at h
    exact ⟨⟨n, by rw [h, he]; simp [hc], fun v hv => by rw [h] at hv; cases hv; rfl⟩, hb⟩
  · rw [if_neg hc] at h
    exact ⟨⟨n, by rw [h, he]; simp [hc], fun v hv => by rw [h] at hv; cases hv⟩, hb⟩

set_option maxRecDepth 100000 in
set_option maxHeartbeats 1000000 in
theorem unDec_neg (s : ByteArray) (L : List UInt8) (hL : L = s.data.toList) (w : World) (hs : s.size ≤ 1000000000) (ht : Tab w) (hsg : L.head? = some 45) :
    Calls Tryd.prog 49 #[.string s] w (UnPost L w) := by
  have hLs : L.length = s.size := by rw [hL]; exact size_list s
  have h0 : 0 < s.size := by
    rcases Nat.eq_zero_or_pos s.size with h | h
    · have : L = [] := List.length_eq_zero_iff.1 (by rw [hLs]; exact h)
      rw [this] at hsg; simp at hsg
    · exact h
  have h45 : ((s[0].toNat : Int) == 45) = true := by
    have : L[0]? = some s[0] := by rw [hL]; exact list_get s 0 h0
    rw [← List.head?_eq_getElem?, hsg] at this
    have e : s[0] = 45 := (Option.some.inj this).symm
    rw [e]; rfl
  have HBody : Hid (numBody L = L.drop 1) := hid (by unfold numBody; rw [if_pos hsg, List.drop_one])
  have HSgn : Hid (sgn L = -1) := hid (by unfold sgn; rw [if_pos hsg])
  have HT := hid ht; have HL := hid hL; have HLS := hid hLs
  clear ht hL hLs hsg
  by_cases hz : s.size = 1
  · have HF : Hid (undecS L = none) := hid (by
      cases h : undecS L with
      | none => rfl
      | some v =>
        exfalso
        have h2 := (undec_body h).2.1
        rw [HBody.out] at h2
        exact h2 (by rw [List.drop_eq_nil_iff]; have := HLS.out; omega))
    have hz1 : ((s.size : Int) == 1) = true := by simp [hz]
    have hz2 : (0 : Int) < (s.size : Int) := by omega
    have HZ := hid hz
    clear hz
    go_enter Tryd.func49, Tryd.ntmps49
    go_wp2_with fail
    go_ret2
    exact unpost_no HF.out rfl (Below.refl _ _)
  · have hz0 : 1 < s.size := by omega
    have hz1 : ((s.size : Int) == 1) = false := beq_eq_false_iff_ne.2 (by omega)
    have hz2 : (0 : Int) < (s.size : Int) := by omega
    clear hz
    by_cases hg : 20 < s.size
    · have hg1 : (20 : Int) < (s.size : Int) := by omega
      have HF : Hid (undecS L = none) := hid (by
        cases h : undecS L with
        | none => rfl
        | some v =>
          exfalso
          have h2 := (undec_body h).2.2.1
          rw [HBody.out, List.length_drop] at h2
          have := HLS.out; omega)
      go_enter Tryd.func49, Tryd.ntmps49
      go_wp2_with fail
      go_ret2
      exact unpost_no HF.out rfl (Below.refl _ _)
    · have hg1 : (s.size : Int) ≤ 20 := by omega
      go_enter Tryd.func49, Tryd.ntmps49
      go_wp2_with fail
      go_loopw [5, 6] (fun u i wr => ∃ (k : Nat) (x : Int), 1 ≤ k ∧ k ≤ s.size ∧ i = .int .i64 k ∧ u = .int .i64 x ∧ -9223372036854775808 ≤ x ∧ x ≤ 9223372036854775807 ∧ Hid (x = wrap64 ((-1) * (valF 0 ((L.drop 1).take (k - 1)) : Int))) ∧ w = wr) (fun _ i _ => s.size - (intOf i).toNat)
      case atStart => exact ⟨1, 0, Nat.le_refl _, by omega, by first | rfl | go_num, rfl, by omega, by omega, hid (by simp [valF, wrap64]), rfl⟩
      case round =>
        obtain ⟨k, x, hk1, hk, rfl, rfl, hx1, hx2, hX, rfl⟩ := hrel
        by_cases hlt : k < s.size
        · have h256 : (s[k].toNat : Int) < 256 := by have := s[k].toNat_lt; omega
          have HLk : Hid (L[k]? = some s[k]) := hid (by rw [HL.out]; exact list_get s k hlt)
          have HMem : Hid (s[k] ∈ numBody L) := hid (by
            rw [HBody.out]
            refine List.mem_of_getElem? (i := k - 1) ?_
            rw [List.getElem?_drop, show 1 + (k - 1) = k by omega]
            exact HLk.out)
          have HNo : Hid (¬ (48 ≤ s[k].toNat ∧ s[k].toNat ≤ 57) → undecS L = none) := hid (fun hh => by
            cases h : undecS L with
            | none => rfl
            | some v => exact absurd ((undec_body h).1 _ HMem.out) hh)
          by_cases c1 : (s[k].toNat : Int) < 48
          · have HF : Hid (undecS L = none) := hid (HNo.out (by omega))
            go_wp2_with fail
            go_ret2
            exact unpost_no HF.out rfl (Below.refl _ _)
          · have c1' : (48 : Int) ≤ (s[k].toNat : Int) := by omega
            clear c1
            by_cases c2 : (57 : Int) < (s[k].toNat : Int)
            · have HF : Hid (undecS L = none) := hid (HNo.out (by omega))
              go_wp2_with fail
              go_ret2
              exact unpost_no HF.out rfl (Below.refl _ _)
            · have c2' : (s[k].toNat : Int) ≤ 57 := by omega
              clear c2
              have HSt : Hid (valF 0 ((L.drop 1).take (k + 1 - 1)) = valF 0 ((L.drop 1).take (k - 1)) * 10 + (s[k].toNat - 48)) := hid (by
                have e : (L.drop 1).take (k + 1 - 1) = (L.drop 1).take (k - 1) ++ [s[k]] := by
                  rw [show k + 1 - 1 = (k - 1) + 1 by omega, List.take_add_one, List.getElem?_drop, show 1 + (k - 1) = k by omega, HLk.out]; rfl
                rw [e, val_snoc]; rfl)
              go_wp2_with fail
              refine ⟨⟨k + 1, _, by omega, by omega, by go_num, rfl, ?_, ?_, hid ?_, by trivial⟩, by simp [intOf]; omega⟩
              · exact (wrap64_rng _).1
              · exact (wrap64_rng _).2
              · rw [HSt.out, hX.out, wrap_step']; congr 1; omega
        · have hke : k = s.size := by omega
          have HN : Hid (x = wrap64 (sgn L * (valF 0 (numBody L) : Int))) := hid (by
            rw [hX.out, HSgn.out, HBody.out, List.take_of_length_le (by rw [List.length_drop]; have := HLS.out; omega)])
          clear hke
          go_wp2_with (go_at_call 35; refine (itoa_c x _ hx1 hx2 HT.out).mono ?_)
          rintro e w1 ⟨rfl, hb1⟩
          go_wp2_with fail
          go_ret2
          refine unpost_fin HN.out ?_ hb1
          exact congrArg (fun b => Ending.returned (.tuple #[.int .i64 x, .bool b])) (by rw [HL.out, ByteArray.toList_eq, Bool.eq_iff_iff]; simp)
set_option maxRecDepth 100000 in
set_option maxHeartbeats 1000000 in
theorem unDec_pos (s : ByteArray) (L : List UInt8) (hL : L = s.data.toList) (w : World) (hs : s.size ≤ 1000000000) (ht : Tab w) (hsg : L.head? ≠ some 45) :
    Calls Tryd.prog 49 #[.string s] w (UnPost L w) := by
  have hLs : L.length = s.size := by rw [hL]; exact size_list s
  have h45 : ∀ h : 0 < s.size, ((s[0].toNat : Int) == 45) = false := fun h => by
    have e : L[0]? = some s[0] := by rw [hL]; exact list_get s 0 h
    rw [← List.head?_eq_getElem?] at e
    have : s[0] ≠ 45 := fun h' => hsg (by rw [e, h'])
    have h2 : s[0].toNat ≠ 45 := fun h' => this (UInt8.toNat_inj.1 h')
    simp; omega
  have HBody : Hid (numBody L = L.drop 0) := hid (by unfold numBody; rw [if_neg hsg, List.drop_zero])
  have HSgn : Hid (sgn L = 1) := hid (by unfold sgn; rw [if_neg hsg])
  have HT := hid ht; have HL := hid hL; have HLS := hid hLs
  clear ht hL hLs hsg
  by_cases hz : s.size = 0
  · have HF : Hid (undecS L = none) := hid (by
      cases h : undecS L with
      | none => rfl
      | some v =>
        exfalso
        have h2 := (undec_body h).2.1
        rw [HBody.out] at h2
        exact h2 (by rw [List.drop_eq_nil_iff]; have := HLS.out; omega))
    have hz1 : ((s.size : Int) == 0) = true := by simp [hz]
    have hz2 : ¬ (0 : Int) < (s.size : Int) := by omega
    have hz3 : decide ((0 : Int) < (s.size : Int)) = false := decide_eq_false (by omega)
    have HZ := hid hz
    clear hz
    go_enter Tryd.func49, Tryd.ntmps49
    go_wp2_with fail
    go_ret2
    exact unpost_no HF.out rfl (Below.refl _ _)
  · have hz0 : 0 < s.size := by omega
    have hz1 : ((s.size : Int) == 0) = false := beq_eq_false_iff_ne.2 (by omega)
    have hz2 : (0 : Int) < (s.size : Int) := by omega
    have h45' := h45 hz0
    clear h45
    clear hz
    by_cases hg : 19 < s.size
    · have hg1 : (19 : Int) < (s.size : Int) := by omega
      have HF : Hid (undecS L = none) := hid (by
        cases h : undecS L with
        | none => rfl
        | some v =>
          exfalso
          have h2 := (undec_body h).2.2.1
          rw [HBody.out, List.length_drop] at h2
          have := HLS.out; omega)
      go_enter Tryd.func49, Tryd.ntmps49
      go_wp2_with fail
      go_ret2
      exact unpost_no HF.out rfl (Below.refl _ _)
    · have hg1 : (s.size : Int) ≤ 19 := by omega
      go_enter Tryd.func49, Tryd.ntmps49
      go_wp2_with fail
      go_loopw [5, 6] (fun u i wr => ∃ (k : Nat) (x : Int), 0 ≤ k ∧ k ≤ s.size ∧ i = .int .i64 k ∧ u = .int .i64 x ∧ -9223372036854775808 ≤ x ∧ x ≤ 9223372036854775807 ∧ Hid (x = wrap64 (1 * (valF 0 ((L.drop 0).take (k - 0)) : Int))) ∧ w = wr) (fun _ i _ => s.size - (intOf i).toNat)
      case atStart => exact ⟨0, 0, Nat.le_refl _, by omega, by first | rfl | go_num, rfl, by omega, by omega, hid (by simp [valF, wrap64]), rfl⟩
      case round =>
        obtain ⟨k, x, hk1, hk, rfl, rfl, hx1, hx2, hX, rfl⟩ := hrel
        by_cases hlt : k < s.size
        · have h256 : (s[k].toNat : Int) < 256 := by have := s[k].toNat_lt; omega
          have HLk : Hid (L[k]? = some s[k]) := hid (by rw [HL.out]; exact list_get s k hlt)
          have HMem : Hid (s[k] ∈ numBody L) := hid (by
            rw [HBody.out]
            refine List.mem_of_getElem? (i := k - 0) ?_
            rw [List.getElem?_drop, show 0 + (k - 0) = k by omega]
            exact HLk.out)
          have HNo : Hid (¬ (48 ≤ s[k].toNat ∧ s[k].toNat ≤ 57) → undecS L = none) := hid (fun hh => by
            cases h : undecS L with
            | none => rfl
            | some v => exact absurd ((undec_body h).1 _ HMem.out) hh)
          by_cases c1 : (s[k].toNat : Int) < 48
          · have HF : Hid (undecS L = none) := hid (HNo.out (by omega))
            go_wp2_with fail
            go_ret2
            exact unpost_no HF.out rfl (Below.refl _ _)
          · have c1' : (48 : Int) ≤ (s[k].toNat : Int) := by omega
            clear c1
            by_cases c2 : (57 : Int) < (s[k].toNat : Int)
            · have HF : Hid (undecS L = none) := hid (HNo.out (by omega))
              go_wp2_with fail
              go_ret2
              exact unpost_no HF.out rfl (Below.refl _ _)
            · have c2' : (s[k].toNat : Int) ≤ 57 := by omega
              clear c2
              have HSt : Hid (valF 0 ((L.drop 0).take (k + 1 - 0)) = valF 0 ((L.drop 0).take (k - 0)) * 10 + (s[k].toNat - 48)) := hid (by
                have e : (L.drop 0).take (k + 1 - 0) = (L.drop 0).take (k - 0) ++ [s[k]] := by
                  rw [show k + 1 - 0 = (k - 0) + 1 by omega, List.take_add_one, List.getElem?_drop, show 0 + (k - 0) = k by omega, HLk.out]; rfl
                rw [e, val_snoc]; rfl)
              go_wp2_with fail
              refine ⟨⟨k + 1, _, by omega, by omega, by go_num, rfl, ?_, ?_, hid ?_, by trivial⟩, by simp [intOf]; omega⟩
              · exact (wrap64_rng _).1
              · exact (wrap64_rng _).2
              · rw [HSt.out, hX.out, wrap_step]; congr 1; omega
        · have hke : k = s.size := by omega
          have HN : Hid (x = wrap64 (sgn L * (valF 0 (numBody L) : Int))) := hid (by
            rw [hX.out, HSgn.out, HBody.out, List.take_of_length_le (by rw [List.length_drop]; have := HLS.out; omega)])
          clear hke
          go_wp2_with (go_at_call 35; refine (itoa_c x _ hx1 hx2 HT.out).mono ?_)
          rintro e w1 ⟨rfl, hb1⟩
          go_wp2_with fail
          go_ret2
          refine unpost_fin HN.out ?_ hb1
          exact congrArg (fun b => Ending.returned (.tuple #[.int .i64 x, .bool b])) (by rw [HL.out, ByteArray.toList_eq, Bool.eq_iff_iff]; simp)
theorem UnDec_c (s : ByteArray) (w : World) (hs : s.size ≤ 1000000000) (ht : Tab w) : Calls Tryd.prog 49 #[.string s] w (UnPost s.data.toList w) := by
  by_cases h : s.data.toList.head? = some 45
  · exact unDec_neg s _ rfl w hs ht h
  · exact unDec_pos s _ rfl w hs ht h
end Go.Proofs.YtijlfggficjamaaDoor
