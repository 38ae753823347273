/- Plain Lean: decimal numerals, as strconv.Atoi and the reference read them. -/
import Derived.Test.YtijlfggficjamaaDoorDecPlain
import Derived.IntWalk
namespace Go.Proofs.YtijlfggficjamaaDoor
set_option linter.unusedVariables false
set_option linter.unusedSimpArgs false
open Go Go.RowKit
open Go.Lib (hid)

def dgv (c : UInt8) : Nat := c.toNat - 48
def valF (a : Nat) (l : List UInt8) : Nat := l.foldl (fun a c => a * 10 + dgv c) a
def AllD (l : List UInt8) : Prop := ∀ c ∈ l, 48 ≤ c.toNat ∧ c.toNat ≤ 57
theorem val_snoc (a : Nat) (l : List UInt8) (c : UInt8) : valF a (l ++ [c]) = valF a l * 10 + dgv c := by simp [valF]
theorem val_cons (a : Nat) (l : List UInt8) (c : UInt8) : valF a (c :: l) = valF (a * 10 + dgv c) l := by unfold valF; rw [List.foldl_cons]
theorem digit_nat (d : Nat) (h : d < 10) : (UInt8.ofNat (48 + d)).toNat = 48 + d := by
  have e : (UInt8.ofNat (48 + d)).toNat = (48 + d) % 256 := UInt8.toNat_ofNat'
  rw [e]; omega
theorem dec_all (u : Nat) : AllD (Lib.decDigits u) := by
  induction u using Nat.strongRecOn with
  | ind u ih =>
    rw [Lib.decDigits]
    split
    · rename_i h
      intro c hc
      rw [List.mem_singleton] at hc; subst hc
      rw [digit_nat u h]; omega
    · rename_i h
      intro c hc
      rcases List.mem_append.1 hc with hc | hc
      · exact ih (u / 10) (by omega) c hc
      · rw [List.mem_singleton] at hc; subst hc
        rw [digit_nat (u % 10) (by omega)]; omega
theorem dec_val (u : Nat) : valF 0 (Lib.decDigits u) = u := by
  induction u using Nat.strongRecOn with
  | ind u ih =>
    rw [Lib.decDigits]
    split
    · rename_i h
      show 0 * 10 + dgv _ = u
      unfold dgv; rw [digit_nat u h]; omega
    · rename_i h
      rw [val_snoc, ih (u / 10) (by omega)]
      unfold dgv; rw [digit_nat (u % 10) (by omega)]; omega
theorem dec_ne (u : Nat) : Lib.decDigits u ≠ [] := by rw [Lib.decDigits]; split <;> simp
theorem val_ge : ∀ (l : List UInt8) (a : Nat), a ≤ valF a l
  | [], a => Nat.le_refl _
  | c :: r, a => by rw [val_cons]; have := val_ge r (a * 10 + dgv c); omega
theorem parse_uint : ∀ (l : List UInt8) (a : Nat), AllD l → valF a l < 18446744073709551616 → Lib.parseUint10 a l = .ok (valF a l)
  | [], a, _, _ => rfl
  | c :: r, a, h, hv => by
    have hc := h c List.mem_cons_self
    rw [val_cons] at hv ⊢
    have hg := val_ge r (a * 10 + dgv c)
    have hd : dgv c = c.toNat - 48 := rfl
    rw [hd] at hv hg ⊢
    rw [Lib.parseUint10, if_pos hc, if_neg (by omega), if_neg (by omega)]
    exact parse_uint r _ (fun x hx => h x (List.mem_cons_of_mem _ hx)) hv
theorem mag_dec (u : Nat) (h : u < 18446744073709551616) : Lib.parseMag (Lib.decDigits u) = .ok u := by
  unfold Lib.parseMag
  rw [if_neg (dec_ne u), parse_uint _ 0 (dec_all u) (by rw [dec_val]; exact h), dec_val]
theorem atoi_itoa (n : Int) (h0 : -9223372036854775808 ≤ n) (h1 : n ≤ 9223372036854775807) : Lib.atoiAll (Lib.itoa n) = .ok n := by
  unfold Lib.itoa
  split
  · rename_i hn
    unfold Lib.atoiAll
    simp only [show (45 : UInt8).toNat = 45 from rfl, or_true, if_true]
    rw [mag_dec _ (by omega)]
    simp only [not_true, false_and, if_false, true_and]
    rw [if_neg (by omega)]
    congr 1
    omega
  · rename_i hn
    cases hd : Lib.decDigits n.toNat with
    | nil => exact absurd hd (dec_ne _)
    | cons c r =>
      have hc := dec_all n.toNat c (by rw [hd]; exact List.mem_cons_self)
      unfold Lib.atoiAll
      simp only
      rw [if_neg (by omega), ← hd, mag_dec _ (by omega)]
      simp only
      rw [if_neg (by omega), if_neg (by omega), if_neg (by omega)]
      congr 1
      omega
theorem undec_itoa (n : Int) (h0 : -9223372036854775808 ≤ n) (h1 : n ≤ 9223372036854775807) : undecS (Lib.itoa n) = some n := by
  rw [undec_ok (atoi_itoa n h0 h1), if_pos rfl]
theorem undec_some {w : List UInt8} {v : Int} (h : undecS w = some v) : Lib.itoa v = w ∧ -9223372036854775808 ≤ v ∧ v ≤ 9223372036854775807 := by
  unfold undecS at h
  split at h
  · rename_i x hx
    split at h
    · rename_i he
      cases h
      refine ⟨he, ?_⟩
      cases w with
      | nil => cases hx
      | cons c r =>
        unfold Lib.atoiAll at hx
        simp only at hx
        split at hx
        · cases hx
        · cases hx
        · rename_i u hu
          by_cases c45 : c.toNat = 45
          · simp only [c45, not_true, false_and, if_false, true_and, if_true] at hx
            split at hx
            · cases hx
            · injection hx with hx; omega
          · simp only [c45, not_false_eq_true, true_and, if_false, false_and] at hx
            split at hx
            · cases hx
            · injection hx with hx; omega
    · cases h
  · cases h
/-- what stands behind the sign -/
def numBody (w : List UInt8) : List UInt8 := if w.head? = some 45 then w.tail else w
def sgn (w : List UInt8) : Int := if w.head? = some 45 then -1 else 1
theorem body_dec (v : Int) : numBody (Lib.itoa v) = Lib.decDigits v.natAbs ∧ sgn (Lib.itoa v) = (if v < 0 then -1 else 1) := by
  unfold Lib.itoa numBody sgn
  by_cases h : v < 0
  · simp only [h, if_true]
    simp
  · simp only [h, if_false]
    have hn : (Lib.decDigits v.toNat).head? ≠ some 45 := by
      intro e
      have hm := List.mem_of_mem_head? e
      have := dec_all v.toNat 45 hm
      simp at this
    rw [if_neg hn, if_neg hn]
    exact ⟨by congr 1; omega, rfl⟩
theorem undec_body {w : List UInt8} {v : Int} (h : undecS w = some v) : AllD (numBody w) ∧ numBody w ≠ [] ∧ (numBody w).length ≤ 19 ∧ sgn w * (valF 0 (numBody w) : Int) = v ∧ Lib.itoa v = w ∧ -9223372036854775808 ≤ v ∧ v ≤ 9223372036854775807 := by
  obtain ⟨rfl, h0, h1⟩ := undec_some h
  obtain ⟨e1, e2⟩ := body_dec v
  rw [e1, e2]
  refine ⟨dec_all _, dec_ne _, dec_len 18 _ (by omega), ?_, rfl, h0, h1⟩
  rw [dec_val]
  split <;> omega
theorem wrap64_rng (x : Int) : -9223372036854775808 ≤ wrap64 x ∧ wrap64 x ≤ 9223372036854775807 := by unfold wrap64; omega
/-- what the reference answers at the end of its loop -/
theorem undec_fin (w : List UInt8) (n : Int) (hn : n = wrap64 (sgn w * (valF 0 (numBody w) : Int))) : undecS w = if Lib.itoa n = w then some n else none := by
  have hr := wrap64_rng (sgn w * (valF 0 (numBody w) : Int))
  rw [← hn] at hr
  split
  · rename_i e
    conv => lhs; rw [← e]
    exact undec_itoa n hr.1 hr.2
  · rename_i e
    cases h : undecS w with
    | none => rfl
    | some v =>
      exfalso
      obtain ⟨_, _, _, h4, h5, h6, h7⟩ := undec_body h
      rw [h4, IntWalk.wrap64_in v ⟨h6, h7⟩] at hn
      exact e (hn ▸ h5)
theorem wrap_step (x d : Int) : wrap64 (wrap64 (wrap64 x * 10) + d) = wrap64 (x * 10 + d) := by unfold wrap64; omega
theorem wrap_step' (x d : Int) : wrap64 (wrap64 (wrap64 x * 10) - d) = wrap64 (x * 10 - d) := by unfold wrap64; omega
end Go.Proofs.YtijlfggficjamaaDoor
