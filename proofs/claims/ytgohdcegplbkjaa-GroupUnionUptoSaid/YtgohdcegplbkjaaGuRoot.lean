/- The program's unions: root. -/
import Derived.Test.YtgohdcegplbkjaaGuRef
import Derived.StillTailTactics
namespace Go.Proofs.Ytgohdcegplbkjaa
set_option linter.unusedVariables false
set_option linter.unusedSimpArgs false
open Go Go.RowKit
open Go.Lib (hid)

def nats (l : List Nat) : List Value := ints (l.map fun n : Nat => (n : Int))
theorem nats_set (l : List Nat) (j x : Nat) : (nats l).set j (.int .i64 x) = nats (l.set j x) := by simp [nats, ints, List.map_set]
theorem nats_at (l : List Nat) (j : Nat) (h : j < l.length) : (nats l)[j]? = some (.int .i64 (ovAt l j)) := by
  simp [nats, ints, ovAt, List.getD_eq_getElem?_getD, h]
def MapM (es : Array MapEntry) (ids : List Int) : Prop := es.toList.map (fun e => (e.key, e.val)) = ids.zipIdx.map (fun p => (Value.int .i64 p.1, Value.int .i64 (p.2 : Int)))
/-- the program's union -/
def ProgU (u : Value) (ids : List Int) (ov : List Nat) (F : Frag) : Prop :=
  ∃ bu idv ovv bm es clock Fi Fo, u = .pointer (some ⟨bu, 0, none⟩) ∧ F = Fo ++ (Fi ++ [(bu, .cells #[idv, .map (some bm), ovv] 44 (0, 0)), (bm, .map es clock)]) ∧ MapM es ids ∧ Rw 3 1 idv ids.length (ints ids) Fi ∧ Rw 3 1 ovv ids.length (nats ov) Fo

set_option maxRecDepth 100000 in
set_option maxHeartbeats 4000000 in
theorem root_c (W0 w : World) (R Fo : Frag) (bu : Nat) (ovv : Value) (n : Nat) (ov : List Nat) (Rf h : Nat → Nat) (hV : UInv n ov Rf h) (hR : Rw 3 1 ovv n (nats ov) Fo) (hS : St W0 w (Fo ++ R)) (hu : ∀ W G, St W0 W (G ++ R) → W.cell? ⟨bu, 2, none⟩ = some ovv) (i : Nat) (hi : i < n) (hn : n ≤ 100000000) :
    Calls Try.prog 16 #[.pointer (some ⟨bu, 0, none⟩), .int .i64 i] w fun e w' => ∃ ov' Fo', e = .returned (.int .i64 (Rf i)) ∧ UInv n ov' Rf h ∧ Rw 3 1 ovv n (nats ov') Fo' ∧ St W0 w' (Fo' ++ R) := by
  have HU := hid hu
  clear hu
  go_enter Try.func16, Try.ntmps16
  go_wp2_with fail
  go_loopw [1] (fun iv wr => ∃ (k : Nat) (ov : List Nat) (Fo : Frag), k < n ∧ iv = .int .i64 k ∧ Rf k = Rf i ∧ UInv n ov Rf h ∧ Rw 3 1 ovv n (nats ov) Fo ∧ St W0 wr (Fo ++ R)) (fun iv _ => h (intOf iv).toNat)
  case atStart => exact ⟨i, ov, Fo, hi, rfl, rfl, hV, hR, hS⟩
  case round =>
    obtain ⟨k, ov, Fo, hk, rfl, hri, hV, hR, hS⟩ := hrel
    have hol := hV.len
    have ho1 := hV.lt k hk
    have ho2 := hV.lt _ ho1
    obtain ⟨g, c, rfl, hc, hf, hw⟩ := hR.put hS k hk
    obtain ⟨g', c', e', hc2, hf2, _⟩ := hR.put hS (ovAt ov k) ho1
    cases e'
    rw [nats_at _ _ (by omega)] at hc hc2
    have q := HU.out _ _ hS
    by_cases he : ovAt ov k = k
    · have hrk := (hV.fix k hk).1 he
      have H := hid (And.intro hV (And.intro hR hS))
      rw [he] at hc
      have hrr : Rf i = k := by rw [← hri, hrk]
      have HRR := hid hrr
      clear hV hR hS hw hc2 hf2 hri hrk hrr
      go_wp2_with fail
      go_ret
      exact ⟨ov, Fo, by rw [HRR.out]; rfl, H.out.1, H.out.2.1, H.out.2.2⟩
    · have hne : ¬ ((ovAt ov k : Int) = (k : Int)) := by omega
      have hV' := hV.halve hk he
      have hlt : h (ovAt ov (ovAt ov k)) < h k := by
        have h1 := hV.dec k hk he
        by_cases e2 : ovAt ov (ovAt ov k) = ovAt ov k
        · rw [e2]; exact h1
        · exact Nat.lt_trans (hV.dec _ ho1 e2) h1
      have hrr : Rf (ovAt ov (ovAt ov k)) = Rf i := by rw [hV.root _ ho1, hV.root _ hk, hri]
      obtain ⟨x, hx⟩ : ∃ x, x = ovAt ov k := ⟨_, rfl⟩
      obtain ⟨y, hy⟩ : ∃ y, y = ovAt ov x := ⟨_, rfl⟩
      rw [← hx] at hc hc2 ho1 ho2 hV' hlt hrr hne
      rw [← hy] at hc2 ho2 hV' hlt hrr
      have HW := hid (fun m => (hw m (.int .i64 (y : Int))))
      have HV := hid hV'; have HRR := hid hrr; have HL := hid hlt
      clear hw hV hV' hR hS hrr hlt hx hy hri he hol
      go_wp2_with fail
      go_still_tail 19, (by kernel_rfl)
      change wpList _ _ _ _ _ wr.drew
      go_upto_region 3 with (fail)
      obtain ⟨F', hw1, hw2⟩ := HW.out 0
      rw [nats_set] at hw1
      refine (hw2.drew).nameC ?_
      clear hc hc2 hf hf2 q hw2
      intro W3 hS
      have q := HU.out _ _ hS
      obtain ⟨g', c', e', hc, _, _⟩ := hw1.put hS k hk
      cases e'
      have hl := HV.out.len
      rw [nats_at _ _ (by rw [hl]; exact hk), ovAt_set _ _ _ _ (by rw [List.length_set] at hl; omega), if_pos rfl] at hc
      have HS := hid hS; have HR1 := hid hw1
      clear hS hw1 hl
      go_wp2_with fail
      exact ⟨⟨y, _, F', ho2, rfl, HRR.out, HV.out, HR1.out, HS.out⟩, by simpa [intOf] using HL.out⟩
end Go.Proofs.Ytgohdcegplbkjaa
