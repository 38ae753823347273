/- The contract of play.Decode. -/
import Derived.Test.YtijlfggficjamaaDoorDecReadZ
namespace Go.Proofs.YtijlfggficjamaaDoor
set_option linter.unusedVariables false
set_option linter.unusedSimpArgs false
open Go Go.RowKit
open Go.Lib (hid)

/-- a text's first line and what follows -/
theorem cut_line (R : List UInt8) (hne : R ≠ []) : linesS R = (Lib.cut R [10]).1 :: linesS (Lib.cut R [10]).2.1 ∧ (Lib.cut R [10]).2.1.length < R.length ∧ (Lib.cut R [10]).1.length ≤ R.length := by
  unfold Lib.cut
  rw [Lib.index_one]
  by_cases hi : Lib.indexByte R 10 = -1
  · rw [hi, if_neg (by decide)]
    refine ⟨?_, by simpa using List.length_pos_iff.2 hne, Nat.le_refl _⟩
    rw [lines_nil]
    exact lines_last R (fun x hx e => by
      obtain ⟨j, hj⟩ := List.mem_iff_getElem?.1 hx
      exact Lib.indexByte_none hi j (by rw [hj, e])) hne
  · obtain ⟨i, hi'⟩ : ∃ i : Nat, Lib.indexByte R 10 = i := ⟨(Lib.indexByte R 10).toNat, by have := Lib.indexByte_ge R 10; omega⟩
    rw [hi', if_pos (by omega)]
    simp only [Int.toNat_natCast, List.length_cons, List.length_nil, Nat.zero_add]
    obtain ⟨h1, h2⟩ := Lib.indexByte_some hi'
    have hil : i < R.length := (List.getElem?_eq_some_iff.1 h1).1
    have hsp : R = R.take i ++ 10 :: R.drop (i + 1) := by
      have e : R[i] = 10 := (List.getElem?_eq_some_iff.1 h1).2
      rw [← e, ← List.drop_eq_getElem_cons hil, List.take_append_drop]
    have hp : ∀ x ∈ R.take i, x ≠ 10 := fun x hx e => by
      obtain ⟨j, hj⟩ := List.mem_iff_getElem?.1 hx
      have hji : j < i := by have := (List.getElem?_eq_some_iff.1 hj).1; rw [List.length_take] at this; omega
      rw [List.getElem?_take_of_lt hji] at hj
      exact h2 j hji (by rw [hj, e])
    refine ⟨?_, by rw [List.length_drop]; omega, by rw [List.length_take]; omega⟩
    conv => lhs; rw [hsp]
    exact lines_pre _ _ hp
theorem cut_c (R : List UInt8) (hne : R ≠ []) (w : World) (hs : R.length ≤ 1000000000) (hm : MaxOk w) :
    Calls Tryd.prog 25 #[.string (S R), .string ⟨#[10]⟩] w fun e w' => ∃ p q b, e = .returned (.tuple #[.string (S p), .string (S q), .bool b]) ∧ linesS R = p :: linesS q ∧ q.length < R.length ∧ p.length ≤ R.length ∧ ∃ n, w' = w.drewN n := by
  obtain ⟨m, hm⟩ := hm
  have h := Tryd.strings_Cut (S R) ⟨#[10]⟩ m w (by rw [S_size]; omega) hm
  rw [S_list, show (⟨#[10]⟩ : ByteArray).data.toList = [10] from rfl] at h
  obtain ⟨h1, h2, h3⟩ := cut_line R hne
  exact h.mono fun e w' ⟨he, hw⟩ => ⟨_, _, _, he, h1, h2, h3, hw⟩
def lenOf : Value → Nat
  | .string s => s.size
  | _ => 0

set_option maxRecDepth 100000 in
set_option maxHeartbeats 4000000 in
theorem playDecode_c (s : ByteArray) (w : World) (hs : s.size ≤ 900000000) (he : DEnv w) :
    Calls Tryd.prog 14 #[.string s] w (DecPost s.data.toList w) := by
  obtain ⟨i2, hi2, hx0, hx1, hx2⟩ := info_parts infoStep'
  obtain ⟨T, hT⟩ : ∃ T, T = s.data.toList := ⟨_, rfl⟩
  have hTs : T.length = s.size := by rw [hT]; exact size_list s
  have hsT : s = S T := by rw [hT, S_data]
  rw [← hT]
  subst hsT
  rw [S_size] at hs
  have HE := hid he
  clear he hT hTs
  go_enter Tryd.func14, Tryd.ntmps14
  go_wp2_with fail
  go_loopw [0, 5, 6] (fun t v i wr => ∃ (n : Nat) (R : List UInt8) (xs : List StepM) (L : List (List Value)) (F0 F1 : Frag) (sv : Value), sv = v ∧ t = .string (S R) ∧ i = .int .i64 n ∧ Hid (decS T = Dec.pre xs (decR n (linesS R))) ∧ xs.length + 1 ≤ n ∧ n + R.length ≤ T.length + 1 ∧ Rw 32 6 sv xs.length L.flatten F0 ∧ StepRows xs L F1 ∧ St w wr (F0 ++ F1)) (fun t _ _ _ => lenOf t)
  case atStart => exact ⟨1, T, [], [], [], [], _, rfl, rfl, rfl, hid (by rw [pre_nil]; rfl), Nat.le_refl _, by omega, Rw.nil _ _, rfl, St.refl w⟩
  case round =>
    obtain ⟨n, R, xs, L, F0, F1, sv, rfl, rfl, rfl, hW, hxl, hnR, hR, hQ, hS⟩ := hrel
    have HS : Hid (St w wr (F0 ++ (F1 ++ []))) := hid (by simpa using hS)
    have HR := hid hR; have HQ := hid hQ
    clear hS hR hQ
    by_cases hne : R = []
    · have HF : Hid (decS T = .ok xs) := hid (by rw [hW.out, hne, lines_nil]; simp [decR, Dec.pre])
      have hRe : R.isEmpty = true := by simp [hne]
      subst hne
      rw [show S ([] : List UInt8) = ⟨#[]⟩ from rfl]
      go_wp2_with fail
      go_ret3
      exact dpost_ok HF.out rfl ⟨L, F0, F1, rfl, HR.out, HQ.out⟩ (by simpa using HS.out)
    · have hRe : R.isEmpty = false := by simpa using hne
      have HNE := hid hne
      go_wp2_with fail
      refine (cut_c R HNE.out wr (by omega) (HE.out.st HS.out).max).mono ?_
      rintro e w1 ⟨p, q, cb, rfl, hlq, hql, hpl', nq, rfl⟩
      have HDk := hid hlq
      have HSq := hid (HS.out.drewN nq)
      clear hlq hne hRe
      have hpl : p.length ≤ 900000000 := by omega
      obtain ⟨wr', hwr⟩ : ∃ wr', wr' = wr.drewN nq := ⟨_, rfl⟩
      rw [← hwr] at HSq ⊢
      clear hwr HS
      have HS := HSq
      clear HSq
      by_cases h0 : p = []
      · have HSk : Hid (skip p = true) := hid (by rw [h0]; rfl)
        have HN : Hid (decS T = Dec.pre xs (decR (n + 1) (linesS q))) := hid (by rw [hW.out, HDk.out, decR_skip HSk.out])
        subst h0
        rw [show S ([] : List UInt8) = ⟨#[]⟩ from rfl]
        go_wp2_with fail
        exact ⟨⟨n + 1, q, xs, L, F0, F1, _, rfl, rfl, by go_num, HN, by omega, by omega, HR.out, HQ.out, by simpa using HS.out⟩, by simp [lenOf, S_size]; omega⟩
      · have hp0 : 0 < p.length := List.length_pos_iff.2 h0
        have hp0' : (0 : Int) < (p.length : Int) := by omega
        have hemp : p.isEmpty = false := by simpa using h0
        have hpS : 0 < (S p).size := by rw [S_size]; exact hp0
        have hp256 : ((S p)[0].toNat : Int) < 256 := by have := (S p)[0].toNat_lt; omega
        have hS0 : (S p)[0] = p[0] := by
          have h1 := list_get (S p) 0 hpS
          rw [S_list] at h1
          have h2 : p[0]? = some p[0] := List.getElem?_eq_getElem hp0
          exact Option.some.inj (h1.symm.trans h2)
        have HSK : Hid (skip p = (p[0].toNat == 35)) := hid (by
          cases p with
          | nil => exact absurd rfl h0
          | cons c r => rfl)
        have HS0 := hid hS0
        clear hS0
        by_cases h35 : (p[0].toNat : Int) = 35
        · have hh : (((S p)[0].toNat : Int) == 35) = true := by rw [HS0.out]; simp [h35]
          have HSk : Hid (skip p = true) := hid (by rw [HSK.out]; simp; omega)
          have HN : Hid (decS T = Dec.pre xs (decR (n + 1) (linesS q))) := hid (by rw [hW.out, HDk.out, decR_skip HSk.out])
          clear h35
          go_wp2_with fail
          exact ⟨⟨n + 1, q, xs, L, F0, F1, _, rfl, rfl, by go_num, HN, by omega, by omega, HR.out, HQ.out, by simpa using HS.out⟩, by simp [lenOf, S_size]; omega⟩
        · have hh : (((S p)[0].toNat : Int) == 35) = false := by rw [HS0.out]; simp [h35]
          have HSk : Hid (skip p = false) := hid (by rw [HSK.out]; simp; omega)
          clear h35
          have hwc := words_c (S p) wr' (by rw [S_size]; omega) (HE.out.st HS.out).max
          rw [S_list] at hwc
          have HWC := hid hwc
          clear hwc
          cases hws : wordsS p with
          | none =>
            have HF : Hid (decS T = .no n 32) := hid (by
              rw [hW.out, HDk.out, decR_no (e := 32) HSk.out (by unfold lineS; rw [hws])]; rfl)
            have HWS := hid hws
            clear hws
            go_wp2_with fail
            refine HWC.out.mono ?_
            intro e w1 hpost
            unfold WordsPost at hpost
            rw [HWS.out] at hpost
            obtain ⟨rfl, hSw⟩ := hpost
            have HS1 := hid ((HS.out.call hSw).toSt0)
            clear hSw
            go_wp2_with fail
            go_ret3
            exact dpost_no HF.out rfl HS1.out
          | some ws =>
            have hwl := words_len hws
            have hwm : ∀ x ∈ ws, x.length ≤ 900000000 := fun x hx => Nat.le_trans (words_mem_len hws hx) hpl
            obtain ⟨w0, rest, rfl⟩ : ∃ w0 rest, ws = w0 :: rest := by
              cases ws with
              | nil => exact absurd rfl (wordsS_ne hws)
              | cons a b => exact ⟨a, b, rfl⟩
            have hrl : rest.length ≤ 1000000000 := by simp at hwl; omega
            have HRm : Hid (∀ x ∈ rest, x.length ≤ 1000000000) := hid (fun x hx => Nat.le_trans (hwm x (List.mem_cons_of_mem _ hx)) (by decide))
            have HWS := hid hws
            clear hws hwl hwm
            go_wp2_with fail
            refine HWC.out.mono ?_
            intro e w1 hpost
            unfold WordsPost at hpost
            rw [HWS.out] at hpost
            obtain ⟨wv, Fw, rfl, hRw, hSw⟩ := hpost
            have HS1 := hid (HS.out.call hSw)
            have HRw := hid (hRw.rowOf (M := []) (by simpa using hSw))
            clear hSw hRw
            go_wp2_with fail
            refine (read_c _ wv w0 rest HRw.out hrl HRm.out (HE.out.st HS1.out)).mono ?_
            intro e w2 hpost
            unfold StepPost at hpost
            cases hrs : readS (w0 :: rest) with
            | no c =>
              rw [hrs] at hpost
              obtain ⟨rfl, hS2⟩ := hpost
              have HF : Hid (decS T = .no n c) := hid (by
                rw [hW.out, HDk.out, decR_no (e := c) HSk.out (by unfold lineS; rw [HWS.out]; exact hrs)]; rfl)
              have hcn : c ≠ 0 := read_no_ne hrs
              have hc0 : (c != 0) = true := bne_iff_ne.2 hcn
              have HS2 := hid ((HS1.out.call hS2).toSt0)
              clear hS2 hrs hcn
              unfold zStep
              go_wp2_with fail
              go_ret3
              exact dpost_no HF.out rfl (HS2.out.alloc _).tail
            | ok st =>
              rw [hrs] at hpost
              obtain ⟨vs, Fs, rfl, hF, hS2⟩ := hpost
              have HF : Hid (decS T = Dec.pre (xs ++ [st]) (decR (n + 1) (linesS q))) := hid (by
                rw [hW.out, HDk.out, decR_ok (s := st) HSk.out (by unfold lineS; rw [HWS.out]; exact hrs), pre_snoc])
              have hF' := hF
              obtain ⟨nv, tv, G1, G2, rfl, hFs, hn, ht2⟩ := hF'
              obtain ⟨an, cn, rfl, _, _, _⟩ := hn.form
              obtain ⟨ar, cr2, rfl, _, _, _⟩ := ht2.form
              have HFr := hid hF
              have hS3 := HS1.out.call hS2
              have HS3 : Hid (St w w2 (F0 ++ ((F1 ++ Fs) ++ []))) := hid ((hS3.rot.appR.rot).perm (List.Perm.append_left F0 (by
                rw [← List.append_assoc]
                exact List.perm_append_comm.append_right [])))
              have HS4 := hid ((HS3.out.alloc (.cells #[.int .i64 st.kind, .slice an st.ns.length cn, .slice ar st.ss.length cr2, .int .i64 st.w, .int .i64 st.c, .int .i64 st.m] 32)).unmid)
              clear hS2 hS3 hrs hF hn ht2 hFs
              go_wp2_with (at_builtin; refine append_st (by rfl) _ _ 22 (by rfl) 32 i2 (.agg zStep) 6 80 Tryd.underlying22 hi2 hx0 hx1 hx2 (by rfl) (by decide) sv xs.length L.flatten F0 _ (by rfl) HR.out HS4.out 1 (w2.heap.size + 1) [.int .i64 st.kind, .slice an st.ns.length cn, .slice ar st.ss.length cr2, .int .i64 st.w, .int .i64 st.c, .int .i64 st.m] (by rfl) (by rw [World.size_alloc]) (by rfl) (by intro u hu; simp at hu; rcases hu with rfl | rfl | rfl | rfl | rfl | rfl <;> rfl) (by unfold maxLen; omega) (by omega) ?_)
              intro v' w3 F' hR' hS'
              have HR' : Hid (Rw 32 6 v' (xs ++ [st]).length (L ++ [[Value.int .i64 st.kind, .slice an st.ns.length cn, .slice ar st.ss.length cr2, .int .i64 st.w, .int .i64 st.c, .int .i64 st.m]]).flatten F') := hid (by simpa using hR')
              have HS' : Hid (St w w3 (F' ++ ((F1 ++ Fs) ++ []))) := hid (by simpa using hS'.mid.tail)
              have HQ' : Hid (StepRows (xs ++ [st]) (L ++ [[Value.int .i64 st.kind, .slice an st.ns.length cn, .slice ar st.ss.length cr2, .int .i64 st.w, .int .i64 st.c, .int .i64 st.m]]) (F1 ++ Fs)) := hid (StepRows.snoc HFr.out HQ.out)
              clear hR' hS'
              go_wp2_with fail
              exact ⟨⟨n + 1, q, xs ++ [st], L ++ [[Value.int .i64 st.kind, .slice an st.ns.length cn, .slice ar st.ss.length cr2, .int .i64 st.w, .int .i64 st.c, .int .i64 st.m]], F', F1 ++ Fs, _, rfl, rfl, by go_num, HF, by simp; omega, by omega, HR'.out, HQ'.out, by simpa using HS'.out⟩, by simp [lenOf, S_size]; omega⟩
end Go.Proofs.YtijlfggficjamaaDoor
