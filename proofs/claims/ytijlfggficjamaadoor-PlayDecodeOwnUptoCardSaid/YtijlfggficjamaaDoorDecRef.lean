/- The contract of kindredref26.Decode. -/
import Derived.Test.YtijlfggficjamaaDoorDecLines
namespace Go.Proofs.YtijlfggficjamaaDoor
set_option linter.unusedVariables false
set_option linter.unusedSimpArgs false
open Go Go.RowKit
open Go.Lib (hid)

theorem Rw.rowOf {e : TypeId} {v : Value} {n : Nat} {l : List Value} {F M : Frag} {W0 W : World} (h : Rw e 1 v n l F) (hS : St W0 W (F ++ M)) : RowOf W v l := by
  obtain ⟨ad, cap, he, h1, h2, _⟩ := h.form
  have hl := h.1
  refine ⟨ad, cap, by rw [he, hl, Nat.mul_one], by omega, h2, fun hne => ?_⟩
  obtain ⟨g, c, he', hc⟩ := h.cells hS hne
  rw [he] at he'
  injection he' with a b d
  subst a
  exact ⟨g, 0, rfl, fun i x hx => by rw [Nat.zero_add]; exact hc i x hx⟩
/-- the rows of some steps, and the blocks that their lists own -/
def StepRows : List StepM → List (List Value) → Frag → Prop
  | [], [], F => F = []
  | s :: xs, cs :: L, F => ∃ F1 F2, F = F1 ++ F2 ∧ StepFr s (.agg cs.toArray) F1 ∧ StepRows xs L F2
  | _, _, _ => False
theorem StepRows.snoc {s : StepM} {cs : List Value} {F1 : Frag} (h1 : StepFr s (.agg cs.toArray) F1) : ∀ {xs : List StepM} {L : List (List Value)} {F : Frag}, StepRows xs L F → StepRows (xs ++ [s]) (L ++ [cs]) (F ++ F1)
  | [], [], F, h => by
    have : F = [] := h
    subst this
    exact ⟨F1, [], by simp, h1, rfl⟩
  | x :: xs, c :: L, F, h => by
    obtain ⟨G1, G2, rfl, h2, h3⟩ := h
    exact ⟨G1, G2 ++ F1, by simp, h2, h3.snoc h1⟩
  | [], _ :: _, _, h => h.elim
  | _ :: _, [], _, h => h.elim
theorem StepRows.len : ∀ {xs : List StepM} {L : List (List Value)} {F : Frag}, StepRows xs L F → L.length = xs.length
  | [], [], _, _ => rfl
  | _ :: xs, _ :: L, _, h => by
    obtain ⟨_, _, _, _, h3⟩ := h
    simp [h3.len]
  | [], _ :: _, _, h => h.elim
  | _ :: _, [], _, h => h.elim
/-- the slice v reads as these steps, and F is all that it owns -/
def StepsM (v : Value) (xs : List StepM) (F : Frag) : Prop :=
  ∃ L F0 F1, F = F0 ++ F1 ∧ Rw 32 6 v xs.length L.flatten F0 ∧ StepRows xs L F1
def Dec.pre (l : List StepM) : Dec → Dec
  | .ok m => .ok (l ++ m)
  | .no n e => .no n e
theorem pre_nil (d : Dec) : Dec.pre [] d = d := by cases d <;> rfl
theorem pre_snoc (l : List StepM) (s : StepM) (d : Dec) : Dec.pre l (d.cons s) = Dec.pre (l ++ [s]) d := by cases d <;> simp [Dec.pre, Dec.cons]
theorem decR_skip {n : Nat} {l : List UInt8} {r : List (List UInt8)} (h : skip l = true) : decR n (l :: r) = decR (n + 1) r := by rw [decR, if_pos h]
theorem decR_no {n : Nat} {l : List UInt8} {r : List (List UInt8)} {e : Int} (h : skip l = false) (hl : lineS l = .no e) : decR n (l :: r) = .no n e := by
  rw [decR, h, hl]; simp
theorem decR_ok {n : Nat} {l : List UInt8} {r : List (List UInt8)} {s : StepM} (h : skip l = false) (hl : lineS l = .ok s) : decR n (l :: r) = (decR (n + 1) r).cons s := by
  rw [decR, h, hl]; simp
/-- what the two readers of a script answer -/
def DecPost (T : List UInt8) (w : World) (e : Ending) (w' : World) : Prop :=
  match decS T with
  | .no n c => e = .returned (.tuple #[.slice none 0 0, .int .i64 n, .int .i64 c]) ∧ St w w' []
  | .ok xs => ∃ v F, e = .returned (.tuple #[v, .int .i64 0, .int .i64 0]) ∧ StepsM v xs F ∧ St w w' F
theorem dpost_no {T : List UInt8} {w w' : World} {e : Ending} {n : Nat} {c : Int} (h : decS T = .no n c) (he : e = .returned (.tuple #[.slice none 0 0, .int .i64 n, .int .i64 c])) (hS : St w w' []) : DecPost T w e w' := by
  unfold DecPost; rw [h]; exact ⟨he, hS⟩
theorem dpost_ok {T : List UInt8} {w w' : World} {e : Ending} {xs : List StepM} {v : Value} {F : Frag} (h : decS T = .ok xs) (he : e = .returned (.tuple #[v, .int .i64 0, .int .i64 0])) (hF : StepsM v xs F) (hS : St w w' F) : DecPost T w e w' := by
  unfold DecPost; rw [h]; exact ⟨v, F, he, hF, hS⟩
theorem read_no_ne {ws : List (List UInt8)} {c : Int} (h : readS ws = .no c) : c ≠ 0 := by
  unfold readS at h
  simp only at h
  split at h
  · injection h with h; omega
  · split at h
    · injection h with h; omega
    · split at h
      · injection h with h; omega
      · cases h
theorem lines_mem_len {T p : List UInt8} (h : p ∈ linesS T) : p.length ≤ T.length := by
  unfold linesS at h
  split at h
  · exact split_mem_len ((List.dropLast_sublist _).subset h)
  · exact split_mem_len h
theorem lines_len (T : List UInt8) : (linesS T).length ≤ T.length + 1 := by
  unfold linesS
  have := split_len 10 T
  split
  · rw [List.length_dropLast]; omega
  · exact this
theorem words_mem_len {l x : List UInt8} {ws : List (List UInt8)} (h : wordsS l = some ws) (hx : x ∈ ws) : x.length ≤ l.length := by
  have h1 := (wordsR_len _ _ h).2
  rw [split_sum] at h1
  have h2 : x.length + 1 ≤ (ws.map fun p => p.length + 1).sum := sum_mem (List.mem_map.2 ⟨x, hx, rfl⟩)
  omega
theorem words_len {l : List UInt8} {ws : List (List UInt8)} (h : wordsS l = some ws) : ws.length ≤ l.length + 1 := by
  rw [(wordsR_len _ _ h).1]; exact split_len 32 l
theorem infoStep' : (Tryd.prog.info? 32).map (fun i => (i.zero, i.size, i.bytes)) = some (some (.agg zStep), 6, 80) := by kernel_rfl

set_option maxRecDepth 100000 in
set_option maxHeartbeats 4000000 in
theorem refDecode_c (s : ByteArray) (w : World) (hs : s.size ≤ 10000000) (ht : Tab w) :
    Calls Tryd.prog 15 #[.string s] w (DecPost s.data.toList w) := by
  obtain ⟨i2, hi2, hx0, hx1, hx2⟩ := info_parts infoStep'
  obtain ⟨T, hT⟩ : ∃ T, T = s.data.toList := ⟨_, rfl⟩
  have hTs : T.length = s.size := by rw [hT]; exact size_list s
  have hlc := lines_c s w (by omega)
  rw [← hT] at hlc ⊢
  obtain ⟨P, hP⟩ : ∃ P, P = linesS T := ⟨_, rfl⟩
  have hPl : P.length ≤ s.size + 1 := by rw [hP, ← hTs]; exact lines_len T
  have HPm : Hid (∀ p ∈ P, p.length ≤ 10000000) := hid (fun p hp => by have := lines_mem_len (T := T) (p := p) (by rw [← hP]; exact hp); omega)
  rw [← hP] at hlc
  have HT := hid ht; have HLC := hid hlc
  have HD : Hid (decS T = decR 1 P) := hid (by rw [hP]; rfl)
  clear ht hlc hT hTs hP
  go_enter Tryd.func15, Tryd.ntmps15
  go_wp2_with fail
  refine HLC.out.mono ?_
  rintro e W1 ⟨lv, Fl, rfl, hRl, hS1⟩
  obtain ⟨al, cl, rfl, hl1, hl2, _⟩ := hRl.form
  unfold maxLen at hl2
  have HRl := hid hRl
  clear hRl
  go_wp2_with fail
  go_loopw [6, 7] (fun v i wr => ∃ (k : Nat) (xs : List StepM) (L : List (List Value)) (F0 F1 : Frag) (sv : Value), sv = v ∧ k ≤ P.length ∧ i = .int .i64 k ∧ Hid (decS T = Dec.pre xs (decR (k + 1) (P.drop k))) ∧ xs.length ≤ k ∧ Rw 32 6 sv xs.length L.flatten F0 ∧ StepRows xs L F1 ∧ St w wr (F0 ++ (F1 ++ Fl))) (fun _ i _ => P.length - (intOf i).toNat)
  case atStart => exact ⟨0, [], [], [], [], _, rfl, Nat.zero_le _, rfl, hid (by rw [HD.out, pre_nil]; rfl), Nat.le_refl _, Rw.nil _ _, rfl, by simpa using hS1⟩
  case round =>
    clear hS1
    obtain ⟨k, xs, L, F0, F1, sv, rfl, hk, rfl, hW, hxl, hR, hQ, hS⟩ := hrel
    have HS := hid hS; have HR := hid hR; have HQ := hid hQ
    clear hS hR hQ
    by_cases hlt : k < P.length
    · obtain ⟨p, hp⟩ : ∃ p, p = P[k] := ⟨_, rfl⟩
      have hpl : p.length ≤ 10000000 := by rw [hp]; exact HPm.out _ (List.getElem_mem hlt)
      have HDk : Hid (P.drop k = p :: P.drop (k + 1)) := hid (by rw [hp]; exact List.drop_eq_getElem_cons hlt)
      have hPne : LS P ≠ [] := by
        intro e
        have h : (LS P).length = 0 := by rw [e]; rfl
        rw [LS_len] at h; omega
      have hSl : St w wr (Fl ++ (F0 ++ F1)) := HS.out.perm (by
        have h : (Fl ++ (F0 ++ F1)).Perm ((F0 ++ F1) ++ Fl) := List.perm_append_comm
        rwa [List.append_assoc F0] at h)
      obtain ⟨gl, cc, hge, hgc⟩ := HRl.out.cells hSl hPne
      clear hPne hSl
      injection hge with ea eb ec
      subst ea; subst ec
      have hc := hgc k _ (LS_get P k hlt)
      rw [← hp] at hc
      clear hgc hp
      by_cases h0 : p = []
      · have HSk : Hid (skip p = true) := hid (by rw [h0]; rfl)
        have HN : Hid (decS T = Dec.pre xs (decR (k + 1 + 1) (P.drop (k + 1)))) := hid (by rw [hW.out, HDk.out, decR_skip HSk.out])
        subst h0
        rw [show S ([] : List UInt8) = ⟨#[]⟩ from rfl] at hc
        go_wp2_with fail
        exact ⟨⟨k + 1, xs, L, F0, F1, _, rfl, by omega, by go_num, HN, by omega, HR.out, HQ.out, HS.out⟩, by simp [intOf]; omega⟩
      · have hp0 : 0 < p.length := List.length_pos_iff.2 h0
        have hp0' : (0 : Int) < (p.length : Int) := by omega
        have hemp : p.isEmpty = false := by simpa using h0
        have hpS : 0 < (S p).size := by rw [S_size]; exact hp0
        have hp256 : ((S p)[0].toNat : Int) < 256 := by have := (S p)[0].toNat_lt; omega
        have hS0 : (S p)[0] = p[0] := by
          have h1 := list_get (S p) 0 hpS
          rw [S_list] at h1
          have h2 : p[0]? = some p[0] := List.getElem?_eq_getElem hp0
          exact Option.some.inj (h1.symm.trans h2)
        have HSK : Hid (skip p = (p[0].toNat == 35)) := hid (by
          cases p with
          | nil => exact absurd rfl h0
          | cons c r => rfl)
        have HS0 := hid hS0
        clear hS0
        by_cases h35 : (p[0].toNat : Int) = 35
        · have hh : (((S p)[0].toNat : Int) == 35) = true := by rw [HS0.out]; simp [h35]
          have HSk : Hid (skip p = true) := hid (by rw [HSK.out]; simp; omega)
          have HN : Hid (decS T = Dec.pre xs (decR (k + 1 + 1) (P.drop (k + 1)))) := hid (by rw [hW.out, HDk.out, decR_skip HSk.out])
          clear h35
          go_wp2_with fail
          exact ⟨⟨k + 1, xs, L, F0, F1, _, rfl, by omega, by go_num, HN, by omega, HR.out, HQ.out, HS.out⟩, by simp [intOf]; omega⟩
        · have hh : (((S p)[0].toNat : Int) == 35) = false := by rw [HS0.out]; simp [h35]
          have HSk : Hid (skip p = false) := hid (by rw [HSK.out]; simp; omega)
          clear h35
          have hwc := Words_c (S p) wr (by rw [S_size]; omega)
          rw [S_list] at hwc
          have HWC := hid hwc
          clear hwc
          cases hws : wordsS p with
          | none =>
            have HF : Hid (decS T = .no (k + 1) 32) := hid (by
              rw [hW.out, HDk.out, decR_no (e := 32) HSk.out (by unfold lineS; rw [hws])]; rfl)
            have HWS := hid hws
            clear hws
            go_wp2_with fail
            refine HWC.out.mono ?_
            intro e w1 hpost
            unfold WordsPost at hpost
            rw [HWS.out] at hpost
            obtain ⟨rfl, hSw⟩ := hpost
            have HS1 := hid ((HS.out.call hSw).toSt0)
            clear hSw
            go_wp2_with fail
            go_ret3
            exact dpost_no HF.out rfl HS1.out
          | some ws =>
            have hwl := words_len hws
            have hwm : ∀ x ∈ ws, x.length ≤ 10000000 := fun x hx => Nat.le_trans (words_mem_len hws hx) hpl
            obtain ⟨w0, rest, rfl⟩ : ∃ w0 rest, ws = w0 :: rest := by
              cases ws with
              | nil => exact absurd rfl (wordsS_ne hws)
              | cons a b => exact ⟨a, b, rfl⟩
            have hrl : rest.length ≤ 1000000000 := by simp at hwl; omega
            have HRm : Hid (∀ x ∈ rest, x.length ≤ 1000000000) := hid (fun x hx => Nat.le_trans (hwm x (List.mem_cons_of_mem _ hx)) (by decide))
            have HWS := hid hws
            clear hws hwl hwm
            go_wp2_with fail
            refine HWC.out.mono ?_
            intro e w1 hpost
            unfold WordsPost at hpost
            rw [HWS.out] at hpost
            obtain ⟨wv, Fw, rfl, hRw, hSw⟩ := hpost
            have HS1 := hid (HS.out.call hSw)
            have HRw := hid (hRw.rowOf (M := []) (by simpa using hSw))
            clear hSw hRw
            go_wp2_with fail
            refine (StepOf_c _ wv w0 rest HRw.out hrl HRm.out (HT.out.below HS1.out.below (Nat.le_refl _))).mono ?_
            intro e w2 hpost
            unfold StepPost at hpost
            cases hrs : readS (w0 :: rest) with
            | no c =>
              rw [hrs] at hpost
              obtain ⟨rfl, hS2⟩ := hpost
              have HF : Hid (decS T = .no (k + 1) c) := hid (by
                rw [hW.out, HDk.out, decR_no (e := c) HSk.out (by unfold lineS; rw [HWS.out]; exact hrs)]; rfl)
              have hcn : c ≠ 0 := read_no_ne hrs
              have hc0 : (c != 0) = true := bne_iff_ne.2 hcn
              have HS2 := hid ((HS1.out.call hS2).toSt0)
              clear hS2 hrs hcn
              unfold zStep
              go_wp2_with fail
              go_ret3
              exact dpost_no HF.out rfl (HS2.out.alloc _).tail
            | ok st =>
              rw [hrs] at hpost
              obtain ⟨vs, Fs, rfl, hF, hS2⟩ := hpost
              have HF : Hid (decS T = Dec.pre (xs ++ [st]) (decR (k + 1 + 1) (P.drop (k + 1)))) := hid (by
                rw [hW.out, HDk.out, decR_ok (s := st) HSk.out (by unfold lineS; rw [HWS.out]; exact hrs), pre_snoc])
              have hF' := hF
              obtain ⟨nv, tv, G1, G2, rfl, hFs, hn, ht2⟩ := hF'
              obtain ⟨an, cn, rfl, _, _, _⟩ := hn.form
              obtain ⟨ar, cr2, rfl, _, _, _⟩ := ht2.form
              have HFr := hid hF
              have hS3 := HS1.out.call hS2
              have HS3 : Hid (St w w2 (F0 ++ ((F1 ++ Fs) ++ Fl))) := hid ((hS3.rot.appR.rot).perm (List.Perm.append_left F0 (by
                rw [← List.append_assoc]
                exact List.perm_append_comm.append_right Fl)))
              have HS4 := hid ((HS3.out.alloc (.cells #[.int .i64 st.kind, .slice an st.ns.length cn, .slice ar st.ss.length cr2, .int .i64 st.w, .int .i64 st.c, .int .i64 st.m] 32)).unmid)
              clear hS2 hS3 hrs hF hn ht2 hFs
              go_wp2_with (at_builtin; refine append_st (by rfl) _ _ 22 (by rfl) 32 i2 (.agg zStep) 6 80 Tryd.underlying22 hi2 hx0 hx1 hx2 (by rfl) (by decide) sv xs.length L.flatten F0 _ (by rfl) HR.out HS4.out 1 (w2.heap.size + 1) [.int .i64 st.kind, .slice an st.ns.length cn, .slice ar st.ss.length cr2, .int .i64 st.w, .int .i64 st.c, .int .i64 st.m] (by rfl) (by rw [World.size_alloc]) (by rfl) (by intro u hu; simp at hu; rcases hu with rfl | rfl | rfl | rfl | rfl | rfl <;> rfl) (by unfold maxLen; omega) (by omega) ?_)
              intro v' w3 F' hR' hS'
              have HR' : Hid (Rw 32 6 v' (xs ++ [st]).length (L ++ [[Value.int .i64 st.kind, .slice an st.ns.length cn, .slice ar st.ss.length cr2, .int .i64 st.w, .int .i64 st.c, .int .i64 st.m]]).flatten F') := hid (by simpa using hR')
              have HS' : Hid (St w w3 (F' ++ ((F1 ++ Fs) ++ Fl))) := hid (by rw [List.append_assoc F1]; simpa only [List.append_assoc] using hS'.mid.tail)
              have HQ' : Hid (StepRows (xs ++ [st]) (L ++ [[Value.int .i64 st.kind, .slice an st.ns.length cn, .slice ar st.ss.length cr2, .int .i64 st.w, .int .i64 st.c, .int .i64 st.m]]) (F1 ++ Fs)) := hid (StepRows.snoc HFr.out HQ.out)
              clear hR' hS'
              go_wp2_with fail
              exact ⟨⟨k + 1, xs ++ [st], L ++ [[Value.int .i64 st.kind, .slice an st.ns.length cn, .slice ar st.ss.length cr2, .int .i64 st.w, .int .i64 st.c, .int .i64 st.m]], F', F1 ++ Fs, _, rfl, by omega, by go_num, HF, by simp; omega, HR'.out, HQ'.out, HS'.out⟩, by simp [intOf]; omega⟩
    · have hke : k = P.length := by omega
      have HF : Hid (decS T = .ok xs) := hid (by
        rw [hW.out, List.drop_eq_nil_of_le (by omega)]; simp [decR, Dec.pre])
      go_wp2_with fail
      go_ret3
      exact dpost_ok HF.out rfl ⟨L, F0, F1, rfl, HR.out, HQ.out⟩ (by have := HS.out; rw [← List.append_assoc] at this; exact this.appL)
end Go.Proofs.YtijlfggficjamaaDoor
