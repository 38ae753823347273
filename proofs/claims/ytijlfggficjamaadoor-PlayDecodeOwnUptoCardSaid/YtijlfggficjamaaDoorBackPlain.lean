/- Plain Lean: a script behind a script; what is written of steps is read as what a line keeps of them; clean steps. -/
import Derived.Test.YtijlfggficjamaaDoorDecPlain
import Derived.Test.YtijlfggficjamaaDoorDecNum
import Derived.Lib.Join
import Derived.Test.YtijlfggficjamaaDoorBackKinds
import Derived.Test.YtijlfggficjamaaDoorPlayText
namespace Go.Proofs.YtijlfggficjamaaDoor
set_option linter.unusedVariables false
set_option linter.unusedSimpArgs false
open Go Go.RowKit
open Go.Lib (hid)

theorem split_last (c : UInt8) : ∀ (p r : List UInt8), splitAt' c (p ++ c :: r) = splitAt' c p ++ splitAt' c r
  | [], r => by rw [List.nil_append, split_sep]; rfl
  | x :: p, r => by
    have ih := split_last c p r
    rw [List.cons_append, splitAt', splitAt']
    by_cases h : x = c
    · rw [if_pos h, if_pos h, ih]; rfl
    · rw [if_neg h, if_neg h, ih]
      cases hs : splitAt' c p with
      | nil => exact absurd hs (split_ne c p)
      | cons a q => rfl
theorem lines_app (p r : List UInt8) : linesS (p ++ 10 :: r) = splitAt' 10 p ++ linesS r := by
  unfold linesS
  rw [split_last]
  have hne := split_ne 10 r
  obtain ⟨x, hx⟩ : ∃ x, (splitAt' 10 r).getLast? = some x := ⟨_, List.getLast?_eq_some_getLast hne⟩
  rw [List.getLast?_append, hx, Option.some_or, List.dropLast_append_of_ne_nil hne]
  cases x <;> rfl
theorem lines_end (p : List UInt8) : linesS (p ++ [10]) = splitAt' 10 p := by
  rw [lines_app, lines_nil, List.append_nil]
theorem split_count (c : UInt8) : ∀ l : List UInt8, (splitAt' c l).length = l.count c + 1
  | [] => rfl
  | x :: r => by
    have ih := split_count c r
    rw [splitAt']
    by_cases h : x = c
    · rw [if_pos h, h, List.count_cons_self, List.length_cons, ih]
    · rw [if_neg h, List.count_cons_of_ne h]
      cases hs : splitAt' c r with
      | nil => exact absurd hs (split_ne c r)
      | cons a q => rw [hs] at ih; exact ih
def Dec.app (l : List StepM) : Dec → Dec
  | .ok m => .ok (l ++ m)
  | .no n e => .no n e
def Dec.shift (d : Nat) : Dec → Dec
  | .ok m => .ok m
  | .no n e => .no (n + d) e
theorem decR_shift (d : Nat) : ∀ (b : List (List UInt8)) (n : Nat), decR (n + d) b = (decR n b).shift d
  | [], n => rfl
  | l :: r, n => by
    have ih := decR_shift d r (n + 1)
    rw [show n + 1 + d = n + d + 1 from by omega] at ih
    rw [decR, decR, ih]
    split
    · rfl
    · split
      · rfl
      · cases decR (n + 1) r <;> rfl
theorem decR_app : ∀ (a b : List (List UInt8)) (n : Nat), decR n (a ++ b) = match decR n a with
    | .no m e => .no m e
    | .ok l => (decR (n + a.length) b).app l
  | [], b, n => by
    rw [List.nil_append, decR, List.length_nil, Nat.add_zero]
    cases decR n b <;> rfl
  | l :: r, b, n => by
    have ih := decR_app r b (n + 1)
    rw [List.cons_append, decR, decR, ih, List.length_cons, show n + (r.length + 1) = n + 1 + r.length from by omega]
    split
    · rfl
    · split
      · rfl
      · cases decR (n + 1) r with
        | no m e => rfl
        | ok q => cases decR (n + 1 + r.length) b <;> rfl
/-- the law: two scripts one behind the other -/
theorem decS_two (one two : List UInt8) : decS (one ++ 10 :: two) = match decS (one ++ [10]) with
    | .no m e => .no m e
    | .ok l => ((decS two).shift ((one ++ [10]).count 10)).app l := by
  unfold decS
  rw [lines_app, lines_end, decR_app, decR_shift, split_count]
  rw [List.count_append]
  rfl
end Go.Proofs.YtijlfggficjamaaDoor

namespace Go.Proofs.YtijlfggficjamaaDoor
set_option linter.unusedVariables false
set_option linter.unusedSimpArgs false
open Go Go.RowKit
open Go.Lib (hid)

/-! ### an escaped word comes back -/
theorem hexd_v : ∀ n : Fin 16, hexv (hexd n.val) = n.val := by decide +kernel
theorem hexB_hexd (c : UInt8) : hexB (hexd (c.toNat / 16)) (hexd (c.toNat % 16)) = c := by
  have h1 := hexd_v ⟨c.toNat / 16, by have := c.toNat_lt; omega⟩
  have h2 := hexd_v ⟨c.toNat % 16, by omega⟩
  simp only at h1 h2
  unfold hexB
  rw [h1, h2, show c.toNat / 16 * 16 + c.toNat % 16 = c.toNat by omega]
  simp
theorem parse_escB (c : UInt8) (r : List UInt8) : parse (escB c ++ r) = (parse r).map (c :: ·) := by
  unfold escB
  split
  · rename_i h
    simp only [plainB, Bool.and_eq_true, decide_eq_true_eq, bne_iff_ne] at h
    exact parse_plain r h.2
  · have h1 := hexd_v ⟨c.toNat / 16, by have := c.toNat_lt; omega⟩
    have h2 := hexd_v ⟨c.toNat % 16, by omega⟩
    simp only at h1 h2
    show parse (37 :: hexd (c.toNat / 16) :: hexd (c.toNat % 16) :: r) = _
    rw [parse_hex r rfl (by rw [h1]; have := c.toNat_lt; omega) (by rw [h2]; omega), hexB_hexd]
theorem parse_escL : ∀ l : List UInt8, parse (escL l) = some l
  | [] => rfl
  | c :: r => by
    show parse (escB c ++ escL r) = _
    rw [parse_escB, parse_escL r]; rfl
theorem escL_ne {l : List UInt8} (h : l ≠ []) : escL l ≠ [37] := by
  cases l with
  | nil => exact absurd rfl h
  | cons c r =>
    intro e
    have h1 : escB c ++ escL r = [37] := e
    unfold escB at h1
    split at h1
    · rename_i hp
      simp only [plainB, Bool.and_eq_true, decide_eq_true_eq, bne_iff_ne] at hp
      simp only [List.cons_append, List.cons.injEq] at h1
      rw [h1.1] at hp
      exact hp.2 rfl
    · simp at h1
theorem unescO_esc (l : List UInt8) : unescO (esc l) = some l := by
  unfold unescO esc
  by_cases h : l = []
  · rw [if_pos h, unescR_pct, h]; rfl
  · rw [if_neg h, unescR_some (escL_ne h) (parse_escL l)]
    simp [h]
/-! ### a word of plain bytes is its own escape -/
def AllP (l : List UInt8) : Prop := ∀ c ∈ l, plainB c = true
theorem escL_plain : ∀ {l : List UInt8}, AllP l → escL l = l
  | [], _ => rfl
  | c :: r, h => by
    show escB c ++ escL r = _
    rw [escL_plain (fun x hx => h x (List.mem_cons_of_mem _ hx)), escB, if_pos (h c List.mem_cons_self)]; rfl
theorem esc_plain {l : List UInt8} (h : AllP l) (hne : l ≠ []) : esc l = l := by rw [esc, if_neg hne, escL_plain h]
theorem itoa_plain (n : Int) : AllP (Lib.itoa n) ∧ Lib.itoa n ≠ [] := by
  have hd : ∀ u, AllP (Lib.decDigits u) := fun u c hc => by
    have := dec_all u c hc
    exact plainB_true (by omega) (by omega) (by omega)
  unfold Lib.itoa
  split
  · exact ⟨fun c hc => by
      rcases List.mem_cons.1 hc with rfl | hc
      · rfl
      · exact hd _ c hc, by simp⟩
  · exact ⟨hd _, dec_ne _⟩
theorem itoa_esc (n : Int) : esc (Lib.itoa n) = Lib.itoa n := esc_plain (itoa_plain n).1 (itoa_plain n).2
theorem word_plain (k : Nat) (h0 : 0 < k) (h : k < 24) : AllP (rowOf k).word ∧ (rowOf k).word ≠ [] ∧ (rowOf k).word.head? ≠ some 35 := by
  have : ∀ i : Fin 23, (∀ c ∈ (rowOf (i.val + 1)).word, plainB c = true) ∧ (rowOf (i.val + 1)).word ≠ [] ∧ (rowOf (i.val + 1)).word.head? ≠ some 35 := by decide +kernel
  have := this ⟨k - 1, by omega⟩
  rwa [show k - 1 + 1 = k by omega] at this
/-! ### bytes of an escaped word -/
theorem esc_no (l : List UInt8) : ∀ c ∈ esc l, c ≠ 32 ∧ c ≠ 10 := by
  have h16 : ∀ n : Fin 16, hexd n.val ≠ 32 ∧ hexd n.val ≠ 10 := by decide +kernel
  have hb : ∀ c x : UInt8, x ∈ escB c → x ≠ 32 ∧ x ≠ 10 := by
    intro c x hx
    unfold escB at hx
    split at hx
    · rename_i h
      rw [List.mem_singleton] at hx; subst hx
      simp only [plainB, Bool.and_eq_true, decide_eq_true_eq] at h
      exact ⟨fun e => by subst e; simp at h, fun e => by subst e; simp at h⟩
    · simp only [List.mem_cons, List.not_mem_nil, or_false] at hx
      rcases hx with rfl | rfl | rfl
      · decide
      · exact h16 ⟨c.toNat / 16, by have := c.toNat_lt; omega⟩
      · exact h16 ⟨c.toNat % 16, by omega⟩
  intro c hc
  unfold esc at hc
  split at hc
  · rw [List.mem_singleton] at hc; subst hc; decide
  · obtain ⟨a, _, ha⟩ := List.mem_flatMap.1 hc
    exact hb a c ha
theorem esc_ne (l : List UInt8) : esc l ≠ [] := by
  unfold esc
  split
  · simp
  · rename_i h
    cases l with
    | nil => exact absurd rfl h
    | cons c r =>
      show escB c ++ escL r ≠ []
      unfold escB
      split <;> simp
theorem wordsR_esc : ∀ L : List (List UInt8), wordsR (L.map esc) = some L
  | [] => rfl
  | p :: r => by rw [List.map_cons, wordsR, unescO_esc, wordsR_esc r]; rfl
theorem join_two (p q : List UInt8) (r : List (List UInt8)) (c : UInt8) : Lib.join (p :: q :: r) [c] = p ++ c :: Lib.join (q :: r) [c] := by
  rw [Lib.join_cons, Lib.join_cons]; simp [Lib.joinTail]
theorem split_join (c : UInt8) : ∀ (L : List (List UInt8)), L ≠ [] → (∀ p ∈ L, ∀ x ∈ p, x ≠ c) → splitAt' c (Lib.join L [c]) = L
  | [], h, _ => absurd rfl h
  | [p], _, h => by rw [Lib.join_one, split_all c p (h p List.mem_cons_self)]
  | p :: q :: r, _, h => by
    rw [join_two, split_pre c p _ (h p List.mem_cons_self), split_join c (q :: r) (by simp) (fun x hx => h x (List.mem_cons_of_mem _ hx))]
theorem join_no (c d : UInt8) (hcd : c ≠ d) : ∀ (L : List (List UInt8)), (∀ p ∈ L, ∀ x ∈ p, x ≠ d) → ∀ x ∈ Lib.join L [c], x ≠ d
  | [], _, x, hx => by rw [Lib.join_nil] at hx; cases hx
  | [p], h, x, hx => by rw [Lib.join_one] at hx; exact h p List.mem_cons_self x hx
  | p :: q :: r, h, x, hx => by
    rw [join_two] at hx
    rcases List.mem_append.1 hx with hx | hx
    · exact h p List.mem_cons_self x hx
    · rcases List.mem_cons.1 hx with rfl | hx
      · exact hcd
      · exact join_no c d hcd (q :: r) (fun y hy => h y (List.mem_cons_of_mem _ hy)) x hx
/-! ### a step's line, unescaped -/
def numsR (s : StepM) (N k : Nat) : List Int := (List.range N).map fun i => s.num (k * N + i)
def wordsT (s : StepM) (T k : Nat) : List ByteArray := (List.range T).map fun i => s.word (k * T + i)
def grpR (s : StepM) (N T k : Nat) : List (List UInt8) := (numsR s N k).map Lib.itoa ++ (wordsT s T k).map fun x => x.data.toList
def bodyR (s : StepM) (N T t : Nat) : List (List UInt8) := (List.range t).flatMap (grpR s N T)
def rawL (s : StepM) : List (List UInt8) :=
  let r := rowOf s.kind.toNat
  r.word :: (if r.o then [Lib.itoa s.w, Lib.itoa s.c, Lib.itoa s.m] else bodyR s r.n r.s (timesOf r s))
theorem body_esc (s : StepM) (N T t : Nat) : body s N T t = (bodyR s N T t).map esc := by
  unfold body bodyR
  rw [List.map_flatMap]
  congr 1
  funext k
  simp [grp, grpR, numsOf, textsOf, numsR, wordsT, Function.comp_def, itoa_esc]
theorem parts_esc (s : StepM) (h : shown s = true) : partsL s = (rawL s).map esc := by
  simp only [shown, Bool.and_eq_true, decide_eq_true_eq] at h
  obtain ⟨h1, h2, _⟩ := word_plain s.kind.toNat (by omega) (by omega)
  unfold partsL rawL
  simp only
  rw [List.map_cons, esc_plain h1 h2]
  split
  · simp [itoa_esc]
  · rw [body_esc]
end Go.Proofs.YtijlfggficjamaaDoor

namespace Go.Proofs.YtijlfggficjamaaDoor
set_option linter.unusedVariables false
set_option linter.unusedSimpArgs false
open Go Go.RowKit
open Go.Lib (hid)

def In64 (x : Int) : Prop := -9223372036854775808 ≤ x ∧ x ≤ 9223372036854775807
theorem fill_ns (n each : Nat) : ∀ (l : List Int) (i : Nat) (more : List (List UInt8)) (N : List Int) (T : List (List UInt8)), (∀ x ∈ l, In64 x) → (∀ j, j < l.length → (i + j) % each < n) →
    fill n each i (l.map Lib.itoa ++ more) N T = fill n each (i + l.length) more (N ++ l) T
  | [], i, more, N, T, _, _ => by simp
  | x :: l, i, more, N, T, h, hj => by
    have hx := h x List.mem_cons_self
    rw [List.map_cons, List.cons_append, fill, if_pos (by have := hj 0 (by simp); simpa using this), undec_itoa x hx.1 hx.2]
    simp only
    rw [fill_ns n each l (i + 1) more _ T (fun y hy => h y (List.mem_cons_of_mem _ hy)) (fun j hjl => by
      have := hj (j + 1) (by simpa using hjl)
      rwa [show i + (j + 1) = i + 1 + j by omega] at this)]
    rw [List.append_assoc, List.singleton_append, List.length_cons, show i + 1 + l.length = i + (l.length + 1) by omega]
theorem fill_ts (n each : Nat) : ∀ (l : List (List UInt8)) (i : Nat) (more : List (List UInt8)) (N : List Int) (T : List (List UInt8)), (∀ j, j < l.length → ¬ (i + j) % each < n) →
    fill n each i (l ++ more) N T = fill n each (i + l.length) more N (T ++ l)
  | [], i, more, N, T, _ => by simp
  | x :: l, i, more, N, T, hj => by
    rw [List.cons_append, fill, if_neg (by have := hj 0 (by simp); simpa using this)]
    rw [fill_ts n each l (i + 1) more _ _ (fun j hjl => by
      have := hj (j + 1) (by simpa using hjl)
      rwa [show i + (j + 1) = i + 1 + j by omega] at this)]
    rw [List.append_assoc, List.singleton_append, List.length_cons, show i + 1 + l.length = i + (l.length + 1) by omega]
theorem at_mod (k each j : Nat) (h : j < each) : (k * each + j) % each = j := by
  rw [Nat.mul_comm, Nat.mul_add_mod, Nat.mod_eq_of_lt h]
theorem num_in (s : StepM) (h : ∀ x ∈ s.ns, In64 x) (k : Nat) : In64 (s.num k) := s.num_bd h k
theorem fill_grp (s : StepM) (n m k : Nat) (more : List (List UInt8)) (N : List Int) (T : List (List UInt8)) (h : ∀ x ∈ s.ns, In64 x) :
    fill n (n + m) (k * (n + m)) (grpR s n m k ++ more) N T = fill n (n + m) ((k + 1) * (n + m)) more (N ++ numsR s n k) (T ++ (wordsT s m k).map fun x => x.data.toList) := by
  have l1 : (numsR s n k).length = n := by simp [numsR]
  have l2 : ((wordsT s m k).map fun x => x.data.toList).length = m := by simp [wordsT]
  unfold grpR
  rw [List.append_assoc, fill_ns n (n + m) (numsR s n k) _ _ N T (fun x hx => by
    obtain ⟨i, _, rfl⟩ := List.mem_map.1 hx
    exact num_in s h _) (fun j hj => by rw [l1] at hj; rw [at_mod _ _ _ (by omega)]; exact hj)]
  rw [fill_ts n (n + m) _ _ more _ T (fun j hj => by
    rw [l2] at hj
    rw [l1, Nat.add_assoc, at_mod _ _ _ (by omega)]; omega)]
  rw [l1, l2, Nat.succ_mul, Nat.add_assoc]
theorem fill_body (s : StepM) (n m : Nat) (h : ∀ x ∈ s.ns, In64 x) : ∀ (t : Nat) (more : List (List UInt8)),
    fill n (n + m) 0 (bodyR s n m t ++ more) [] [] = fill n (n + m) (t * (n + m)) more ((List.range t).flatMap (numsR s n)) (((List.range t).flatMap (wordsT s m)).map fun x => x.data.toList)
  | 0, more => by simp [bodyR]
  | t + 1, more => by
    have e : bodyR s n m (t + 1) ++ more = bodyR s n m t ++ (grpR s n m t ++ more) := by simp [bodyR, List.range_succ, List.flatMap_append]
    rw [e, fill_body s n m h t, fill_grp s n m t more _ _ h]
    simp [List.range_succ, List.flatMap_append]
theorem bodyR_len (s : StepM) (N T t : Nat) : (bodyR s N T t).length = t * (N + T) := by
  have := body_len s N T t
  rwa [body_esc, List.length_map] at this
theorem kind_back (k : Nat) (h0 : 0 < k) (h : k < 24) : kindOfS (rowOf k).word = k := by
  have : ∀ i : Fin 23, kindOfS (rowOf (i.val + 1)).word = i.val + 1 := by decide +kernel
  have := this ⟨k - 1, by omega⟩
  rwa [show k - 1 + 1 = k by omega] at this
theorem row_o (k : Nat) (h : k < 24) : (rowOf k).o = true → (rowOf k).n = 3 ∧ (rowOf k).s = 0 ∧ (rowOf k).a = false := by
  have : ∀ i : Fin 24, (rowOf i.val).o = true → (rowOf i.val).n = 3 ∧ (rowOf i.val).s = 0 ∧ (rowOf i.val).a = false := by decide +kernel
  exact this ⟨k, h⟩
/-- what a line keeps of a step -/
def canon (s : StepM) : StepM :=
  let r := rowOf s.kind.toNat
  if r.o then ⟨s.kind, [], [], s.w, s.c, s.m⟩
  else ⟨s.kind, (List.range (timesOf r s)).flatMap (numsR s r.n), (List.range (timesOf r s)).flatMap (wordsT s r.s), 0, 0, 0⟩
theorem read_raw (s : StepM) (hs : shown s = true) (hn : ∀ x ∈ s.ns, In64 x) (hw : In64 s.w) (hc : In64 s.c) (hm : In64 s.m) : readS (rawL s) = .ok (canon s) := by
  simp only [shown, Bool.and_eq_true, decide_eq_true_eq] at hs
  obtain ⟨k, hk⟩ : ∃ k : Nat, s.kind = (k : Int) := ⟨s.kind.toNat, by omega⟩
  have hkt : s.kind.toNat = k := by omega
  have hkw := kind_back k (by omega) (by omega)
  unfold readS rawL canon
  simp only [List.headD_cons, List.tail_cons, hkt]
  rw [hkw]
  rw [if_neg (by omega)]
  by_cases ho : (rowOf k).o = true
  · obtain ⟨e1, e2, e3⟩ := row_o k (by omega) ho
    simp only [ho, if_true, e1, e2, e3]
    rw [if_neg (by simp)]
    have hf := fill_ns 3 (3 + 0) [s.w, s.c, s.m] 0 [] [] [] (fun x hx => by
      simp only [List.mem_cons, List.not_mem_nil, or_false] at hx
      rcases hx with rfl | rfl | rfl <;> assumption) (fun j hj => by
      simp only [List.length_cons, List.length_nil] at hj
      rw [Nat.zero_add, Nat.mod_eq_of_lt (by omega)]; omega)
    rw [List.append_nil] at hf
    rw [show [Lib.itoa s.w, Lib.itoa s.c, Lib.itoa s.m] = [s.w, s.c, s.m].map Lib.itoa from rfl, hf]
    simp [fill, hk]
  · have ho' : (rowOf k).o = false := by simpa using ho
    simp only [ho', Bool.false_eq_true, if_false]
    rw [bodyR_len]
    rw [if_neg (by
      rintro (⟨ha, hl⟩ | ⟨ha, hl⟩)
      · rw [timesOf, ha] at hl; simp at hl
      · simp at hl)]
    have hf := fill_body s (rowOf k).n (rowOf k).s hn (timesOf (rowOf k) s) []
    rw [List.append_nil] at hf
    rw [hf]
    simp [fill, hk, Function.comp_def, S_data]
theorem raw_ne (s : StepM) : rawL s ≠ [] := by unfold rawL; simp
theorem line_read (s : StepM) (hs : shown s = true) (hn : ∀ x ∈ s.ns, In64 x) (hw : In64 s.w) (hc : In64 s.c) (hm : In64 s.m) :
    lineS (Lib.join (partsL s) [32]) = .ok (canon s) ∧ skip (Lib.join (partsL s) [32]) = false ∧ ∀ x ∈ Lib.join (partsL s) [32], x ≠ 10 := by
  have hno : ∀ p ∈ partsL s, ∀ x ∈ p, x ≠ 32 ∧ x ≠ 10 := fun p hp x hx => by
    rw [parts_esc s hs] at hp
    obtain ⟨q, _, rfl⟩ := List.mem_map.1 hp
    exact esc_no q x hx
  refine ⟨?_, ?_, join_no 32 10 (by decide) _ fun p hp x hx => (hno p hp x hx).2⟩
  · unfold lineS wordsS
    rw [split_join 32 (partsL s) (by unfold partsL; simp) (fun p hp x hx => (hno p hp x hx).1), parts_esc s hs, wordsR_esc]
    exact read_raw s hs hn hw hc hm
  · simp only [shown, Bool.and_eq_true, decide_eq_true_eq] at hs
    obtain ⟨_, h2, h3⟩ := word_plain s.kind.toNat (by omega) (by omega)
    unfold partsL
    simp only
    rw [Lib.join_cons]
    cases hw' : (rowOf s.kind.toNat).word with
    | nil => exact absurd hw' h2
    | cons c r =>
      rw [hw'] at h3
      rw [List.cons_append]
      unfold skip
      simp only [List.head?_cons, ne_eq, Option.some.injEq] at h3
      simp only [beq_eq_false_iff_ne, ne_eq]
      exact fun e => h3 (UInt8.toNat_inj.1 (by rw [e]; rfl))
/-- what is written is read -/
theorem dec_text : ∀ (l : List StepM) (n : Nat), (∀ s ∈ l, shown s = true ∧ (∀ x ∈ s.ns, In64 x) ∧ In64 s.w ∧ In64 s.c ∧ In64 s.m) → decR n (linesS (l.flatMap lineL)) = .ok (l.map canon)
  | [], n, _ => by rw [List.flatMap_nil, lines_nil, decR]; rfl
  | s :: l, n, h => by
    obtain ⟨h1, h2, h3, h4, h5⟩ := h s List.mem_cons_self
    obtain ⟨e1, e2, e3⟩ := line_read s h1 h2 h3 h4 h5
    rw [List.flatMap_cons, lineL, List.append_assoc, List.singleton_append, lines_pre _ _ e3, decR, e2]
    simp only [Bool.false_eq_true, if_false]
    rw [e1]
    simp only
    rw [dec_text l (n + 1) (fun x hx => h x (List.mem_cons_of_mem _ hx))]
    rfl
theorem decS_text (l : List StepM) (h : ∀ s ∈ l, (∀ x ∈ s.ns, In64 x) ∧ In64 s.w ∧ In64 s.c ∧ In64 s.m) : decS (textL l) = .ok ((l.filter shown).map canon) :=
  dec_text _ 1 fun s hs => ⟨(List.mem_filter.1 hs).2, h s (List.mem_filter.1 hs).1⟩
theorem count_text : ∀ (l : List StepM), (∀ s ∈ l, shown s = true ∧ (∀ x ∈ s.ns, In64 x) ∧ In64 s.w ∧ In64 s.c ∧ In64 s.m) → (l.flatMap lineL).count 10 = l.length
  | [], _ => rfl
  | s :: l, h => by
    obtain ⟨h1, h2, h3, h4, h5⟩ := h s List.mem_cons_self
    obtain ⟨_, _, e3⟩ := line_read s h1 h2 h3 h4 h5
    have h0 : (Lib.join (partsL s) [32]).count 10 = 0 := List.count_eq_zero.2 fun hm => e3 10 hm rfl
    rw [List.flatMap_cons, List.count_append, lineL, List.count_append, h0, count_text l (fun x hx => h x (List.mem_cons_of_mem _ hx)), List.length_cons]
    simp; omega
end Go.Proofs.YtijlfggficjamaaDoor

namespace Go.Proofs.YtijlfggficjamaaDoor
set_option linter.unusedVariables false
set_option linter.unusedSimpArgs false
open Go Go.RowKit
open Go.Lib (hid)

theorem cleanK_in (k : Int) : 1 ≤ cleanK k ∧ cleanK k ≤ 23 := by unfold cleanK; split <;> omega
theorem map_getD {α : Type} (d : α) (l : List α) : (List.range l.length).map (fun i => l.getD i d) = l := by
  refine List.ext_getElem (by simp) fun i h1 h2 => ?_
  simp [List.getD_eq_getElem?_getD, h2]
theorem flat_range {α : Type} (n : Nat) (f : Nat → α) : ∀ t : Nat, (List.range t).flatMap (fun k => (List.range n).map fun i => f (k * n + i)) = (List.range (t * n)).map f
  | 0 => by simp
  | t + 1 => by
    rw [List.range_succ, List.flatMap_append, flat_range n f t, Nat.add_mul, Nat.one_mul, List.range_add, List.map_append, List.map_map]
    simp [Function.comp_def]
theorem row_a (k : Nat) (h : k < 24) : (rowOf k).a = true → (rowOf k).s = 1 := by
  have : ∀ i : Fin 24, (rowOf i.val).a = true → (rowOf i.val).s = 1 := by decide +kernel
  exact this ⟨k, h⟩
theorem clean_kind (s : StepM) : (cleanM s).kind = cleanK s.kind := by
  unfold cleanM
  simp only
  split
  · rfl
  · split <;> rfl
theorem clean_shown (s : StepM) : shown (cleanM s) = true := by
  have := cleanK_in s.kind
  simp only [shown, clean_kind, Bool.and_eq_true, decide_eq_true_eq]
  omega
theorem clean_canon (s : StepM) : canon (cleanM s) = cleanM s := by
  have hk : (cleanM s).kind.toNat = cleanK s.kind := by rw [clean_kind]; omega
  have h23 := (cleanK_in s.kind).2
  have hra := row_a (cleanK s.kind) (by omega)
  unfold canon
  simp only [hk]
  obtain ⟨r, hr⟩ : ∃ r, r = rowOf (cleanK s.kind) := ⟨_, rfl⟩
  rw [← hr] at hra ⊢
  have hc : cleanM s = if r.o then ⟨cleanK s.kind, [], [], s.w, s.c, s.m⟩
      else if r.a then ⟨cleanK s.kind, fewM s.ns (s.ss.length * r.n), s.ss, 0, 0, 0⟩
      else ⟨cleanK s.kind, fewM s.ns r.n, someM s.ss r.s, 0, 0, 0⟩ := by rw [hr]; rfl
  by_cases ho : r.o = true
  · rw [if_pos ho] at hc
    rw [if_pos ho, hc]
  · rw [if_neg ho] at hc
    rw [if_neg ho]
    unfold numsR wordsT
    rw [flat_range r.n (fun i => (cleanM s).num i), flat_range r.s (fun i => (cleanM s).word i)]
    by_cases ha : r.a = true
    · rw [if_pos ha] at hc
      rw [hc]
      simp only [timesOf, ha, if_true, hra ha, Nat.mul_one, StepM.num, StepM.word]
      congr 1
      · have := map_getD (0 : Int) (fewM s.ns (s.ss.length * r.n))
        rwa [fewM_len] at this
      · exact map_getD _ _
    · rw [if_neg ha] at hc
      rw [hc]
      simp only [timesOf, ha, StepM.num, StepM.word]
      congr 1
      · have := map_getD (0 : Int) (fewM s.ns r.n)
        simpa [fewM_len] using this
      · have := map_getD ByteArray.empty (someM s.ss r.s)
        simpa [someM_len] using this
theorem few_in {l : List Int} (h : ∀ x ∈ l, In64 x) (k : Nat) : ∀ x ∈ fewM l k, In64 x := by
  intro x hx
  obtain ⟨i, _, rfl⟩ := List.mem_map.1 hx
  rw [List.getD_eq_getElem?_getD]
  cases hg : l[i]? with
  | none => simp [In64]
  | some y => exact h y (List.mem_of_getElem? hg)
theorem clean_ok {s : StepM} (h : s.ok) : (cleanM s).ok := by
  have hk := cleanK_in s.kind
  have hs : (rowOf (cleanK s.kind)).s ≤ 1 := by
    have : ∀ i : Fin 24, (rowOf i.val).s ≤ 1 := by decide +kernel
    exact this ⟨cleanK s.kind, by omega⟩
  unfold cleanM
  simp only
  split
  · exact ⟨by simp only; omega, by simp, by simp, by simp, h.w, h.c, h.m⟩
  · split
    · exact ⟨by simp only; omega, few_in h.ns _, h.len, h.ss, by simp, by simp, by simp⟩
    · refine ⟨by simp only; omega, few_in h.ns _, by simp only [someM_len]; omega, ?_, by simp, by simp, by simp⟩
      intro x hx
      obtain ⟨i, _, rfl⟩ := List.mem_map.1 hx
      rw [List.getD_eq_getElem?_getD]
      cases hg : s.ss[i]? with
      | none => exact (by decide : ByteArray.empty.size ≤ 1048576)
      | some y => exact h.ss y (List.mem_of_getElem? hg)
theorem some_sum (l : List ByteArray) (k : Nat) (h : k ≤ 1) : sizeSum (someM l k) ≤ sizeSum l := by
  match k, h with
  | 0, _ => simp [someM, sizeSum]
  | 1, _ =>
    cases l with
    | nil => exact (by decide : ByteArray.empty.size + 0 ≤ 0)
    | cons a r => exact (Nat.add_le_add_left (Nat.zero_le _) a.size : a.size + 0 ≤ a.size + sizeSum r)
theorem clean_wt (s : StepM) : (cleanM s).wt ≤ 2 * s.wt := by
  have hk := cleanK_in s.kind
  have hs : (rowOf (cleanK s.kind)).s ≤ 1 := by
    have : ∀ i : Fin 24, (rowOf i.val).s ≤ 1 := by decide +kernel
    exact this ⟨cleanK s.kind, by omega⟩
  have h2 := some_sum s.ss _ hs
  unfold cleanM StepM.wt
  simp only
  split
  · simp [sizeSum]; omega
  · split
    · simp only; omega
    · simp only [someM_len]; omega
theorem wts_clean (l : List StepM) : wts (l.map cleanM) ≤ 2 * wts l := by
  induction l with
  | nil => simp [wts]
  | cons s r ih =>
    have := clean_wt s
    simp only [wts, List.map_cons, List.sum_cons] at *
    omega
theorem ok_in {s : StepM} (h : s.ok) : (∀ x ∈ s.ns, In64 x) ∧ In64 s.w ∧ In64 s.c ∧ In64 s.m := ⟨h.ns, h.w, h.c, h.m⟩
/-- what is written of clean steps is read as they are -/
theorem dec_clean (l : List StepM) (h : ∀ s ∈ l, s.ok ∧ shown s = true ∧ canon s = s) : decS (textL l) = .ok l ∧ (textL l).count 10 = l.length := by
  have hf : l.filter shown = l := List.filter_eq_self.2 fun s hs => (h s hs).2.1
  constructor
  · rw [decS_text l (fun s hs => ok_in (h s hs).1), hf]
    congr 1
    exact (List.map_congr_left fun s hs => (h s hs).2.2).trans (List.map_id l)
  · unfold textL
    rw [hf]
    exact count_text l fun s hs => ⟨(h s hs).2.1, ok_in (h s hs).1⟩
end Go.Proofs.YtijlfggficjamaaDoor
