/- Plain Lean: how a script is read. No program in sight. -/
import Derived.Test.YtijlfggficjamaaDoorPlaySpec
import Derived.Lib.Split
import Derived.Lib.SplitLaws
import Derived.Lib.IndexBytes
import Derived.Lib.IndexLaws
import Derived.Lib.IndexMore
import Derived.Lib.AtoiAll
namespace Go.Proofs.YtijlfggficjamaaDoor
set_option linter.unusedVariables false
set_option linter.unusedSimpArgs false
open Go Go.RowKit
open Go.Lib (hid)

/-! ### a word's escapes -/
def hexv (c : UInt8) : Nat := if 48 ≤ c.toNat ∧ c.toNat ≤ 57 then c.toNat - 48 else if 65 ≤ c.toNat ∧ c.toNat ≤ 70 then c.toNat - 55 else 16
def hexI (c : UInt8) : Int := if hexv c < 16 then hexv c else -1
theorem hexv_le (c : UInt8) : hexv c ≤ 16 := by unfold hexv; split <;> (try split) <;> omega
theorem idx_digits (c : UInt8) : Lib.indexByte [48, 49, 50, 51, 52, 53, 54, 55, 56, 57, 65, 66, 67, 68, 69, 70] c = hexI c := by
  have h : ∀ n : Fin 256, Lib.indexByte [48, 49, 50, 51, 52, 53, 54, 55, 56, 57, 65, 66, 67, 68, 69, 70] (UInt8.ofNat n.val) = hexI (UInt8.ofNat n.val) := by decide +kernel
  have := h ⟨c.toNat, c.toNat_lt⟩
  simpa using this
def hexB (a b : UInt8) : UInt8 := UInt8.ofNat (hexv a * 16 + hexv b)
def parse : List UInt8 → Option (List UInt8)
  | [] => some []
  | c :: r =>
    if c.toNat = 37 then
      match r with
      | a :: b :: q => if hexv a < 16 ∧ hexv b < 16 then (parse q).map (hexB a b :: ·) else none
      | _ => none
    else (parse r).map (c :: ·)
theorem parse_plain {c : UInt8} (r : List UInt8) (h : c.toNat ≠ 37) : parse (c :: r) = (parse r).map (c :: ·) := by
  match r with
  | [] => simp [parse, h]
  | [x] => simp [parse, h]
  | a :: b :: q => simp [parse, h]
theorem parse_hex {c a b : UInt8} (q : List UInt8) (h : c.toNat = 37) (ha : hexv a < 16) (hb : hexv b < 16) : parse (c :: a :: b :: q) = (parse q).map (hexB a b :: ·) := by
  rw [parse, if_pos h, if_pos ⟨ha, hb⟩]
theorem parse_bad {c a b : UInt8} (q : List UInt8) (h : c.toNat = 37) (hh : ¬ (hexv a < 16 ∧ hexv b < 16)) : parse (c :: a :: b :: q) = none := by
  rw [parse, if_pos h, if_neg hh]
theorem parse_short {c : UInt8} (r : List UInt8) (h : c.toNat = 37) (hr : r.length < 2) : parse (c :: r) = none := by
  match r, hr with
  | [], _ => simp [parse, h]
  | [_], _ => simp [parse, h]
/-- what unescaped answers -/
def unescR (w : List UInt8) : List UInt8 × Bool :=
  if w = [37] then ([], true) else match parse w with
    | none => ([], false)
    | some s => (s, decide (s ≠ [] ∧ escL s = w))
def unescO (w : List UInt8) : Option (List UInt8) := if (unescR w).2 then some (unescR w).1 else none
theorem unescR_pct : unescR [37] = ([], true) := by simp [unescR]
theorem unescR_none {w : List UInt8} (h : w ≠ [37]) (hp : parse w = none) : unescR w = ([], false) := by rw [unescR, if_neg h, hp]
theorem unescR_some {w s : List UInt8} (h : w ≠ [37]) (hp : parse w = some s) : unescR w = (s, decide (s ≠ [] ∧ escL s = w)) := by rw [unescR, if_neg h, hp]
theorem parse_len : ∀ (w s : List UInt8), parse w = some s → s.length ≤ w.length
  | [], s, h => by simp [parse] at h; simp [h]
  | c :: r, s, h => by
    by_cases hc : c.toNat = 37
    · match r with
      | [] => rw [parse_short _ hc (by simp)] at h; cases h
      | [_] => rw [parse_short _ hc (by simp)] at h; cases h
      | a :: b :: q =>
        by_cases hh : hexv a < 16 ∧ hexv b < 16
        · rw [parse_hex q hc hh.1 hh.2] at h
          obtain ⟨s', h', rfl⟩ := Option.map_eq_some_iff.1 h
          have := parse_len q s' h'
          simp; omega
        · rw [parse_bad q hc hh] at h; cases h
    · rw [parse_plain r hc] at h
      obtain ⟨s', h', rfl⟩ := Option.map_eq_some_iff.1 h
      have := parse_len r s' h'
      simp; omega
theorem unescR_len (w : List UInt8) : (unescR w).1.length ≤ w.length := by
  unfold unescR
  split
  · simp
  · split
    · simp
    · exact parse_len _ _ ‹_›

/-! ### parting at a byte -/
def splitAt' (c : UInt8) : List UInt8 → List (List UInt8)
  | [] => [[]]
  | x :: r => if x = c then [] :: splitAt' c r else match splitAt' c r with
    | [] => [[x]]
    | h :: t => (x :: h) :: t
theorem split_ne (c : UInt8) (l : List UInt8) : splitAt' c l ≠ [] := by
  cases l with
  | nil => simp [splitAt']
  | cons x r => unfold splitAt'; split <;> (try split) <;> simp
theorem split_sep (c : UInt8) (r : List UInt8) : splitAt' c (c :: r) = [] :: splitAt' c r := by rw [splitAt', if_pos rfl]
theorem split_pre (c : UInt8) : ∀ (p r : List UInt8), (∀ x ∈ p, x ≠ c) → splitAt' c (p ++ c :: r) = p :: splitAt' c r
  | [], r, _ => split_sep c r
  | x :: p, r, h => by
    rw [List.cons_append, splitAt', if_neg (h x List.mem_cons_self), split_pre c p r (fun y hy => h y (List.mem_cons_of_mem _ hy))]
theorem split_all (c : UInt8) : ∀ (p : List UInt8), (∀ x ∈ p, x ≠ c) → splitAt' c p = [p]
  | [], _ => rfl
  | x :: p, h => by rw [splitAt', if_neg (h x List.mem_cons_self), split_all c p (fun y hy => h y (List.mem_cons_of_mem _ hy))]
theorem split_sum (c : UInt8) : ∀ (l : List UInt8), ((splitAt' c l).map fun p => p.length + 1).sum = l.length + 1
  | [] => by simp [splitAt']
  | x :: r => by
    have ih := split_sum c r
    rw [splitAt']
    split
    · simp only [List.map_cons, List.sum_cons, List.length_nil, List.length_cons]; omega
    · split
      · rename_i h; exact absurd h (split_ne c r)
      · rename_i h t e
        rw [e] at ih
        simp only [List.map_cons, List.sum_cons, List.length_cons] at ih ⊢
        omega
theorem sum_mem : ∀ {l : List Nat} {x : Nat}, x ∈ l → x ≤ l.sum
  | a :: r, x, h => by
    rw [List.sum_cons]
    rcases List.mem_cons.1 h with rfl | h
    · omega
    · have := sum_mem h; omega
theorem split_mem_len {c : UInt8} {l p : List UInt8} (h : p ∈ splitAt' c l) : p.length ≤ l.length := by
  have h1 := split_sum c l
  have h2 : p.length + 1 ≤ ((splitAt' c l).map fun p => p.length + 1).sum := sum_mem (List.mem_map.2 ⟨p, h, rfl⟩)
  omega
theorem split_len (c : UInt8) (l : List UInt8) : (splitAt' c l).length ≤ l.length + 1 := by
  have h1 := split_sum c l
  have h2 : ∀ L : List (List UInt8), L.length ≤ (L.map fun p => p.length + 1).sum := by
    intro L
    induction L with
    | nil => simp
    | cons a r ih => simp only [List.length_cons, List.map_cons, List.sum_cons]; omega
  have := h2 (splitAt' c l)
  omega
/-- the library's split at one byte is this one -/
theorem splitK_one (c : UInt8) : ∀ (k : Nat) (s : List UInt8), s.count c ≤ k → Lib.splitK [c] 0 k s = splitAt' c s
  | 0, s, h => by
    have h0 : ∀ x ∈ s, x ≠ c := fun x hx e => by subst e; have := List.count_pos_iff.2 hx; omega
    rw [split_all c s h0]; rfl
  | k + 1, s, h => by
    unfold Lib.splitK
    rw [Lib.index_one]
    by_cases hi : Lib.indexByte s c = -1
    · rw [hi]
      simp only [beq_self_eq_true, if_true]
      have h0 : ∀ x ∈ s, x ≠ c := fun x hx e => by
        obtain ⟨j, hj⟩ := List.mem_iff_getElem?.1 hx
        exact Lib.indexByte_none hi j (by rw [hj, e])
      rw [split_all c s h0]
    · obtain ⟨i, hi'⟩ : ∃ i : Nat, Lib.indexByte s c = i := ⟨(Lib.indexByte s c).toNat, by have := Lib.indexByte_ge s c; omega⟩
      have hne : ((i : Int) == -1) = false := beq_eq_false_iff_ne.2 (by omega)
      rw [hi']
      simp only [hne, Bool.false_eq_true, if_false, Int.toNat_natCast, Nat.add_zero, List.length_cons, List.length_nil, Nat.zero_add]
      obtain ⟨h1, h2⟩ := Lib.indexByte_some hi'
      have hil : i < s.length := (List.getElem?_eq_some_iff.1 h1).1
      have hsp : s = s.take i ++ c :: s.drop (i + 1) := by
        have e : s[i] = c := by have := (List.getElem?_eq_some_iff.1 h1).2; exact this
        rw [← e, ← List.drop_eq_getElem_cons hil, List.take_append_drop]
      have hp : ∀ x ∈ s.take i, x ≠ c := fun x hx e => by
        obtain ⟨j, hj⟩ := List.mem_iff_getElem?.1 hx
        have hji : j < i := by have := (List.getElem?_eq_some_iff.1 hj).1; rw [List.length_take] at this; omega
        rw [List.getElem?_take_of_lt hji] at hj
        exact h2 j hji (by rw [hj, e])
      have hc : (s.drop (i + 1)).count c ≤ k := by
        have e := congrArg (List.count c) hsp
        rw [List.count_append, List.count_cons_self] at e
        omega
      rw [splitK_one c k _ hc]
      conv => rhs; rw [hsp]
      rw [split_pre c _ _ hp]
theorem splitB_one (c : UInt8) (s : ByteArray) : (Lib.splitB ⟨#[c]⟩ 0 (Lib.countB s ⟨#[c]⟩) s).map (·.data.toList) = splitAt' c s.data.toList := by
  rw [Lib.splitB_data]
  refine splitK_one c _ _ ?_
  show _ ≤ Lib.count s.data.toList [c]
  rw [Lib.count_one]
  exact Nat.le_refl _

/-! ### the words of a line -/
def wordsR : List (List UInt8) → Option (List (List UInt8))
  | [] => some []
  | p :: r => match unescO p with
    | none => none
    | some s => (wordsR r).map (s :: ·)
theorem wordsR_app (a b : List (List UInt8)) : wordsR (a ++ b) = (wordsR a).bind fun x => (wordsR b).map (x ++ ·) := by
  induction a with
  | nil => simp [wordsR]
  | cons p r ih =>
    rw [List.cons_append, wordsR, wordsR]
    cases unescO p with
    | none => rfl
    | some s =>
      simp only [ih]
      cases wordsR r with
      | none => rfl
      | some x =>
        cases wordsR b with
        | none => rfl
        | some y => rfl
theorem wordsR_snoc {a x : List (List UInt8)} {p s : List UInt8} (ha : wordsR a = some x) (hp : unescO p = some s) : wordsR (a ++ [p]) = some (x ++ [s]) := by
  rw [wordsR_app, ha]; simp [wordsR, hp]
theorem wordsR_fail {a b : List (List UInt8)} {p : List UInt8} (hp : unescO p = none) : wordsR (a ++ p :: b) = none := by
  rw [wordsR_app]
  cases wordsR a with
  | none => rfl
  | some y => simp [wordsR, hp]
def wordsS (line : List UInt8) : Option (List (List UInt8)) := wordsR (splitAt' 32 line)
theorem unescO_len {p s : List UInt8} (h : unescO p = some s) : s.length ≤ p.length := by
  unfold unescO at h
  split at h
  · cases h; exact unescR_len p
  · cases h
theorem wordsR_len : ∀ (a x : List (List UInt8)), wordsR a = some x → x.length = a.length ∧ (x.map fun p => p.length + 1).sum ≤ (a.map fun p => p.length + 1).sum
  | [], x, h => by simp [wordsR] at h; subst h; simp
  | p :: r, x, h => by
    rw [wordsR] at h
    cases hp : unescO p with
    | none => rw [hp] at h; cases h
    | some s =>
      rw [hp] at h
      obtain ⟨y, hy, rfl⟩ := Option.map_eq_some_iff.1 h
      have := wordsR_len r y hy
      have := unescO_len hp
      simp only [List.length_cons, List.map_cons, List.sum_cons]
      omega
theorem wordsS_ne {l : List UInt8} {x : List (List UInt8)} (h : wordsS l = some x) : x ≠ [] := by
  intro e
  have := (wordsR_len _ _ h).1
  rw [e] at this
  exact split_ne 32 l (List.length_eq_zero_iff.1 this.symm)

/-! ### numbers -/
def undecS (w : List UInt8) : Option Int := match Lib.atoiAll w with
  | .ok v => if Lib.itoa v = w then some v else none
  | _ => none
theorem undec_ok {w : List UInt8} {v : Int} (h : Lib.atoiAll w = .ok v) : undecS w = if Lib.itoa v = w then some v else none := by rw [undecS, h]
theorem undec_no {w : List UInt8} (h : ∀ v, Lib.atoiAll w ≠ .ok v) : undecS w = none := by
  unfold undecS
  split
  · rename_i v e; exact absurd e (h v)
  · rfl

/-! ### a step out of its words -/
def kindOfS (word : List UInt8) : Nat := (List.range 24).foldl (fun k i => if 0 < i ∧ (rowOf i).word = word then i else k) 0
def fill (n each : Nat) : Nat → List (List UInt8) → List Int → List (List UInt8) → Option (List Int × List (List UInt8))
  | _, [], N, T => some (N, T)
  | i, w :: r, N, T => if i % each < n then match undecS w with
      | none => none
      | some v => fill n each (i + 1) r (N ++ [v]) T
    else fill n each (i + 1) r N (T ++ [w])
inductive Res (α : Type) where
  | ok (x : α)
  | no (e : Int)
def readS (ws : List (List UInt8)) : Res StepM :=
  let k := kindOfS (ws.headD [])
  let r := rowOf k
  let rest := ws.tail
  if k = 0 then .no 270
  else if (r.a = false ∧ rest.length ≠ r.n + r.s) ∨ (r.a = true ∧ rest.length % (r.n + r.s) ≠ 0) then .no 270
  else match fill r.n (r.n + r.s) 0 rest [] [] with
    | none => .no 30
    | some (N, T) => .ok (if r.o then ⟨k, [], T.map S, N.getD 0 0, N.getD 1 0, N.getD 2 0⟩ else ⟨k, N, T.map S, 0, 0, 0⟩)
def lineS (line : List UInt8) : Res StepM := match wordsS line with
  | none => .no 32
  | some ws => readS ws
/-! ### lines -/
def linesS (t : List UInt8) : List (List UInt8) := match (splitAt' 10 t).getLast? with
  | some [] => (splitAt' 10 t).dropLast
  | _ => splitAt' 10 t
theorem lines_nil : linesS [] = [] := rfl
theorem lines_pre (p r : List UInt8) (h : ∀ x ∈ p, x ≠ 10) : linesS (p ++ 10 :: r) = p :: linesS r := by
  unfold linesS
  rw [split_pre 10 p r h]
  have hne := split_ne 10 r
  rw [List.getLast?_cons_of_ne_nil hne, List.dropLast_cons_of_ne_nil hne]
  split <;> simp_all
theorem lines_last (p : List UInt8) (h : ∀ x ∈ p, x ≠ 10) (hne : p ≠ []) : linesS p = [p] := by
  unfold linesS
  rw [split_all 10 p h]
  cases p with
  | nil => exact absurd rfl hne
  | cons a r => rfl
def skip (l : List UInt8) : Bool := match l with
  | [] => true
  | c :: _ => c.toNat == 35
/-- what Decode answers: the steps; or the line's number and the refusal -/
inductive Dec where
  | ok (l : List StepM)
  | no (n : Nat) (e : Int)
def Dec.cons (s : StepM) : Dec → Dec
  | .ok l => .ok (s :: l)
  | .no n e => .no n e
def decR : Nat → List (List UInt8) → Dec
  | _, [] => .ok []
  | n, l :: r => if skip l then decR (n + 1) r else match lineS l with
    | .no e => .no n e
    | .ok s => (decR (n + 1) r).cons s
def decS (t : List UInt8) : Dec := decR 1 (linesS t)
end Go.Proofs.YtijlfggficjamaaDoor
