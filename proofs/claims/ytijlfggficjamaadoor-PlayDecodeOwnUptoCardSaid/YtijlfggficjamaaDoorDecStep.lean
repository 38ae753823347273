/- The contract of kindredref26.StepOf. -/
import Derived.Test.YtijlfggficjamaaDoorDecKind
import Derived.Deep.DeepCutAuto
import Derived.Deep.CutRange
namespace Go.Proofs.YtijlfggficjamaaDoor
set_option linter.unusedVariables false
set_option linter.unusedSimpArgs false
open Go Go.RowKit
open Go.Lib (hid)

theorem strs_map (l : List (List UInt8)) : strs (l.map S) = LS l := by simp [strs, LS]
def zStep : Array Value := #[.int .i64 0, .slice none 0 0, .slice none 0 0, .int .i64 0, .int .i64 0, .int .i64 0]
/-- a step, whose lists are F's -/
def StepFr (s : StepM) (v : Value) (F : Frag) : Prop :=
  ∃ nv sv F1 F2, v = .agg #[.int .i64 s.kind, nv, sv, .int .i64 s.w, .int .i64 s.c, .int .i64 s.m] ∧ F = F1 ++ F2 ∧ Rw 3 1 nv s.ns.length (ints s.ns) F1 ∧ Rw 9 1 sv s.ss.length (strs s.ss) F2
def StepPost (ws : List (List UInt8)) (w : World) (e : Ending) (w' : World) : Prop :=
  match readS ws with
  | .no c => e = .returned (.tuple #[.agg zStep, .int .i64 c]) ∧ St w w' []
  | .ok s => ∃ v F, e = .returned (.tuple #[v, .int .i64 0]) ∧ StepFr s v F ∧ St w w' F
theorem spost_no {ws : List (List UInt8)} {w w' : World} {e : Ending} {c : Int} (h : readS ws = .no c) (he : e = .returned (.tuple #[.agg zStep, .int .i64 c])) (hS : St w w' []) : StepPost ws w e w' := by
  unfold StepPost; rw [h]; exact ⟨he, hS⟩
theorem spost_ok {ws : List (List UInt8)} {w w' : World} {e : Ending} {s : StepM} {v : Value} {F : Frag} (h : readS ws = .ok s) (he : e = .returned (.tuple #[v, .int .i64 0])) (hF : StepFr s v F) (hS : St w w' F) : StepPost ws w e w' := by
  unfold StepPost; rw [h]; exact ⟨v, F, he, hF, hS⟩

theorem read_kind {w0 : List UInt8} (rest : List (List UInt8)) (h : kindOfS w0 = 0) : readS (w0 :: rest) = .no 270 := by
  simp only [readS, List.headD_cons, h, if_true]
theorem read_count {w0 : List UInt8} {rest : List (List UInt8)} {K : Nat} {r : RowM} (hK : K = kindOfS w0) (hr : rowOf K = r) (hc : (r.a = false ∧ rest.length ≠ r.n + r.s) ∨ (r.a = true ∧ rest.length % (r.n + r.s) ≠ 0)) : readS (w0 :: rest) = .no 270 := by
  subst hK
  simp only [readS, List.headD_cons, hr, List.tail_cons, hc, if_true, ite_self]
theorem read_fill {w0 : List UInt8} {rest : List (List UInt8)} {K : Nat} {r : RowM} (hK : K = kindOfS w0) (h0 : K ≠ 0) (hr : rowOf K = r) (hc : ¬ ((r.a = false ∧ rest.length ≠ r.n + r.s) ∨ (r.a = true ∧ rest.length % (r.n + r.s) ≠ 0))) :
    readS (w0 :: rest) = match fill r.n (r.n + r.s) 0 rest [] [] with
    | none => .no 30
    | some (N, T) => .ok (if r.o then ⟨K, [], T.map S, N.getD 0 0, N.getD 1 0, N.getD 2 0⟩ else ⟨K, N, T.map S, 0, 0, 0⟩) := by
  subst hK
  simp only [readS, List.headD_cons, hr, List.tail_cons, hc, h0, if_false]
  rfl
theorem infoInt' : (Tryd.prog.info? 3).map (fun i => (i.zero, i.size, i.bytes)) = some (some (.int .i64 0), 1, 8) := by kernel_rfl
theorem fill_num {n each i : Nat} {x : List UInt8} {r : List (List UInt8)} {N : List Int} {T : List (List UInt8)} {v : Int} (h : i % each < n) (hv : undecS x = some v) : fill n each i (x :: r) N T = fill n each (i + 1) r (N ++ [v]) T := by
  rw [fill, if_pos h, hv]
theorem fill_bad {n each i : Nat} {x : List UInt8} {r : List (List UInt8)} {N : List Int} {T : List (List UInt8)} (h : i % each < n) (hv : undecS x = none) : fill n each i (x :: r) N T = none := by
  rw [fill, if_pos h, hv]
theorem fill_txt {n each i : Nat} {x : List UInt8} {r : List (List UInt8)} {N : List Int} {T : List (List UInt8)} (h : ¬ i % each < n) : fill n each i (x :: r) N T = fill n each (i + 1) r N (T ++ [x]) := by
  rw [fill, if_neg h]
theorem fill_all {n : Nat} (hn : 0 < n) : ∀ (r : List (List UInt8)) (i : Nat) (N : List Int) (T : List (List UInt8)) (N' : List Int) (T' : List (List UInt8)), fill n n i r N T = some (N', T') → N'.length = N.length + r.length ∧ T' = T
  | [], i, N, T, N', T', h => by rw [fill] at h; cases h; simp
  | x :: r, i, N, T, N', T', h => by
    have hm : i % n < n := Nat.mod_lt _ hn
    cases hv : undecS x with
    | none => rw [fill_bad hm hv] at h; cases h
    | some v =>
      rw [fill_num hm hv] at h
      obtain ⟨a, b⟩ := fill_all hn r (i + 1) _ _ _ _ h
      exact ⟨by rw [a]; simp; omega, b⟩
theorem UnDec_no {x : List UInt8} (h : undecS x = none) (w : World) (hs : x.length ≤ 1000000000) (ht : Tab w) : Calls Tryd.prog 49 #[.string (S x)] w fun e w' => ∃ n, e = .returned (.tuple #[.int .i64 n, .bool false]) ∧ Below w.heap.size w w' := by
  have := UnDec_c (S x) w (by rw [S_size]; exact hs) ht
  rw [S_list] at this
  refine this.mono fun e w' ⟨⟨n, he, _⟩, hb⟩ => ⟨n, ?_, hb⟩
  rw [he, h]; rfl
theorem UnDec_yes {x : List UInt8} {v : Int} (h : undecS x = some v) (w : World) (hs : x.length ≤ 1000000000) (ht : Tab w) : Calls Tryd.prog 49 #[.string (S x)] w fun e w' => e = .returned (.tuple #[.int .i64 v, .bool true]) ∧ Below w.heap.size w w' := by
  have := UnDec_c (S x) w (by rw [S_size]; exact hs) ht
  rw [S_list] at this
  refine this.mono fun e w' ⟨⟨n, he, hv⟩, hb⟩ => ⟨?_, hb⟩
  rw [he, h, hv v h]; rfl
theorem ints_one (l : List Int) (x : Int) : ints l ++ [.int .i64 x] = ints (l ++ [x]) := by simp [ints]
theorem Rw.one {e : TypeId} {v : Value} {n : Nat} {l : List Value} {F : Frag} (h : Rw e 1 v n l F) : v.oneCell' = true := by
  obtain ⟨ad, cap, rfl, _⟩ := h.form; rfl
theorem row_at (K : Nat) (wd : List UInt8) (rn rs rN : Nat) (ro ra : Bool) (h : rowOf K = ⟨wd, rn, rs, ro, ra⟩) (h' : (refRow K).n = rN) (h1 : 1 ≤ K) (h2 : K ≤ 23) (w : World) :
    Calls Tryd.prog 39 #[.int .i64 K] w fun e w' => e = .returned (.agg #[.string (S wd), .int .i64 rN, .int .i64 rs, .bool ro, .bool ra]) ∧ Below w.heap.size w w' := by
  have := row_e K h1 h2 w
  rw [h, h'] at this
  exact this
set_option maxRecDepth 100000 in
set_option maxHeartbeats 4000000 in
theorem StepOf_c_placeholder : True := trivial
end Go.Proofs.YtijlfggficjamaaDoor
