/- The map of a union: looked up, and one number more. -/
import Derived.Test.YtgohdcegplbkjaaGuRoot
import Derived.Maps.Own
namespace Go.Proofs.Ytgohdcegplbkjaa
set_option linter.unusedVariables false
set_option linter.unusedSimpArgs false
open Go Go.RowKit Go.ChangeMaps
open Go.Lib (hid)
open Go.Maps (Keyed)

theorem keyedInt : Keyed Try.prog 3 := Go.Maps.int_keyed Try.underlying3
theorem keyInt {x : Int} (hx : -9223372036854775808 ≤ x ∧ x ≤ 9223372036854775807) : keyOf Try.prog 3 (.int .i64 x) = some (.int .i64 x) :=
  Go.Maps.keyOf_int_mk Try.underlying3 (by
    simp only [Lit.wf, Bool.and_eq_true, decide_eq_true_eq, show IntKind.i64.min = -9223372036854775808 from rfl, show IntKind.i64.max = 9223372036854775807 from rfl]
    exact hx)
theorem zeroInt (w : World) : (zeroValue 3).run Try.prog w = .ok (.int .i64 0) w := by
  obtain ⟨i, hi, hz, _⟩ := parts3 infoInt
  simp [zeroValue, typeInfo, hi, hz]
theorem MapM.mem {es : Array MapEntry} {ids : List Int} (h : MapM es ids) {e : MapEntry} (he : e ∈ es.toList) : ∃ i, i < ids.length ∧ e.key = .int .i64 (idAt ids i) ∧ e.val = .int .i64 (i : Int) := by
  have : (e.key, e.val) ∈ es.toList.map (fun e => (e.key, e.val)) := List.mem_map.2 ⟨e, he, rfl⟩
  rw [show es.toList.map (fun e => (e.key, e.val)) = _ from h] at this
  obtain ⟨⟨x, i⟩, hp, e0⟩ := List.mem_map.1 this
  rw [List.mk_mem_zipIdx_iff_getElem?] at hp
  obtain ⟨hl, hx⟩ := List.getElem?_eq_some_iff.1 hp
  simp only [Prod.mk.injEq] at e0
  refine ⟨i, hl, ?_, e0.2.symm⟩
  rw [← e0.1]
  simp [idAt, List.getD_eq_getElem?_getD, hl, hx]
theorem MapM.has {es : Array MapEntry} {ids : List Int} (h : MapM es ids) {x : Int} (hx : x ∈ ids) : ∃ e ∈ es.toList, e.key = .int .i64 x := by
  obtain ⟨i, hi, rfl⟩ := idAt_of_mem hx
  have : (Value.int .i64 (idAt ids i), Value.int .i64 (i : Int)) ∈ es.toList.map (fun e => (e.key, e.val)) := by
    rw [show es.toList.map (fun e => (e.key, e.val)) = _ from h]
    exact List.mem_map.2 ⟨(idAt ids i, i), List.mk_mem_zipIdx_iff_getElem?.2 (idAt_get hi), rfl⟩
  obtain ⟨e, he, e0⟩ := List.mem_map.1 this
  simp only [Prod.mk.injEq] at e0
  exact ⟨e, he, e0.1⟩
theorem MapM.size {es : Array MapEntry} {ids : List Int} (h : MapM es ids) : es.size = ids.length := by
  have := congrArg List.length h
  simpa using this
theorem look_run {W : World} {b : Nat} {es : Array MapEntry} {clock : Nat} {ids : List Int} (hb : W.heap[b]? = some (.map es clock)) (hM : MapM es ids) (hids : ∀ x ∈ ids, -9223372036854775808 ≤ x ∧ x ≤ 9223372036854775807) {x : Int} (hx : -9223372036854775808 ≤ x ∧ x ≤ 9223372036854775807) :
    (∃ i, i < ids.length ∧ idAt ids i = x ∧ (Instr.lookup 42 (.map (some b)) (.int .i64 x) true).run Try.prog W = .ok (.tuple #[.int .i64 (i : Int), .bool true]) W) ∨
    (x ∉ ids ∧ (Instr.lookup 42 (.map (some b)) (.int .i64 x) true).run Try.prog W = .ok (.tuple #[.int .i64 0, .bool false]) W) := by
  have hkeys : ∀ e ∈ es.toList, ∃ l, keyOf Try.prog 3 e.key = some l := fun e he => by
    obtain ⟨i, hi, hk, _⟩ := hM.mem he
    exact ⟨_, by rw [hk]; exact keyInt (hids _ (idAt_mem hi))⟩
  rcases keyedInt.find W (keyInt hx) es.toList hkeys with ⟨h1, h2⟩ | ⟨j, e0, h1, h2, h3⟩
  · refine .inr ⟨fun hm => ?_, by simp [Instr.lookup, run_underlying Try.underlying42, MapKept.run_getObj_map hb, keyedInt.check W _ (keyInt hx), h1, zeroInt, Result.andThen]⟩
    obtain ⟨e, he, hk⟩ := hM.has hm
    exact h2 e he hk
  · obtain ⟨i, hi, hk, hv⟩ := hM.mem (List.mem_of_getElem? h2)
    rw [h3] at hk
    injection hk with _ hk
    refine .inl ⟨i, hi, hk.symm, by simp [Instr.lookup, run_underlying Try.underlying42, MapKept.run_getObj_map hb, keyedInt.check W _ (keyInt hx), h1, hv, Result.andThen]⟩
theorem put_run {W0 W : World} {M : Frag} {b : Nat} {es : Array MapEntry} {clock : Nat} {ids : List Int} (hS : St W0 W ((b, .map es clock) :: M)) (hM : MapM es ids) (hids : ∀ x ∈ ids, -9223372036854775808 ≤ x ∧ x ≤ 9223372036854775807) {x : Int} (hx : -9223372036854775808 ≤ x ∧ x ≤ 9223372036854775807) (hno : x ∉ ids) (hroom : ids.length < maxLen) :
    ∃ W' es', (Instr.mapUpdate 42 (.map (some b)) (.int .i64 x) (.int .i64 (ids.length : Int))).run Try.prog W = .ok () W' ∧ St W0 W' ((b, .map es' (clock + 1)) :: M) ∧ MapM es' (ids ++ [x]) := by
  have hb := hS.get
  have hkeys : ∀ e ∈ es.toList, ∃ l, keyOf Try.prog 3 e.key = some l := fun e he => by
    obtain ⟨i, hi, hk, _⟩ := hM.mem he
    exact ⟨_, by rw [hk]; exact keyInt (hids _ (idAt_mem hi))⟩
  rcases keyedInt.find W (keyInt hx) es.toList hkeys with ⟨h1, h2⟩ | ⟨j, e0, h1, h2, h3⟩
  · refine ⟨setBlock W b (.map (es.push ⟨.int .i64 x, .int .i64 (ids.length : Int), clock⟩) (clock + 1)), es.push ⟨.int .i64 x, .int .i64 (ids.length : Int), clock⟩, by simp [Instr.mapUpdate, run_underlying Try.underlying42, MapKept.run_getObj_map hb, keyedInt.check W false (keyInt hx), h1, MapKept.run_setObj_map _ hb, Result.andThen, setBlock], ?_, ?_⟩
    · exact hS.put ⟨rfl, rfl, rfl, by simp [setBlock], fun i _ hi => heap_setBlock_other hb _ (fun e => hi (by rw [e]))⟩ (heap_setBlock_same hb _)
    · unfold MapM
      rw [Array.toList_push, List.map_append, show es.toList.map (fun e => (e.key, e.val)) = _ from hM, List.zipIdx_append, List.map_append]
      simp
  · obtain ⟨i, hi, hk, _⟩ := hM.mem (List.mem_of_getElem? h2)
    rw [h3] at hk
    injection hk with _ hk
    exact absurd (by rw [hk]; exact idAt_mem hi) hno
end Go.Proofs.Ytgohdcegplbkjaa
