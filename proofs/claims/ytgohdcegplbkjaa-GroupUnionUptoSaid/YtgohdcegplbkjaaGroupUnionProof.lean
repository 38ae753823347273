/-
  Proved here: 'kindredlaw20.GroupUnion' in its second form: the call returns true, and leaves its arguments as they were. Conditions: the row's own list; the arguments hold together at most 1048576 values and letters (the given bound).
-/
import Derived.Test.YtgohdcegplbkjaaRows
import Derived.Test.YtgohdcegplbkjaaGuOpen
import Derived.Deep.DeepHandedRow
import Derived.Deep.DeepWitnessRowRef
import Derived.LaidMore
namespace Go.Proofs.Ytgohdcegplbkjaa.groupUnion
open Go.ChangeShapes Go.WideShapes Go.ChangeAt Go.RowKit
set_option linter.unusedVariables false

theorem own : ownKnob Try.prog.godebug = none := by kernel_rfl

set_option maxRecDepth 100000 in
theorem contract (H : Type) (enc : TypeId × Value → H) (W : World) (base : Nat) (args : Array Value) (ds gs : List (DataW H)) (before : List MemPlace)
    (hval : ∀ (j : Nat) t v, Try.f3.params[j]? = some t → args[j]? = some v → Value.okWide Try.prog W .any base t v)
    (hW : DataW.Whole enc Try.prog Try.f3.params.toList Rows.groupUnionSpec.vars false W args.toList ds gs before) (hk : Rows.uptoSmall H (ds ++ gs) = true) (hsh : W.ShapedOpen Try.prog)
    (hL : laidMetH Try.prog Rows.groupUnionUptoRow.laid W) :
    Calls Try.prog 3 args W fun e W' => ∃ v, e = .returned v ∧ Rows.groupUnionSpec.post enc Try.prog Try.f3 false true false false W args v W' := by
  have hW' := hW
  obtain ⟨p, q, hA0, hV, rfl, hfz, hnd⟩ := hW
  have hA : DataW.TrodAll enc Try.prog W 0 (fun _ => true) true Try.f3.params.toList args.toList ds p := hA0
  rw [Try.params3] at hA hval
  have hA1 := hA
  obtain ⟨v0, vs0, d0, ds0, p0, q0, hargs0, rfl, rfl, h0, r0⟩ := trodAll_cons hA
  obtain ⟨v1, vs1, d1, ds1, p1, q1, hargs1, rfl, rfl, h1, r1⟩ := trodAll_cons r0
  obtain ⟨rfl, rfl, rfl⟩ := trodAll_nil r1
  obtain rfl : args = #[v0, v1] := by cases args; simp_all
  obtain ⟨rfl, rfl⟩ := trodVars_none hV
  have hv0 := hval 0 _ v0 rfl rfl
  have hv1 := hval 1 _ v1 rfl rfl
  have hbd : Rows.uptoBulkAll [d0, d1] ≤ 1048576 := of_decide_eq_true hk
  simp only [Rows.uptoBulkAll, Nat.add_zero] at hbd
  have hL' : laidMet Try.prog Rows.groupUnionUptoRow.laid W := hL
  have walk : Calls Try.prog 3 #[v0, v1] W fun e w' => e = .returned (.bool true) ∧ Below W.heap.size W w' := by
    obtain ⟨ids, hi, hin, hids, hn⟩ := open_ids hv0 h0 (by omega)
    obtain ⟨xs, hs, hok, hx⟩ := open_jsteps hv1 h1 (by omega)
    exact unionLaw_c W v0 v1 ids xs hi hin hids hs hok (Nat.le_trans hn (by decide)) (Nat.le_trans hx (by decide))
  have hag : ∀ W', Below W.heap.size W W' → ∀ sp : Nat → Bool, (∀ x : MemPlace, x ∈ _ → sp x.block = true) → DataW.TrodAll enc Try.prog W' 0 sp true _ _ _ _ := fun W' hb sp hsp => trod_again hA1 (by decide +kernel) hb (fun x hx => hW'.lt x (List.mem_append_left _ hx)) sp hsp
  refine walk.mono fun e W' ⟨he, hg⟩ => ?_
  subst he
  exact ⟨_, rfl, _, _, _, [], _, [], hW', trodAll_cons_mk (shut_bool Try.underlying4 _) trodAll_mk0, hag W' hg _ (fun x hx => by simpa using hW'.lt x (List.mem_append_left _ hx)), rfl, hg.frame _, fun h => by cases h⟩

theorem laid_met (os : Os) : laidMet Try.prog Rows.groupUnionUptoRow.laid ((World.doorLaid Try.prog 400 os).forCall (fun _ _ => 0) ⟨#[], #[.slice none 0 0, .slice none 0 0], []⟩).memory :=
  laidMet_of_run' 8 (by kernel_rfl) (by kernel_rfl)
theorem reads (os : Os) {H : Type} (enc : TypeId × Value → H) : ∃ places, DataW.whole enc Try.prog ((World.doorLaid Try.prog 400 os).forCall (fun _ _ => 0) ⟨#[], #[.slice none 0 0, .slice none 0 0], []⟩).memory Try.f3.params.toList Rows.groupUnionSpec.vars false (#[.slice none 0 0, .slice none 0 0] : Array Value).toList 8 = some ([.nil, .nil], [], places) :=
  ⟨[], by kernel_rfl⟩

set_option maxRecDepth 100000 in
theorem lifted (os : Os) (started : os.Started) (H : Type) (enc : TypeId × Value → H) (F : Stop.Interp) :
    ReturnsInHanded {} Try.checked os 3 .any ((Rows.OpenSpec.upto Rows.groupUnionSpec).preRow enc Try.prog Try.f3 Rows.groupUnionUptoRow.domain false Rows.groupUnionUptoRow.laid) (((Rows.OpenSpec.upto Rows.groupUnionSpec).at F).post enc Try.prog Try.f3 false true false false) := by
  obtain ⟨places, hx⟩ := reads os enc
  refine returnsInHanded_of_row (C := Try.checked) (s := Rows.OpenSpec.upto Rows.groupUnionSpec) own started (by kernel_rfl) Try.func3
    (witness_row_atRef (enc := enc) (C := Try.checked) false (World.doorLaid Try.prog 400 os) #[.slice none 0 0, .slice none 0 0] rfl (by kernel_rfl) (by kernel_rfl) (by kernel_rfl)
      (OpenSpec.preRow_of_cond 8 hx (by kernel_rfl) (fun k hk => by cases hk; kernel_rfl) (by kernel_rfl) (laid_met os))) ?_
  intro W base args ds gs before hval hW _ hcond _ hL hsh _
  exact contract H enc W base args ds gs before hval hW (hcond _ rfl) hsh hL

theorem e1 : Try.prog.inPlace 3 = Rows.groupUnionUptoRow.inPlace := by kernel_rfl
theorem e2 : Try.prog.unfollowed 3 = Rows.groupUnionUptoRow.unfollowed := by kernel_rfl
theorem e3 : Try.prog.recurses 3 = Rows.groupUnionUptoRow.recurses := by kernel_rfl
theorem e4 : Try.prog.varsNamed 3 = Rows.groupUnionUptoRow.named := by kernel_rfl
theorem closed : joinedFacts Try.pinned.checked.prog 3 Try.f3 (Rows.OpenSpec.upto Rows.groupUnionSpec).bare Rows.groupUnionUptoRow = true := by
  show joinedFacts Try.prog _ _ _ _ = true
  unfold joinedFacts
  rw [e1, e2, e3, e4]
  kernel_rfl

theorem said : Rows.GroupUnionUptoSaid :=
  OpenClaim.holds_of_cond 3 Try.f3 rfl rfl rfl rfl rfl rfl rfl ⟨rfl, rfl, rfl, rfl, rfl⟩ rfl rfl rfl rfl rfl (by kernel_rfl) Try.func3 closed
    (of_decide_eq_true (by kernel_rfl)) (by unfold Func.isWrapper; first | (rw [if_pos (by decide +kernel)]; kernel_rfl) | (rw [if_neg (by decide +kernel)]; exact ⟨rfl, rfl⟩))
    (fun os started H enc _ F => by rw [OpenClaim.pre_eq_preRow]; exact lifted os started H enc F)

/-- The statement. -/
theorem proved : Rows.GroupUnionUptoSaid := said
#print axioms proved
end Go.Proofs.Ytgohdcegplbkjaa.groupUnion
