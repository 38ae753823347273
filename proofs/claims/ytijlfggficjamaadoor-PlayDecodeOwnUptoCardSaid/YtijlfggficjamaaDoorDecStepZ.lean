/- The contract of kindredref26.StepOf: all kinds. -/
import Derived.Test.YtijlfggficjamaaDoorDecStepE
import Derived.Test.YtijlfggficjamaaDoorDecStepC
import Derived.Test.YtijlfggficjamaaDoorDecStepM
import Derived.Test.YtijlfggficjamaaDoorDecStepP
import Derived.Deep.RegionLaw
import Derived.Deep.DeepCutAuto
import Derived.Deep.CutRange
import Derived.StillTailTactics
namespace Go.Proofs.YtijlfggficjamaaDoor
set_option linter.unusedVariables false
set_option linter.unusedSimpArgs false
open Go Go.RowKit
open Go.Lib (hid)

theorem StepOf_c (w : World) (v0 : Value) (w0 : List UInt8) (rest : List (List UInt8)) (hv : RowOf w v0 (LS (w0 :: rest))) (hlen : rest.length ≤ 1000000000) (hbs : ∀ x ∈ rest, x.length ≤ 1000000000) (ht : Tab w) :
    Calls Tryd.prog 30 #[v0] w (StepPost (w0 :: rest) w) := by
  by_cases h0 : kindOfS w0 = 0
  · exact StepOf_zero w v0 w0 rest hv hlen hbs ht h0
  · by_cases h1 : kindOfS w0 = 1
    · by_cases hc : rest.length = 3
      · exact StepOf_okC w v0 w0 rest hv hlen hbs ht h1 hc
      · exact StepOf_cntC w v0 w0 rest hv hlen hbs ht h1 hc
    · by_cases h13 : kindOfS w0 = 13
      · by_cases hc : rest.length % 3 = 0
        · exact StepOf_okM w v0 w0 rest hv hlen hbs ht h13 hc
        · exact StepOf_cntM w v0 w0 rest hv hlen hbs ht h13 hc
      · have hk := kind_le w0
        obtain ⟨wd, rn, rs, ro, ra, hR⟩ : ∃ wd rn rs ro ra, rowOf (kindOfS w0) = ⟨wd, rn, rs, ro, ra⟩ := ⟨_, _, _, _, _, rfl⟩
        have hsm := row_small (kindOfS w0)
        have hoa : ∀ i : Fin 24, i.val ≠ 1 → i.val ≠ 13 → (rowOf i.val).o = false ∧ (rowOf i.val).a = false := by decide +kernel
        have h2 := hoa ⟨kindOfS w0, by omega⟩ h1 h13
        simp only [hR] at hsm h2
        obtain ⟨rfl, rfl⟩ := h2
        by_cases hc : rest.length = rn + rs
        · exact StepOf_okP w v0 w0 rest hv hlen hbs ht _ rfl h0 h1 hk wd rn rs hR hsm.1 hsm.2.1 hc
        · exact StepOf_cntP w v0 w0 rest hv hlen hbs ht _ rfl h0 h1 hk wd rn rs hR hsm.1 hsm.2.1 hc
end Go.Proofs.YtijlfggficjamaaDoor
