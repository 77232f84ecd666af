/- Plain laws: when a range is within a zone, the page's example of 09. No program in sight. Conditions: as each says. -/
import Derived.Test.YtekihhbihnmakaaSteps
import Derived.Test.YtekihhbihnmakaaPAx16
import Derived.Test.YtekihhbihnmakaaPAx23
import Derived.Test.YtekihhbihnmakaaPAx27
import Derived.Test.YtekihhbihnmakaaPAx9
import Derived.Test.YtekihhbihnmakaaPAx901
import Derived.Test.YtekihhbihnmakaaGeoLaw
import Derived.Test.YtekihhbihnmakaaSmall0
open Go.RowKit Go.Proofs.Ytekihhbihnmakaa Go.Proofs.Ytekihhbihnmakaa.PA Go.Proofs.YtekihhbihnmakaaW.PrintWords Go.Proofs.YtekihhbihnmakaaW.PrintLast
set_option linter.unusedVariables false
set_option linter.unusedSimpArgs false
namespace Go.Proofs.Ytekihhbihnmakaa.Geo
section
variable (id m u b c z s me o a l : Int)
theorem rright_eq (at1 n1 : Int) : revetmentref09_Right.f id m u b c z s me o a l at1 n1 = some (decide (checkC id m u b c z s me o a l = 0 ∧ 0 ≤ at1 ∧ 0 ≤ n1 ∧ at1 + n1 ≤ sizeC m u b c z s me o a l)) := by
  simp only [revetmentref09_Right.f, revetmentref07_Check.f, revetmentref07_Size.f, Option.bind_some]
  by_cases h : checkC id m u b c z s me o a l = 0
  · rw [if_pos h]
    obtain ⟨g, _, _, _, gsz⟩ := good h
    have h1 := g.Z2; have h2 := g.Z1; have h3 := g.R1; rw [← gsz] at h1 h2
    by_cases c1 : at1 ≥ 0
    · rw [if_pos c1]
      by_cases c2 : n1 ≥ 0
      · rw [if_pos c2]
        by_cases c3 : at1 ≤ sizeC m u b c z s me o a l
        · rw [if_pos c3, wr ⟨by omega, by omega⟩]
          congr 1
          rw [decide_eq_decide]
          constructor <;> intro h <;> omega
        · rw [if_neg c3]; congr 1; symm; rw [decide_eq_false_iff_not]; omega
      · rw [if_neg c2]; congr 1; symm; rw [decide_eq_false_iff_not]; omega
    · rw [if_neg c1]; congr 1; symm; rw [decide_eq_false_iff_not]; omega
  · rw [if_neg h]; simp [h]
end
theorem live9_eq : revetmentlaw09_live.f = some true := by
  unfold revetmentlaw09_live.f conf_Plain.f
  simp only [Option.bind_some, plan_Steps.f]
  decide +kernel
end Go.Proofs.Ytekihhbihnmakaa.Geo
