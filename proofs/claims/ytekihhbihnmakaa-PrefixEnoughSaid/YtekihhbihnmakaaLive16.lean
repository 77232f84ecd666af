/- Plain laws of 16: the page's example, when more is asked than statements ask. No program in sight. No condition. -/
import Derived.Test.YtekihhbihnmakaaPAx16
import Derived.Test.YtekihhbihnmakaaPAx36
import Derived.Test.YtekihhbihnmakaaPAx801
import Derived.Test.YtekihhbihnmakaaPAx9
import Derived.Test.YtekihhbihnmakaaPAx902
import Derived.Test.YtekihhbihnmakaaSmall0
import Derived.Test.YtekihhbihnmakaaOfLaw
open Go.RowKit Go.Proofs.Ytekihhbihnmakaa Go.Proofs.Ytekihhbihnmakaa.PA Go.Proofs.YtekihhbihnmakaaW.PrintWords Go.Proofs.YtekihhbihnmakaaW.PrintLast
set_option linter.unusedVariables false
set_option linter.unusedSimpArgs false
namespace Go.Proofs.Ytekihhbihnmakaa.Geo
theorem live16_eq : revetmentlaw16_live.f = some true := by
  unfold revetmentlaw16_live.f conf_Plain.f
  simp only [Option.bind_some, prefix_Of.f]
  decide +kernel
theorem much_some (id m u b c z s me o a l : Int) (hv : List Int) (lost : Int) (pars : List S71) : ∃ r, revetmentlaw16_much.f id m u b c z s me o a l hv lost pars = some r ∧ (r = false → pars.length ≤ 6 ∧ hv.length ≤ 20) := by
  unfold revetmentlaw16_much.f revetmentref07_Check.f
  by_cases c1 : (hv.length : Int) > 20
  · rw [if_pos c1]; exact ⟨true, rfl, by simp⟩
  · rw [if_neg c1]
    by_cases c2 : (pars.length : Int) > 6
    · rw [if_pos c2]; exact ⟨true, rfl, by simp⟩
    · rw [if_neg c2]
      simp only [Option.bind_some]
      by_cases h : checkC id m u b c z s me o a l = 0
      · obtain ⟨r, hr⟩ := small_some id m u b c z s me o a l
        rw [if_pos h, hr]
        exact ⟨!r, rfl, fun _ => ⟨by omega, by omega⟩⟩
      · rw [if_neg h]
        exact ⟨false, rfl, fun _ => ⟨by omega, by omega⟩⟩
end Go.Proofs.Ytekihhbihnmakaa.Geo
