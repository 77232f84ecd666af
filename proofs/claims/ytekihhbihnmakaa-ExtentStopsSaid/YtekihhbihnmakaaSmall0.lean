/- Plain laws: small settings. No program in sight. Conditions: as each says. -/
import Derived.Test.YtekihhbihnmakaaPAx22
import Derived.Test.YtekihhbihnmakaaPAx9
import Derived.Test.YtekihhbihnmakaaGeoLaw
open Go.RowKit Go.Proofs.Ytekihhbihnmakaa Go.Proofs.Ytekihhbihnmakaa.PA Go.Proofs.YtekihhbihnmakaaW.PrintWords Go.Proofs.YtekihhbihnmakaaW.PrintLast
set_option linter.unusedVariables false
set_option linter.unusedSimpArgs false
namespace Go.Proofs.Ytekihhbihnmakaa.Geo
theorem small_bd {id m u b c z s me o a l : Int} (h : checkC id m u b c z s me o a l = 0) (hs : revetmentref07_Small.f id m u b c z s me o a l = some true) : m ≤ 5 ∧ u ≤ 3 ∧ c ≤ 32 := by
  unfold revetmentref07_Small.f revetmentref07_Check.f at hs
  simp only [Option.bind_some] at hs
  rw [if_pos h] at hs
  by_cases c1 : m ≤ 5
  · rw [if_pos c1] at hs
    by_cases c2 : u ≤ 3
    · rw [if_pos c2] at hs
      by_cases c3 : b ≤ 128
      · rw [if_pos c3] at hs
        by_cases c4 : c ≤ 32
        · exact ⟨c1, c2, c4⟩
        · rw [if_neg c4] at hs; cases hs
      · rw [if_neg c3] at hs; cases hs
    · rw [if_neg c2] at hs; cases hs
  · rw [if_neg c1] at hs; cases hs
theorem small_size {id m u b c z s me o a l : Int} (h : checkC id m u b c z s me o a l = 0) (hs : revetmentref07_Small.f id m u b c z s me o a l = some true) : sizeC m u b c z s me o a l ≤ 384 := by
  obtain ⟨h1, h2, h3⟩ := small_bd h hs
  obtain ⟨g, _, _, _, gsz⟩ := good h
  rw [gsz]
  have e2 : c / u ≤ c := Int.ediv_le_self _ (by have := g.c1; omega)
  have d2 : (m - 1) * u ≤ 4 * 3 := Int.mul_le_mul (by omega) (by omega) (by have := g.u1; omega) (by omega)
  have e3 : c / u * ((m - 1) * u) ≤ 32 * 12 := Int.mul_le_mul (by omega) (by omega) (by have := g.R1; omega) (by omega)
  omega
section
variable (id m u b c z s me o a l : Int)
theorem small_some : ∃ r, revetmentref07_Small.f id m u b c z s me o a l = some r := by
  unfold revetmentref07_Small.f revetmentref07_Check.f
  simp only [Option.bind_some]
  repeat' split
  all_goals exact ⟨_, rfl⟩
end
end Go.Proofs.Ytekihhbihnmakaa.Geo
