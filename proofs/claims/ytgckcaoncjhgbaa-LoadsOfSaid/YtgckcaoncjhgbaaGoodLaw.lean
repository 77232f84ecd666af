/- Plain laws on settings that may be: what follows for their numbers, the size. No program in sight. (For seats without package geom; the same words as the GeoLaw text's begin.) -/
import Derived.Test.YtgckcaoncjhgbaaFPl
open Go.RowKit Go.Proofs.Ytgckcaoncjhgbaa Go.Proofs.Ytgckcaoncjhgbaa.PL Go.Proofs.YtgckcaoncjhgbaaW.PrintWords Go.Proofs.YtgckcaoncjhgbaaW.PrintLast
set_option linter.unusedVariables false
set_option linter.unusedSimpArgs false
namespace Go.Proofs.Ytgckcaoncjhgbaa.Geo
theorem wr {x : Int} (h : -9223372036854775808 <= x /\ x <= 9223372036854775807) : wrap64 x = x := by unfold wrap64; omega
theorem td {x y : Int} (h : 0 <= x) : Int.tdiv x y = x / y := Int.tdiv_eq_ediv_of_nonneg h
theorem tm {x y : Int} (h : 0 <= x) : Int.tmod x y = x % y := Int.tmod_eq_emod_of_nonneg h
structure Good (m u c S R : Int) : Prop where
 m1 : 3 <= m
 m2 : m <= 16
 u1 : 1 <= u
 u2 : u <= 64
 c1 : 1 <= c
 c2 : c <= 4096
 S1 : 1 <= S
 S2 : S <= 4096
 R1 : 2 <= R
 R2 : R <= 960
 uR : u <= R
 hR : R = (m - 1) * u
 Su : S * u = c
 Z2 : S * R <= 3932160
 Z1 : R <= S * R
theorem good {id m u b c z s me o a l : Int} (h : jn_ id m u b c z s me o a l = 0) : Good m u c (c / u) ((m - 1) * u) /\ rowC m u b c z s me o a l = (m - 1) * u /\ vH_ m u b c z s me o a l = c / u /\ dataC m u b c z s me o a l = m - 1 /\ kg_ m u b c z s me o a l = c / u * ((m - 1) * u) := by
 have hk := (kM_ h).1
 have hs := okC_sane hk
 have b := kB_ hk
 refine ⟨?_, by rw [rowC, if_pos hs], by rw [vH_, if_pos hs], by rw [dataC, if_pos hs], by rw [kg_, if_pos hs]⟩
 have d1 : 2 * 1 <= (m - 1) * u := Int.mul_le_mul (by omega) (by omega) (by omega) (by omega)
 have d2 : (m - 1) * u <= 15 * 64 := Int.mul_le_mul (by omega) (by omega) (by omega) (by omega)
 have d3 : 1 * u <= (m - 1) * u := Int.mul_le_mul (by omega) (by omega) (by omega) (by omega)
 have e0 : c / u * u = c := by have := Int.mul_ediv_add_emod c u; rw [Int.mul_comm]; omega
 have e1 : 1 <= c / u := by
  rcases Int.lt_or_le 0 (c / u) with g | g
  · omega
  ·
   have : c / u * u <= 0 * u := Int.mul_le_mul_of_nonneg_right (by omega) (by omega)
   omega
 have e2 : c / u <= c := Int.ediv_le_self _ (by omega)
 have e3 : c / u * ((m - 1) * u) <= 4096 * 960 := Int.mul_le_mul (by omega) (by omega) (by omega) (by omega)
 have e4 : 1 * ((m - 1) * u) <= c / u * ((m - 1) * u) := Int.mul_le_mul (by omega) (by omega) (by omega) (by omega)
 exact ⟨by omega, by omega, by omega, by omega, by omega, by omega, e1, by omega, by omega, by omega, by omega, rfl, e0, by omega, by omega⟩
section
variable (id m u b c z s me o a l : Int)
theorem size_eq (h : jn_ id m u b c z s me o a l = 0) : conf_Size.f id m u b c z s me o a l = some (kg_ m u b c z s me o a l) := by
 obtain ⟨g, hr, hs, hd, hz⟩ := good h
 unfold conf_Size.f conf_Stripes.f conf_Row.f
 simp only [Option.bind_some]
 rw [hs, hr, hz, wr (by have := g.Z1; have := g.Z2; have := g.R1; omega)]
end
end Go.Proofs.Ytgckcaoncjhgbaa.Geo
