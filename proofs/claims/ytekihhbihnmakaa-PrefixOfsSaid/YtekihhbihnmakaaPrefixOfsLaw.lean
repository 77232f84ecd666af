/- Plain law: how many blocks can be read, as the reference has it. No program in sight. Condition: parities' numbers are int's. -/
import Derived.Test.YtekihhbihnmakaaPAx42
import Derived.Test.YtekihhbihnmakaaPAx902
import Derived.Test.YtekihhbihnmakaaLive16
import Derived.Test.YtekihhbihnmakaaROfLaw
open Go.RowKit Go.Proofs.Ytekihhbihnmakaa Go.Proofs.Ytekihhbihnmakaa.PA Go.Proofs.YtekihhbihnmakaaW.PrintWords Go.Proofs.YtekihhbihnmakaaW.PrintLast
set_option linter.unusedVariables false
set_option linter.unusedSimpArgs false
namespace Go.Proofs.Ytekihhbihnmakaa.Geo
/-- The law: how many blocks can be read. -/
theorem prefixOfs_true (k : Nat) (hk : 20000010 ≤ k) (id m u b c z s me o a l : Int) (hv : List Int) (lost : Int) (pars : List S71) (hw : ∀ x ∈ pars, x.f0 ≤ 9223372036854775807) : revetmentlaw16_PrefixOfs.f k id m u b c z s me o a l hv lost pars = some true := by
  obtain ⟨r, hr, hp⟩ := much_some id m u b c z s me o a l hv lost pars
  unfold revetmentlaw16_PrefixOfs.f
  rw [hr]
  simp only [Option.bind_some]
  cases r with
  | true => rw [if_pos rfl, live16_eq]; rfl
  | false =>
    have hp := (hp rfl).1
    rw [if_neg (by decide), rofs_ok (hp := by omega) (hw := hw) (hk := by omega)]
    simp only [Option.bind_some, prefix_Of.f, if_true]
    rw [live16_eq]; rfl
end Go.Proofs.Ytekihhbihnmakaa.Geo
