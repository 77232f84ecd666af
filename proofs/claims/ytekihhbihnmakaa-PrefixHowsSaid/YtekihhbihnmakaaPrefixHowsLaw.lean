/- Plain law: how any block is read, whether a parity is there, who has too much, as the reference has it. No program in sight. Condition: parities' numbers are int's. -/
import Derived.Test.YtekihhbihnmakaaPAx52
import Derived.Test.YtekihhbihnmakaaLive16
import Derived.Test.YtekihhbihnmakaaRHowLaw
import Derived.Test.YtekihhbihnmakaaRRagLaw
open Go.RowKit Go.Proofs.Ytekihhbihnmakaa Go.Proofs.Ytekihhbihnmakaa.PA Go.Proofs.YtekihhbihnmakaaW.PrintWords Go.Proofs.YtekihhbihnmakaaW.PrintLast
set_option linter.unusedVariables false
set_option linter.unusedSimpArgs false
namespace Go.Proofs.Ytekihhbihnmakaa.Geo
/-- The law: how a block is read. -/
theorem prefixHows_true (k : Nat) (hk : 3000 ≤ k) (id m u b c z s me o a l : Int) (hv : List Int) (lost : Int) (pars : List S71) (hw : ∀ x ∈ pars, x.f0 ≤ 9223372036854775807) (lb st n : Int) : revetmentlaw16_PrefixHows.f k id m u b c z s me o a l hv lost pars lb st n = some true := by
  obtain ⟨r, hr, hp⟩ := much_some id m u b c z s me o a l hv lost pars
  unfold revetmentlaw16_PrefixHows.f
  rw [hr]
  simp only [Option.bind_some]
  cases r with
  | true => rw [if_pos rfl, live16_eq]; rfl
  | false =>
    have hp := (hp rfl).1
    rw [if_neg (by decide), how_ok (hp := by omega) (hk := by omega), rhow_ok (hp := by omega) (hw := hw) (hk := by omega)]
    simp only [Option.bind_some, if_true]
    rw [whole_ok, rwhole_ok]
    simp only [Option.bind_some, beq_self_eq_true, if_true]
    rw [ragged_ok (hk := by omega), rragged_ok (hk := by omega)]
    simp only [Option.bind_some, beq_self_eq_true, if_true]
    rw [live16_eq]; rfl
end Go.Proofs.Ytekihhbihnmakaa.Geo
