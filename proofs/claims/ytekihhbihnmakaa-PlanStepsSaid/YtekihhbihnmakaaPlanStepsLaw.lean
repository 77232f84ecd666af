/- Plain law: what a write becomes, as the reference has it. No program in sight. No condition. -/
import Derived.Test.YtekihhbihnmakaaPAx12
import Derived.Test.YtekihhbihnmakaaPAx29
import Derived.Test.YtekihhbihnmakaaPAx43
import Derived.Test.YtekihhbihnmakaaPAx901
import Derived.Test.YtekihhbihnmakaaStepsLaw
open Go.RowKit Go.Proofs.Ytekihhbihnmakaa Go.Proofs.Ytekihhbihnmakaa.PA Go.Proofs.YtekihhbihnmakaaW.PrintWords Go.Proofs.YtekihhbihnmakaaW.PrintLast
set_option linter.unusedVariables false
set_option linter.unusedSimpArgs false
namespace Go.Proofs.Ytekihhbihnmakaa.Geo
section
variable (id m u b c z s me o a l : Int)
theorem small_some : ∃ r, revetmentref07_Small.f id m u b c z s me o a l = some r := by
  unfold revetmentref07_Small.f revetmentref07_Check.f
  simp only [Option.bind_some]
  repeat' split
  all_goals exact ⟨_, rfl⟩
theorem stepsF_len {id m u b c z s me o a l : Int} (hs : checkC id m u b c z s me o a l = 0 → revetmentref07_Small.f id m u b c z s me o a l = some true) (at1 n1 : Int) : (stepsF id m u b c z s me o a l at1 n1).length ≤ 768 := by
  unfold stepsF
  split
  · next q =>
    have hz := small_size q.1 (hs q.1)
    have := stepsL_len m u at1 n1.toNat
    omega
  · simp
/-- The law: which writes to members a write becomes, and how many. -/
theorem planSteps_true (k : Nat) (hk : 2000 ≤ k) (at1 n1 : Int) : revetmentlaw09_PlanSteps.f k id m u b c z s me o a l at1 n1 = some true := by
  obtain ⟨k, rfl⟩ : ∃ j, k = j + 1 := ⟨k - 1, by omega⟩
  have main : (checkC id m u b c z s me o a l = 0 → revetmentref07_Small.f id m u b c z s me o a l = some true) → revetmentlaw09_PlanSteps.j0 (k + 1) at1 n1 false id m u b c z s me o a l = some true := by
    intro hs
    simp only [revetmentlaw09_PlanSteps.j0]
    have hl := stepsF_len hs at1 n1
    rw [if_neg (by decide), rsteps_ok (hs := hs) (hk := by omega)]
    simp only [Option.bind_some, plan_Steps.f]
    rw [same_ok (hx := by omega) (hk := by omega)]
    simp only [Option.bind_some, if_true]
    rw [count_ok]
    simp only [Option.bind_some, if_true]
    rw [live9_eq]; rfl
  unfold revetmentlaw09_PlanSteps.f
  simp only [revetmentref07_Check.f, Option.bind_some]
  by_cases h : checkC id m u b c z s me o a l = 0
  · rw [if_pos h]
    obtain ⟨r, hr⟩ := small_some id m u b c z s me o a l
    rw [hr]
    simp only [Option.bind_some]
    cases r with
    | true => exact main (fun _ => hr)
    | false =>
      simp only [revetmentlaw09_PlanSteps.j0, Bool.not_false, if_true]
      rw [live9_eq]; rfl
  · rw [if_neg h]; exact main (fun h' => absurd h' h)
end
end Go.Proofs.Ytekihhbihnmakaa.Geo
