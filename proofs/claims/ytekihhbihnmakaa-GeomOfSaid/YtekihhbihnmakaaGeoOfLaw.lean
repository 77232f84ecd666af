/- Plain laws: where any block lies, and what lies there, as the reference has it. No program in sight. No condition. -/
import Derived.Test.YtekihhbihnmakaaPGeox10
import Derived.Test.YtekihhbihnmakaaPGeox11
import Derived.Test.YtekihhbihnmakaaPGeox12
import Derived.Test.YtekihhbihnmakaaPGeox14
import Derived.Test.YtekihhbihnmakaaPGeox15
import Derived.Test.YtekihhbihnmakaaPGeox16
import Derived.Test.YtekihhbihnmakaaPGeox21
import Derived.Test.YtekihhbihnmakaaPGeox4
import Derived.Test.YtekihhbihnmakaaPGeox6
import Derived.Test.YtekihhbihnmakaaBackLaw
open Go.RowKit Go.Proofs.Ytekihhbihnmakaa Go.Proofs.Ytekihhbihnmakaa.PGeo Go.Proofs.YtekihhbihnmakaaW.PrintWords Go.Proofs.YtekihhbihnmakaaW.PrintLast
set_option linter.unusedVariables false
set_option linter.unusedSimpArgs false
namespace Go.Proofs.Ytekihhbihnmakaa.Geo
section
variable (id m u b c z s me o a l : Int)
/-- The first law: where any block lies, and what lies there. -/
theorem geomOf_true (k : Nat) (hk : 40 ≤ k) (lb stripe unit mm phys : Int) : revetmentlaw08_GeomOf.f k id m u b c z s me o a l lb stripe unit mm phys = some true := by
  obtain ⟨k, rfl⟩ : ∃ j, k = j + 1 := ⟨k - 1, by omega⟩
  have ho : ∃ p, geom_Of.f (k + 1) id m u b c z s me o a l lb = some p ∧ revetmentref08_Of.f (k + 1) id m u b c z s me o a l lb = some p := by
    by_cases q : checkC id m u b c z s me o a l = 0 ∧ 0 ≤ lb ∧ lb < sizeC m u b c z s me o a l
    · exact ⟨_, of_ok (h := q.1) (q := q.2) (hk := by omega), rof_ok (h := q.1) (q := q.2) (hk := by omega) ..⟩
    · exact ⟨_, of_no (q := q) (hk := by omega), rof_no (q := q) (hk := by omega) ..⟩
  have hb : ∃ p, geom_Back.f (k + 1) id m u b c z s me o a l mm phys = some p ∧ revetmentref08_Back.f (k + 1) id m u b c z s me o a l mm phys = some p := by
    by_cases q : checkC id m u b c z s me o a l = 0 ∧ 0 ≤ mm ∧ mm < m ∧ 0 ≤ phys ∧ phys < c
    · exact ⟨_, back_ok (h := q.1) (q := q.2) (hk := by omega), rback_ok (h := q.1) (q := q.2) (hk := by omega) ..⟩
    · exact ⟨_, back_no (q := q) (hk := by omega), rback_no (q := q) (hk := by omega) ..⟩
  have hm : ∃ p, geom_Member.f id m u b c z s me o a l stripe unit = some p ∧ revetmentref08_Member.f id m u b c z s me o a l stripe unit = some p := by
    by_cases q : checkC id m u b c z s me o a l = 0
    · exact ⟨_, member_ok (h := q) .., rmember_ok (h := q) ..⟩
    · exact ⟨_, member_no (h := q) .., rmember_no (h := q) ..⟩
  have hu : ∃ p, geom_Unit.f id m u b c z s me o a l stripe mm = some p ∧ revetmentref08_Unit.f k id m u b c z s me o a l stripe mm = some p := by
    by_cases q : checkC id m u b c z s me o a l = 0 ∧ 0 ≤ stripe ∧ stripe < c / u ∧ 0 ≤ mm ∧ mm < m
    · exact ⟨_, unit_ok (h := q.1) (q := q.2), runit_ok (h := q.1) (q := q.2) (hk := by omega) ..⟩
    · exact ⟨_, unit_no (q := q), runit_no (q := q) (hk := by omega) ..⟩
  obtain ⟨p, hp1, hp2⟩ := ho
  obtain ⟨b', hb1, hb2⟩ := hb
  obtain ⟨mp, hm1, hm2⟩ := hm
  obtain ⟨up, hu1, hu2⟩ := hu
  unfold revetmentlaw08_GeomOf.f
  rw [hp1, hp2, hb1, hb2]
  simp only [Option.bind_some, beq_self_eq_true, Bool.not_true, Bool.or_self, bne_self_eq_false, if_true]
  rw [if_neg (by decide), if_neg (by decide)]
  simp only [revetmentlaw08_GeomOf.j0]
  rw [if_neg (by decide), parity_eq, rparity_eq]
  simp only [Option.bind_some, if_true]
  rw [hm1, hm2]
  simp only [Option.bind_some, if_true]
  rw [hu1, hu2]
  simp only [Option.bind_some, if_true]
  rw [live_eq (hk := by omega)]; rfl
end
end Go.Proofs.Ytekihhbihnmakaa.Geo
