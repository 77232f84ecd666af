/- extent.Right: may a run be? -/
import Derived.Test.YtbjpjddhkpnofaaPZx2
import Derived.Test.YtbjpjddhkpnofaaPAx2
import Derived.Test.YtbjpjddhkpnofaaPAx3
import Derived.Test.YtbjpjddhkpnofaaGeoLaw
namespace Go.Proofs.Ytbjpjddhkpnofaa
open Go.RowKit Go.Proofs.Ytbjpjddhkpnofaa.PA Go.Proofs.YtbjpjddhkpnofaaW.PrintWords Go.Proofs.YtbjpjddhkpnofaaW.PrintLast Go.Proofs.Ytbjpjddhkpnofaa.Geo
set_option linter.unusedVariables false
set_option linter.unusedSimpArgs false
-- conf_Check.calls conf_Size.calls
def Geo.xrightF (id m u b c z s me o a l f0 f1 f2 f3 : Int) : Bool := decide (checkC id m u b c z s me o a l = 0 ∧ (0 ≤ f0 ∧ f0 < m) ∧ (0 ≤ f1 ∧ f1 < c + 1) ∧ 0 ≤ f2 ∧ f2 ≤ c - f1 ∧ 0 ≤ f3 ∧ f3 < sizeC m u b c z s me o a l)
theorem inn_eq (n k : Int) : PZ.extent_RightIn.f n k = some (decide (0 ≤ n ∧ n < k)) := by
  unfold PZ.extent_RightIn.f
  by_cases h : n ≥ 0
  · rw [if_pos h]; congr 1; rw [decide_eq_decide]; omega
  · rw [if_neg h]; congr 1; symm; rw [decide_eq_false_iff_not]; omega
theorem zright_eq (id m u b c z s me o a l f0 f1 f2 f3 : Int) : PZ.extent_Right.f id m u b c z s me o a l f0 f1 f2 f3 = some (Geo.xrightF id m u b c z s me o a l f0 f1 f2 f3) := by
  unfold PZ.extent_Right.f Geo.xrightF
  simp only [PZ.conf_Check.f, Option.bind_some]
  by_cases h : checkC id m u b c z s me o a l = 0
  · rw [if_pos h]
    obtain ⟨g, _⟩ := good h
    have hc1 := g.c1; have hc2 := g.c2
    have hs : PZ.conf_Size.f id m u b c z s me o a l = some (sizeC m u b c z s me o a l) := size_eq (h := h)
    have hw : wrap64 (c + 1) = c + 1 := by simp only [wrap64]; omega
    rw [hw]
    simp only [inn_eq, hs, Option.bind_some]
    by_cases k1 : 0 ≤ f0 ∧ f0 < m
    · rw [if_pos (decide_eq_true k1)]
      by_cases k2 : 0 ≤ f1 ∧ f1 < c + 1
      · rw [if_pos (decide_eq_true k2)]
        have hw2 : wrap64 (c - f1) = c - f1 := by simp only [wrap64]; omega
        rw [hw2]
        by_cases k3 : f2 ≥ 0
        · rw [if_pos k3]
          by_cases k4 : f2 ≤ c - f1
          · rw [if_pos k4]; congr 1; rw [decide_eq_decide]; constructor <;> intro q <;> omega
          · rw [if_neg k4]; congr 1; symm; rw [decide_eq_false_iff_not]; omega
        · rw [if_neg k3]; congr 1; symm; rw [decide_eq_false_iff_not]; omega
      · rw [if_neg (by simpa using k2)]; congr 1; symm; rw [decide_eq_false_iff_not]; omega
    · rw [if_neg (by simpa using k1)]; congr 1; symm; rw [decide_eq_false_iff_not]; omega
  · rw [if_neg h]; congr 1; symm; rw [decide_eq_false_iff_not]; exact fun q => h q.1
theorem xright_any (id m u b c z s me o a l f0 f1 f2 f3 : Int) (w : World) :
    Calls Try.prog 5 #[.agg #[.int .i64 id, .int .i64 m, .int .i64 u, .int .i64 b, .int .i64 c, .int .i64 z, .int .i64 s, .int .i64 me, .int .i64 o, .int .i64 a, .int .i64 l], .agg #[.int .i64 f0, .int .i64 f1, .int .i64 f2, .int .i64 f3]] w fun e w' => e = .returned (.bool (Geo.xrightF id m u b c z s me o a l f0 f1 f2 f3)) ∧ Below w.heap.size w w' :=
  PZ.extent_Right.calls id m u b c z s me o a l f0 f1 f2 f3 _ w (zright_eq id m u b c z s me o a l f0 f1 f2 f3)
end Go.Proofs.Ytbjpjddhkpnofaa
