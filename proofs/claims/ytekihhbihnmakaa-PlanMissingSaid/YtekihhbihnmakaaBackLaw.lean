/- Plain laws: what lies at a member's block. No program in sight. No condition. -/
import Derived.Test.YtekihhbihnmakaaPAx12
import Derived.Test.YtekihhbihnmakaaPAx13
import Derived.Test.YtekihhbihnmakaaPAx15
import Derived.Test.YtekihhbihnmakaaPAx5
import Derived.Test.YtekihhbihnmakaaPAx6
import Derived.Test.YtekihhbihnmakaaPAx9
import Derived.Test.YtekihhbihnmakaaGeoLaw
open Go.RowKit Go.Proofs.Ytekihhbihnmakaa Go.Proofs.Ytekihhbihnmakaa.PA Go.Proofs.YtekihhbihnmakaaW.PrintWords Go.Proofs.YtekihhbihnmakaaW.PrintLast
set_option linter.unusedVariables false
set_option linter.unusedSimpArgs false
namespace Go.Proofs.Ytekihhbihnmakaa.Geo
section
variable (id m u b c z s me o a l : Int)
def backP (m u R mm ph : Int) : Int × Bool := if unitP m (ph / u) mm < 0 then (ph / u * R, false) else (ph / u * R + unitP m (ph / u) mm * u + ph % u, true)
theorem back_bd {m u c R S ph mm : Int} (g : Good m u c S R) (h0 : 0 ≤ ph) (h1 : ph < S * u) (q0 : 0 ≤ mm) (q1 : mm < m) : 0 ≤ ph / u ∧ ph / u < S ∧ 0 ≤ ph % u ∧ ph % u < u ∧ ph = ph / u * u + ph % u ∧ 0 ≤ ph / u * R ∧ ph / u * R ≤ 4096 * 960 ∧ -1 ≤ unitP m (ph / u) mm ∧ unitP m (ph / u) mm < m - 1 ∧ unitP m (ph / u) mm * u ≤ 960 ∧ (0 ≤ unitP m (ph / u) mm → 0 ≤ unitP m (ph / u) mm * u ∧ unitP m (ph / u) mm * u + u ≤ R) ∧ 0 ≤ ph / u * u := by
  obtain ⟨m1, m2, u1, u2, c1, c2, S1, S2, R1, R2, uR, hR, Su, Z2, Z1⟩ := g
  have b1 := Int.emod_nonneg ph (show u ≠ 0 by omega)
  have b2 := Int.emod_lt_of_pos ph (show 0 < u by omega)
  have b4 := Int.mul_ediv_add_emod ph u
  have a4 : 0 ≤ ph / u := Int.ediv_nonneg h0 (by omega)
  have a5 : ph / u < S := by rw [Int.ediv_lt_iff_lt_mul (by omega)]; exact h1
  have c3 : ph / u * R ≤ 4096 * 960 := Int.mul_le_mul (by omega) (by omega) (by omega) (by omega)
  have c4 : 0 ≤ ph / u * R := Int.mul_nonneg a4 (by omega)
  have c5 : 0 ≤ ph / u * u := Int.mul_nonneg a4 (by omega)
  obtain ⟨p1, p2, _, _⟩ := unitP_spec (st := ph / u) (mm := mm) m1 a4 q0 q1
  rw [Int.mul_comm] at b4
  have d1 : (unitP m (ph / u) mm + 1) * u ≤ (m - 1) * u := Int.mul_le_mul_of_nonneg_right (by omega) (by omega)
  rw [Int.add_mul, ← hR] at d1
  exact ⟨a4, a5, b1, b2, by omega, c4, c3, p1, p2, by omega, fun z => ⟨Int.mul_nonneg z (by omega), by omega⟩, c5⟩
theorem back_ok (k : Nat) (hk : 1 ≤ k) (mm ph : Int) (h : checkC id m u b c z s me o a l = 0) (q : 0 ≤ mm ∧ mm < m ∧ 0 ≤ ph ∧ ph < c) : geom_Back.f k id m u b c z s me o a l mm ph = some (backP m u ((m - 1) * u) mm ph) := by
  obtain ⟨k, rfl⟩ : ∃ j, k = j + 1 := ⟨k - 1, by omega⟩
  unfold geom_Back.f conf_Stripes.f
  obtain ⟨g, hr, hs, hd, hz⟩ := good h
  have g0 := g
  obtain ⟨m1, m2, u1, u2, c1, c2, S1, S2, R1, R2, uR, hR, Su, Z2, Z1⟩ := g
  rw [right_t (h := h) (k := by omega)]
  simp only [Option.bind_some, if_true, hs, Su]
  obtain ⟨p1, p2, p3, p4, p5, p6, p7, p8, p9, p10, p11, p12⟩ := back_bd g0 q.2.2.1 (by rw [Su]; exact q.2.2.2) q.1 q.2.1
  rw [if_neg (by omega), wr (x := c) (by omega)]
  simp only [geom_Back.j0]
  rw [decide_eq_false (by omega), if_neg (by decide), if_neg (by omega)]
  unfold conf_Row.f
  simp only [Option.bind_some]
  rw [hr, td q.2.2.1, tm q.2.2.1, wr (x := ph / u) (by omega), unit_ok (h := h) (q := by omega)]
  simp only [Option.bind_some]
  unfold backP
  by_cases e : unitP m (ph / u) mm < 0
  · rw [if_pos e, if_pos e, wr (by omega)]
  · have e1 := p11 (by omega)
    rw [if_neg e, if_neg e, wr (x := ph / u * ((m - 1) * u)) (by omega), wr (x := unitP m (ph / u) mm * u) (by omega), wr (x := ph / u * ((m - 1) * u) + unitP m (ph / u) mm * u) (by omega), wr (by omega)]
theorem back_no (k : Nat) (hk : 1 ≤ k) (mm ph : Int) (q : ¬ (checkC id m u b c z s me o a l = 0 ∧ 0 ≤ mm ∧ mm < m ∧ 0 ≤ ph ∧ ph < c)) : geom_Back.f k id m u b c z s me o a l mm ph = some (0, false) := by
  obtain ⟨k, rfl⟩ : ∃ j, k = j + 1 := ⟨k - 1, by omega⟩
  unfold geom_Back.f conf_Stripes.f
  simp only [geom_Back.j0]
  by_cases h : checkC id m u b c z s me o a l = 0 ∧ 0 ≤ mm ∧ mm < m
  · obtain ⟨⟨m1, m2, u1, u2, c1, c2, S1, S2, R1, R2, uR, hR, Su, Z2, Z1⟩, hr, hs, hd, hz⟩ := good h.1
    rw [right_t (h := h.1) (k := by omega)]
    simp only [Option.bind_some, if_true, hs, Su]
    by_cases k1 : ph < 0
    · rw [if_pos k1]
    · rw [if_neg k1, wr (x := c) (by omega), decide_eq_true (by omega), if_pos rfl]
  · by_cases h1 : checkC id m u b c z s me o a l = 0
    · obtain ⟨⟨m1, m2, u1, u2, c1, c2, S1, S2, R1, R2, uR, hR, Su, Z2, Z1⟩, hr, hs, hd, hz⟩ := good h1
      rw [right_f (k := by omega)]
      simp only [Option.bind_some]
      rw [if_neg (by decide), if_pos trivial]
    · rw [right_no (h := h1)]
      simp only [Option.bind_some]
      rw [if_neg (by decide), if_pos trivial]
theorem rback_ok (k : Nat) (hk : 30 ≤ k) (mm ph : Int) (h : checkC id m u b c z s me o a l = 0) (q : 0 ≤ mm ∧ mm < m ∧ 0 ≤ ph ∧ ph < c) : revetmentref08_Back.f k id m u b c z s me o a l mm ph = some (backP m u ((m - 1) * u) mm ph) := by
  obtain ⟨k, rfl⟩ : ∃ j, k = j + 1 := ⟨k - 1, by omega⟩
  unfold revetmentref08_Back.f revetmentref07_Stripes.f revetmentref07_Check.f
  obtain ⟨g, hr, hs, hd, hz⟩ := good h
  have g0 := g
  obtain ⟨m1, m2, u1, u2, c1, c2, S1, S2, R1, R2, uR, hR, Su, Z2, Z1⟩ := g
  simp only [Option.bind_some, hs, Su]
  obtain ⟨p1, p2, p3, p4, p5, p6, p7, p8, p9, p10, p11, p12⟩ := back_bd g0 q.2.2.1 (by rw [Su]; exact q.2.2.2) q.1 q.2.1
  rw [if_pos h, if_neg (by omega), if_neg (by omega), if_neg (by omega), wr (x := c) (by omega)]
  simp only [revetmentref08_Back.j0]
  rw [decide_eq_false (by omega), if_neg (by decide), if_neg (by omega)]
  unfold revetmentref07_Row.f
  simp only [Option.bind_some]
  rw [hr, td q.2.2.1, wr (x := ph / u) (by omega), runit_ok (h := h) (q := by omega) (hk := by omega)]
  simp only [Option.bind_some]
  unfold backP
  by_cases e : unitP m (ph / u) mm < 0
  · rw [if_pos (show unitP m (ph / u) mm = -1 by omega), if_pos e, wr (by omega)]
  · have e1 := p11 (by omega)
    rw [if_neg (show ¬ unitP m (ph / u) mm = -1 by omega), if_neg e, wr (x := ph / u * ((m - 1) * u)) (by omega), wr (x := unitP m (ph / u) mm * u) (by omega), wr (x := ph / u * ((m - 1) * u) + unitP m (ph / u) mm * u) (by omega), wr (x := ph / u * ((m - 1) * u) + unitP m (ph / u) mm * u + ph) (by omega), wr (x := ph / u * u) (by omega), wr (by omega)]
    have e2 : ph / u * ((m - 1) * u) + unitP m (ph / u) mm * u + ph - ph / u * u = ph / u * ((m - 1) * u) + unitP m (ph / u) mm * u + ph % u := by omega
    rw [e2]
theorem rback_no (k : Nat) (hk : 1 ≤ k) (mm ph : Int) (q : ¬ (checkC id m u b c z s me o a l = 0 ∧ 0 ≤ mm ∧ mm < m ∧ 0 ≤ ph ∧ ph < c)) : revetmentref08_Back.f k id m u b c z s me o a l mm ph = some (0, false) := by
  obtain ⟨k, rfl⟩ : ∃ j, k = j + 1 := ⟨k - 1, by omega⟩
  unfold revetmentref08_Back.f revetmentref07_Stripes.f revetmentref07_Check.f
  simp only [Option.bind_some, revetmentref08_Back.j0]
  by_cases h : checkC id m u b c z s me o a l = 0
  · obtain ⟨⟨m1, m2, u1, u2, c1, c2, S1, S2, R1, R2, uR, hR, Su, Z2, Z1⟩, hr, hs, hd, hz⟩ := good h
    rw [if_pos h, hs, Su]
    by_cases k0 : mm < 0
    · rw [if_pos k0, if_pos trivial]
    · rw [if_neg k0]
      by_cases k2 : mm ≥ m
      · rw [if_pos k2, if_pos trivial]
      · rw [if_neg k2]
        by_cases k1 : ph < 0
        · rw [if_pos k1, if_pos trivial]
        · rw [if_neg k1, wr (x := c) (by omega), decide_eq_true (by omega), if_pos rfl]
  · rw [if_neg h, if_pos trivial]
end
end Go.Proofs.Ytekihhbihnmakaa.Geo
