/- Plain laws: what one block more is for each member. No program in sight. Conditions: as each says. -/

import Derived.Test.YtekihhbihnmakaaSteps
import Derived.Test.YtekihhbihnmakaaGeoLaw
import Derived.Test.YtekihhbihnmakaaNeedLaw
open Go.RowKit Go.Proofs.Ytekihhbihnmakaa Go.Proofs.Ytekihhbihnmakaa.PA Go.Proofs.YtekihhbihnmakaaW.PrintWords Go.Proofs.YtekihhbihnmakaaW.PrintLast
set_option linter.unusedVariables false
set_option linter.unusedSimpArgs false
namespace Go.Proofs.Ytekihhbihnmakaa.Geo
/-- The next block: in the same row, or at the next's begin. -/
theorem next_row {x R : Int} (hR : 0 < R) (hx : 0 ≤ x) : (x + 1) / R = x / R + (if (x + 1) % R = 0 then 1 else 0) ∧ ((x + 1) % R = 0 ↔ x % R = R - 1) := by
  have a1 := Int.emod_nonneg x (show R ≠ 0 by omega)
  have a2 := Int.emod_lt_of_pos x hR
  have a3 := Int.mul_ediv_add_emod x R
  have key : (x + 1) % R = (x % R + 1) % R := by rw [Int.emod_add_emod]
  by_cases h : x % R = R - 1
  · have e1 : x + 1 = R * (x / R + 1) := by rw [Int.mul_add]; omega
    have e2 : (x + 1) % R = 0 := by rw [e1]; exact Int.mul_emod_right _ _
    refine ⟨?_, by simp [e2, h]⟩
    rw [if_pos e2, e1, Int.mul_ediv_cancel_left _ (by omega)]
  · have e2 : (x + 1) % R = x % R + 1 := by rw [key]; exact Int.emod_eq_of_lt (by omega) (by omega)
    have e3 : ¬ (x + 1) % R = 0 := by omega
    refine ⟨?_, by constructor <;> intro h' <;> omega⟩
    rw [if_neg e3]
    have e1 : x + 1 = (x % R + 1) + R * (x / R) := by omega
    rw [e1, Int.add_mul_ediv_left _ _ (show R ≠ 0 by omega), Int.ediv_eq_zero_of_lt (by omega) (by omega)]
    have e4 : x % R + 1 + R * (x / R) = x + 1 := by omega
    omega
theorem last_iff {m u R lb un pin : Int} (hR : R = (m - 1) * u) (hu : 1 ≤ u) (hm : 3 ≤ m) (h1 : lb % R = un * u + pin) (h2 : un < m - 1) (h3 : 0 ≤ un) (h4 : 0 ≤ pin) (h5 : pin < u) : lb % R = R - 1 ↔ (un = m - 2 ∧ pin = u - 1) := by
  rw [h1, hR]
  have e1 : (m - 1) * u = (m - 2) * u + u := by rw [show m - 1 = (m - 2) + 1 by omega, Int.add_mul, Int.one_mul]
  constructor
  · intro h
    by_cases hun : un = m - 2
    · subst hun; exact ⟨rfl, by omega⟩
    · have d : un * u ≤ (m - 3) * u := Int.mul_le_mul_of_nonneg_right (by omega) (by omega)
      have e2 : (m - 2) * u = (m - 3) * u + u := by rw [show m - 2 = (m - 3) + 1 by omega, Int.add_mul, Int.one_mul]
      omega
  · rintro ⟨rfl, rfl⟩; omega
theorem clampP_le {x u : Int} (h : x ≤ 0) : clampP x u = 0 := by unfold clampP; rw [if_pos h]
theorem clampP_in {x u : Int} (h0 : 0 ≤ x) (h1 : x ≤ u) : clampP x u = x := by
  unfold clampP
  by_cases c1 : x ≤ 0
  · rw [if_pos c1]; omega
  · rw [if_neg c1, if_pos h1]
theorem need_next {m u c R S lb mm : Int} (g : Good m u c S R) (h0 : 0 ≤ lb) (h1 : lb < S * R) (q0 : 0 ≤ mm) (q1 : mm < m) :
    needP m u R mm (lb + 1) = needP m u R mm lb + (if memberP m (lb / R) (lb % R / u) = mm then 1 else 0) + (if (lb + 1) % R = 0 ∧ lb / R % m = mm then u else 0) := by
  have g0 := g
  obtain ⟨m1, m2, u1, u2, c1, c2, S1, S2, R1, R2, uR, hR, Su, Z2, Z1⟩ := g
  obtain ⟨p1, p2, p3, p4, p5, p6, p7, p8, p9, p10, p11, p12, p13, p14, p15⟩ := place_bd g0 h0 h1
  obtain ⟨s1, s2, s3, s4⟩ := unitP_spec (st := lb / R) (mm := mm) m1 p1 q0 q1
  obtain ⟨n1, n2⟩ := next_row (x := lb) (R := R) (by omega) h0
  have hmem := s3 (lb % R / u) p5 p6
  have hlast := last_iff (lb := lb) hR u1 m1 p11 p6 p5 p7 p8
  have a3 := Int.mul_ediv_add_emod (lb + 1) R
  have b3 := Int.mul_ediv_add_emod lb R
  have dU : 0 ≤ unitP m (lb / R) mm → (unitP m (lb / R) mm + 1) * u ≤ (m - 1) * u := fun _ => Int.mul_le_mul_of_nonneg_right (by omega) (by omega)
  rw [← hR, Int.add_mul, Int.one_mul] at dU
  have eR : R = (m - 2) * u + u := by rw [hR, show m - 1 = (m - 2) + 1 by omega, Int.add_mul, Int.one_mul]
  generalize hst : lb / R = st at *
  generalize hi : lb % R = i at *
  generalize hv : i / u = v at *
  generalize ht : lb % u = t at *
  generalize hU : unitP m st mm = U at *
  have hlt : ∀ x y : Int, x < y → x * u + u ≤ y * u := fun x y hxy => by
    have : (x + 1) * u ≤ y * u := Int.mul_le_mul_of_nonneg_right (by omega) (by omega)
    rw [Int.add_mul, Int.one_mul] at this; exact this
  by_cases c1' : (lb + 1) % R = 0
  · rw [if_pos c1'] at n1
    have hlv := hlast.1 (n2.1 c1')
    have e1 : needP m u R mm (lb + 1) = (st + 1) * u := by
      unfold needP
      rw [n1, c1']
      split
      · omega
      · have hU' : 0 ≤ unitP m (st + 1) mm * u := Int.mul_nonneg (by omega) (by omega)
        rw [clampP_le (by omega)]; omega
    rw [e1, Int.add_mul, Int.one_mul]
    have e2 : needP m u R mm lb = st * u + (if U < 0 then 0 else clampP (i - U * u) u) := by unfold needP; rw [hst, hi, hU]
    rw [e2]
    by_cases c2' : memberP m st v = mm
    · have hvU := hmem.1 c2'
      rw [if_pos c2', if_neg (by omega), if_neg (fun z => by have := s4.2 z.2; omega), ← hvU, clampP_in (by omega) (by omega)]
      omega
    · have hvU : ¬ v = U := fun z => c2' (hmem.2 z)
      rw [if_neg c2']
      by_cases c3' : U < 0
      · rw [if_pos c3', if_pos ⟨c1', s4.1 (by omega)⟩]; omega
      · rw [if_neg c3', if_neg (fun z => by have := s4.2 z.2; omega), clampP_ge u1 (by have := hlt U (m - 2) (by omega); omega)]
        omega
  · rw [if_neg c1'] at n1
    rw [Int.add_zero] at n1
    have e0 : (lb + 1) % R = i + 1 := by rw [n1] at a3; omega
    have e1 : needP m u R mm (lb + 1) = st * u + (if U < 0 then 0 else clampP (i + 1 - U * u) u) := by unfold needP; rw [n1, e0, hU]
    have e2 : needP m u R mm lb = st * u + (if U < 0 then 0 else clampP (i - U * u) u) := by unfold needP; rw [hst, hi, hU]
    rw [e1, e2, if_neg (c := (lb + 1) % R = 0 ∧ st % m = mm) (fun z => c1' z.1)]
    by_cases c2' : memberP m st v = mm
    · have hvU := hmem.1 c2'
      rw [if_pos c2', if_neg (by omega), if_neg (by omega), ← hvU, clampP_in (by omega) (by omega), clampP_in (by omega) (by omega)]
      omega
    · have hvU : ¬ v = U := fun z => c2' (hmem.2 z)
      rw [if_neg c2']
      by_cases c3' : U < 0
      · rw [if_pos c3', if_pos c3']; omega
      · rw [if_neg c3', if_neg c3']
        rcases Int.lt_or_le v U with z | z
        · have := hlt v U z
          rw [clampP_le (by omega), clampP_le (by omega)]; omega
        · have := hlt U v (by omega)
          rw [clampP_ge u1 (by omega), clampP_ge u1 (by omega)]; omega
theorem need_member {m u c R S lb : Int} (g : Good m u c S R) (h0 : 0 ≤ lb) (h1 : lb < S * R) : needP m u R (memberP m (lb / R) (lb % R / u)) lb = lb / R * u + lb % u := by
  have g0 := g
  obtain ⟨m1, m2, u1, u2, c1, c2, S1, S2, R1, R2, uR, hR, Su, Z2, Z1⟩ := g
  obtain ⟨p1, p2, p3, p4, p5, p6, p7, p8, p9, p10, p11, p12, p13, p14, p15⟩ := place_bd g0 h0 h1
  have b0 : 0 ≤ memberP m (lb / R) (lb % R / u) := Int.emod_nonneg _ (by omega)
  have b1 : memberP m (lb / R) (lb % R / u) < m := Int.emod_lt_of_pos _ (by omega)
  obtain ⟨s1, s2, s3, s4⟩ := unitP_spec (st := lb / R) (mm := memberP m (lb / R) (lb % R / u)) m1 p1 b0 b1
  have hmem := (s3 (lb % R / u) p5 p6).1 rfl
  unfold needP
  rw [← hmem, if_neg (by omega), clampP_in (by omega) (by omega)]
  omega
theorem need_parity {m u c R S lb : Int} (g : Good m u c S R) (h0 : 0 ≤ lb) (h1 : lb < S * R) : needP m u R (lb / R % m) lb = lb / R * u ∧ lb / R % m ≠ memberP m (lb / R) (lb % R / u) := by
  have g0 := g
  obtain ⟨m1, m2, u1, u2, c1, c2, S1, S2, R1, R2, uR, hR, Su, Z2, Z1⟩ := g
  obtain ⟨p1, p2, p3, p4, p5, p6, p7, p8, p9, p10, p11, p12, p13, p14, p15⟩ := place_bd g0 h0 h1
  have b0 : 0 ≤ lb / R % m := Int.emod_nonneg _ (by omega)
  have b1 : lb / R % m < m := Int.emod_lt_of_pos _ (by omega)
  obtain ⟨s1, s2, s3, s4⟩ := unitP_spec (st := lb / R) (mm := lb / R % m) m1 p1 b0 b1
  have hU := s4.2 rfl
  refine ⟨?_, fun e => ?_⟩
  · unfold needP; rw [hU, if_pos (by omega)]; omega
  · have := (s3 (lb % R / u) p5 p6).1 e.symm
    omega
theorem stepsL_split (m u lb : Int) (a b : Nat) : stepsL m u lb (a + b) = stepsL m u lb a ++ stepsL m u (lb + a) b := by
  induction b with
  | zero => simp [stepsL]
  | succ b ih =>
    rw [← Nat.add_assoc, stepsL_succ, ih, stepsL_succ, List.append_assoc]
    push_cast
    rw [Int.add_assoc]
theorem rd53 (pre : List S53) (x : S53) (l : List S53) : rd_T53 (pre ++ x :: l) (pre.length : Int) = x := by
  unfold rd_T53; rw [Int.toNat_natCast, List.getD_eq_getElem?_getD]; simp
end Go.Proofs.Ytekihhbihnmakaa.Geo
