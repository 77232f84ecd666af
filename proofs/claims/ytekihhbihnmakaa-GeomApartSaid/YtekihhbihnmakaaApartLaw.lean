/- Plain laws: a logical block lies at its place alone, ahead of what is written later on that member. No program in sight. No condition. -/
import Derived.Test.YtekihhbihnmakaaPGeox26
import Derived.Test.YtekihhbihnmakaaPGeox27
import Derived.Test.YtekihhbihnmakaaPGeox6
import Derived.Test.YtekihhbihnmakaaPGeox9
import Derived.Test.YtekihhbihnmakaaNeedLaw
import Derived.Test.YtekihhbihnmakaaBackLaw
open Go.RowKit Go.Proofs.Ytekihhbihnmakaa Go.Proofs.Ytekihhbihnmakaa.PGeo Go.Proofs.YtekihhbihnmakaaW.PrintWords Go.Proofs.YtekihhbihnmakaaW.PrintLast
set_option linter.unusedVariables false
set_option linter.unusedSimpArgs false
namespace Go.Proofs.Ytekihhbihnmakaa.Geo
theorem memberP_bd {m st un : Int} (hm : 3 ≤ m) : 0 ≤ memberP m st un ∧ memberP m st un < m := ⟨Int.emod_nonneg _ (by omega), Int.emod_lt_of_pos _ (by omega)⟩
/-- The unit of the member of a unit is it. -/
theorem unit_member {m st un : Int} (hm : 3 ≤ m) (h0 : 0 ≤ st) (u0 : 0 ≤ un) (u1 : un < m - 1) : unitP m st (memberP m st un) = un := by
  obtain ⟨q0, q1⟩ := memberP_bd (m := m) (st := st) (un := un) hm
  obtain ⟨_, _, p3, _⟩ := unitP_spec (st := st) (mm := memberP m st un) hm h0 q0 q1
  exact ((p3 un u0 u1).1 rfl).symm
theorem clampP_in {x u : Int} (h0 : 0 ≤ x) (h1 : x ≤ u) : clampP x u = x := by
  unfold clampP; split
  · omega
  · first | rfl | rw [if_pos h1]
/-- What a place says of the member's blocks. -/
theorem place_more {m u c R S lb : Int} (g : Good m u c S R) (h0 : 0 ≤ lb) (h1 : lb < S * R) :
    0 ≤ memberP m (lb / R) (lb % R / u) ∧ memberP m (lb / R) (lb % R / u) < m ∧ unitP m (lb / R) (memberP m (lb / R) (lb % R / u)) = lb % R / u ∧
    (lb / R * u + lb % u) / u = lb / R ∧ (lb / R * u + lb % u) % u = lb % u ∧ 0 ≤ lb / R * u + lb % u ∧ lb / R * u + lb % u < c ∧
    needP m u R (memberP m (lb / R) (lb % R / u)) lb = lb / R * u + lb % u ∧
    ((lb + 1) % R ≠ 0 → needP m u R (memberP m (lb / R) (lb % R / u)) (lb + 1) = lb / R * u + lb % u + 1) ∧
    ((lb + 1) % R = 0 → needP m u R (memberP m (lb / R) (lb % R / u)) (lb + 1) = (lb / R + 1) * u) := by
  obtain ⟨p1, p2, p3, p4, p5, p6, p7, p8, p9, p10, p11, p12, p13, p14, p15⟩ := place_bd g h0 h1
  have g0 := g
  obtain ⟨m1, m2, u1, u2, c1, c2, S1, S2, R1, R2, uR, hR, Su, Z2, Z1⟩ := g
  obtain ⟨q0, q1⟩ := memberP_bd (m := m) (st := lb / R) (un := lb % R / u) m1
  have hu := unit_member (st := lb / R) m1 p1 p5 p6
  have e1 : (lb / R * u + lb % u) / u = lb / R := by
    rw [Int.add_comm, Int.add_mul_ediv_right _ _ (by omega), Int.ediv_eq_zero_of_lt p7 p8, Int.zero_add]
  have e2 : (lb / R * u + lb % u) % u = lb % u := by
    rw [Int.add_comm, Int.add_mul_emod_self_right, Int.emod_eq_of_lt p7 p8]
  have e3 : lb / R * u + u ≤ S * u := by
    have : (lb / R + 1) * u ≤ S * u := Int.mul_le_mul_of_nonneg_right (by omega) (by omega)
    rw [Int.add_mul] at this; omega
  have f1 : 0 ≤ lb % R / u * u := Int.mul_nonneg p5 (by omega)
  refine ⟨q0, q1, hu, e1, e2, by omega, by omega, ?_, fun hne => ?_, fun he => ?_⟩
  · unfold needP
    rw [hu, if_neg (by omega), show lb % R - lb % R / u * u = lb % u by omega, clampP_in p7 (by omega)]
  · have d := Int.mul_ediv_add_emod (lb + 1) R
    have n1 := Int.emod_nonneg (lb + 1) (show R ≠ 0 by omega)
    have hd : (lb + 1) / R = lb / R ∧ (lb + 1) % R = lb % R + 1 := by
      have hlt : lb % R + 1 < R := by
        rcases Int.lt_or_le (lb % R + 1) R with g | g
        · exact g
        · exfalso; apply hne
          rw [show lb + 1 = (lb / R + 1) * R by rw [Int.add_mul]; omega]
          exact Int.mul_emod_left _ _
      constructor
      · rw [show lb + 1 = lb % R + 1 + lb / R * R by omega, Int.add_mul_ediv_right _ _ (by omega), Int.ediv_eq_zero_of_lt (by omega) hlt, Int.zero_add]
      · rw [show lb + 1 = lb % R + 1 + lb / R * R by omega, Int.add_mul_emod_self_right, Int.emod_eq_of_lt (by omega) hlt]
    unfold needP
    rw [hd.1, hd.2, hu, if_neg (by omega), show lb % R + 1 - lb % R / u * u = lb % u + 1 by omega, clampP_in (by omega) (by omega)]; omega
  · have hd : (lb + 1) / R = lb / R + 1 := by
      have d := Int.mul_ediv_add_emod (lb + 1) R
      rw [he] at d
      have hge : R ≤ lb % R + 1 := by
        rcases Int.lt_or_le (lb % R + 1) R with g | g
        · exfalso
          have : (lb + 1) % R = lb % R + 1 := by rw [show lb + 1 = lb % R + 1 + lb / R * R by omega, Int.add_mul_emod_self_right, Int.emod_eq_of_lt (by omega) g]
          omega
        · exact g
      rw [show lb + 1 = (lb / R + 1) * R by rw [Int.add_mul]; omega]
      exact Int.mul_ediv_cancel _ (by omega)
    unfold needP
    rw [hd, he]
    split
    · omega
    · have : 0 ≤ unitP m (lb / R + 1) (memberP m (lb / R) (lb % R / u)) * u := Int.mul_nonneg (by omega) (by omega)
      have hc : clampP (0 - unitP m (lb / R + 1) (memberP m (lb / R) (lb % R / u)) * u) u = 0 := by unfold clampP; rw [if_pos (by omega)]
      rw [hc]; omega
section
variable (id m u b c z s me o a l : Int)
theorem geomApart_true (k : Nat) (hk : 50 ≤ k) (x y : Int) : revetmentlaw08_GeomApart.f k id m u b c z s me o a l x y = some true := by
  obtain ⟨k, rfl⟩ : ∃ j, k = j + 2 := ⟨k - 2, by omega⟩
  unfold revetmentlaw08_GeomApart.f
  by_cases q : checkC id m u b c z s me o a l = 0 ∧ 0 ≤ x ∧ x < sizeC m u b c z s me o a l
  · rw [of_ok (h := q.1) (q := q.2) (hk := by omega)]
    by_cases q' : checkC id m u b c z s me o a l = 0 ∧ 0 ≤ y ∧ y < sizeC m u b c z s me o a l
    · rw [of_ok (h := q'.1) (q := q'.2) (hk := by omega)]
      simp only [Option.bind_some, placeP, if_true, Bool.not_true, revetmentlaw08_GeomApart.j0]
      rw [if_neg (by decide)]
      obtain ⟨g, hr, hs, hd, hz⟩ := good q.1
      have g0 := g
      have h1 : x < c / u * ((m - 1) * u) := by rw [← hz]; exact q.2.2
      have h2 : y < c / u * ((m - 1) * u) := by rw [← hz]; exact q'.2.2
      obtain ⟨p1, p2, p3, p4, p5, p6, p7, p8, p9, p10, p11, p12, p13, p14, p15⟩ := place_bd g q.2.1 h1
      obtain ⟨r1, r2, r3, r4, r5, r6, r7, r8, r9, r10⟩ := place_more g q.2.1 h1
      obtain ⟨P1, P2, P3, P4, P5, P6, P7, P8, P9, P10, P11, P12, P13, P14, P15⟩ := place_bd g q'.2.1 h2
      obtain ⟨t1, t2, t3, t4, t5, t6, t7, t8, t9, t10⟩ := place_more g q'.2.1 h2
      obtain ⟨m1, m2, u1, u2, c1, c2, S1, S2, R1, R2, uR, hR, Su, Z2, Z1⟩ := g
      rw [back_ok (h := q.1) (q := by omega) (hk := by omega)]
      simp only [Option.bind_some]
      have hb : backP m u ((m - 1) * u) (memberP m (x / ((m - 1) * u)) (x % ((m - 1) * u) / u)) (x / ((m - 1) * u) * u + x % u) = (x, true) := by
        unfold backP
        rw [r4, r3, r5, if_neg (by omega)]
        congr 1; omega
      rw [hb]
      have hj : revetmentlaw08_GeomApart.j1 (k + 1) x x true true id m u b c z s me o a l (x / ((m - 1) * u)) (x % ((m - 1) * u) / u) (x % u) (memberP m (x / ((m - 1) * u)) (x % ((m - 1) * u) / u)) (x / ((m - 1) * u) * u + x % u) = some true := by
        simp only [revetmentlaw08_GeomApart.j1, if_true]
        have i1 : inP (sizeC m u b c z s me o a l) x = x := by unfold inP; rw [if_neg (by omega), if_pos (by omega)]
        have i2 : inP (sizeC m u b c z s me o a l) (x + 1) = x + 1 := by unfold inP; rw [if_neg (by omega), if_pos (by omega)]
        rw [wr (x := x + 1) (by omega), need_ok (h := q.1) (q := by omega), need_ok (h := q.1) (q := by omega), i1, i2, r8]
        simp only [Option.bind_some]
        rw [if_pos (Int.le_refl _)]
        unfold revetmentlaw08_grows.f revetmentref07_Row.f
        simp only [Option.bind_some]
        rw [hr, if_neg (by omega), wr (x := x + 1) (by omega), tm (by omega)]
        by_cases e : (x + 1) % ((m - 1) * u) = 0
        · have f1 : (x / ((m - 1) * u) + 1) * u ≤ 4096 * 64 := Int.mul_le_mul (by omega) (by omega) (by omega) (by omega)
          have f2 : 0 ≤ (x / ((m - 1) * u) + 1) * u := Int.mul_nonneg (by omega) (by omega)
          rw [if_pos e, r10 e, need_ok (h := q.1) (q := by omega), i1, r8]
          simp only [Option.bind_some]
          rw [wr (x := x / ((m - 1) * u) + 1) (by omega), wr (x := (x / ((m - 1) * u) + 1) * u) (by omega), wr (x := (x / ((m - 1) * u) + 1) * u - (x / ((m - 1) * u) * u + x % u)) (by omega), wr (by omega), if_pos (by omega), live_eq (hk := by omega)]; rfl
        · rw [if_neg e, r9 e]
          simp only [Option.bind_some]
          rw [wr (by omega), if_pos rfl, live_eq (hk := by omega)]; rfl
      by_cases e1 : x = y
      · rw [if_pos e1]; exact hj
      · rw [if_neg e1]
        by_cases e2 : memberP m (x / ((m - 1) * u)) (x % ((m - 1) * u) / u) = memberP m (y / ((m - 1) * u)) (y % ((m - 1) * u) / u)
        · rw [if_pos e2]
          have key : (x < y ↔ x / ((m - 1) * u) * u + x % u < y / ((m - 1) * u) * u + y % u) ∧ x / ((m - 1) * u) * u + x % u ≠ y / ((m - 1) * u) * u + y % u := by
            generalize hRR : (m - 1) * u = R at *
            have step : ∀ v w : Int, v < w → v * u + u ≤ w * u ∧ v * R + R ≤ w * R := fun v w hvw => by
              have a1 : (v + 1) * u ≤ w * u := Int.mul_le_mul_of_nonneg_right (by omega) (by omega)
              have a2 : (v + 1) * R ≤ w * R := Int.mul_le_mul_of_nonneg_right (by omega) (by omega)
              rw [Int.add_mul] at a1 a2; omega
            rcases Int.lt_or_le (x / R) (y / R) with l | l
            · have := step _ _ l; omega
            · rcases Int.lt_or_le (y / R) (x / R) with l2 | l2
              · have := step _ _ l2; omega
              · have e3 : x / R = y / R := by omega
                have e4 : x % R / u = y % R / u := by rw [← r3, ← t3, e2, e3]
                rw [e3] at p10 ⊢
                rw [e4] at p11
                omega
          rw [if_pos (by rw [beq_iff_eq]; exact decide_eq_decide.2 key.1)]
          have : (x / ((m - 1) * u) * u + x % u != y / ((m - 1) * u) * u + y % u) = true := by rw [bne_iff_ne]; exact key.2
          rw [this]; exact hj
        · rw [if_neg e2]; exact hj
    · rw [of_no (q := q') (hk := by omega)]
      simp only [Option.bind_some, placeP, if_true, Bool.not_false, revetmentlaw08_GeomApart.j0]
      rw [live_eq (hk := by omega)]; rfl
  · rw [of_no (q := q) (hk := by omega)]
    have : ∃ zz, geom_Of.f (k + 2) id m u b c z s me o a l y = some zz := by
      by_cases q' : checkC id m u b c z s me o a l = 0 ∧ 0 ≤ y ∧ y < sizeC m u b c z s me o a l
      · exact ⟨_, of_ok (h := q'.1) (q := q'.2) (hk := by omega) ..⟩
      · exact ⟨_, of_no (q := q') (hk := by omega) ..⟩
    obtain ⟨zz, hzz⟩ := this
    rw [hzz]
    simp only [Option.bind_some, revetmentlaw08_GeomApart.j0, if_true]
    rw [if_neg (by decide), live_eq (hk := by omega)]; rfl
end
end Go.Proofs.Ytekihhbihnmakaa.Geo
