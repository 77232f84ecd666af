/- Plain laws: how a block is read, and whether a parity is there: the reference answers alike. No program in sight. Conditions: as each says. -/
import Derived.Test.YtekihhbihnmakaaPAx13
import Derived.Test.YtekihhbihnmakaaPAx36
import Derived.Test.YtekihhbihnmakaaPAx37
import Derived.Test.YtekihhbihnmakaaPAx38
import Derived.Test.YtekihhbihnmakaaPAx39
import Derived.Test.YtekihhbihnmakaaPAx9
import Derived.Test.YtekihhbihnmakaaHowLaw
open Go.RowKit Go.Proofs.Ytekihhbihnmakaa Go.Proofs.Ytekihhbihnmakaa.PA Go.Proofs.YtekihhbihnmakaaW.PrintWords Go.Proofs.YtekihhbihnmakaaW.PrintLast
set_option linter.unusedVariables false
set_option linter.unusedSimpArgs false
namespace Go.Proofs.Ytekihhbihnmakaa.Geo
section
variable (id m u b c z s me o a l : Int)
theorem rright2_eq (hv : List Int) : revetmentref16_Right.f id m u b c z s me o a l hv = some (rightB2 id m u b c z s me o a l hv) := by
  unfold revetmentref16_Right.f revetmentref07_Check.f rightB2
  simp only [Option.bind_some]
  by_cases h : checkC id m u b c z s me o a l = 0 <;> simp [h]
theorem others_loop (h : checkC id m u b c z s me o a l = 0) (hv : List Int) (hl : (hv.length : Int) = m) (lb st un pin mb w : Int) (s0 : 0 ≤ st) (s1 : st < c / u) (d : Nat) : ∀ (k : Nat) (i : Int), 0 ≤ i → i ≤ (m - 1) * u → (m - 1) * u - i = d → d + 30 < k →
    ∃ r, revetmentref16_others.l0 k hv lb w i id m u b c z s me o a l st un pin mb (st * u + pin) = some r ∧ (r = true ↔ ∀ q : Int, i ≤ q → q < (m - 1) * u → st * ((m - 1) * u) + q ≠ lb → st * ((m - 1) * u) + q < w → q % u = pin → st * u + pin < rd hv (memberP m st (q / u))) := by
  obtain ⟨g, hr, hs, hd, hz⟩ := good h
  obtain ⟨m1, m2, u1, u2, c1, c2, S1, S2, R1, R2, uR, hR, Su, Z2, Z1⟩ := g
  have t1 : (st + 1) * ((m - 1) * u) ≤ c / u * ((m - 1) * u) := Int.mul_le_mul_of_nonneg_right (by omega) (by omega)
  have t2 : 0 ≤ st * ((m - 1) * u) := Int.mul_nonneg s0 (by omega)
  rw [Int.add_mul, Int.one_mul] at t1
  induction d with
  | zero =>
    intro k i v0 v1 hd hk
    obtain ⟨k, rfl⟩ : ∃ q, k = q + 1 := ⟨k - 1, by omega⟩
    simp only [revetmentref16_others.l0, revetmentref07_Row.f, Option.bind_some, hr]
    rw [if_neg (by omega)]
    exact ⟨true, rfl, by simp; intro q q0 q1; omega⟩
  | succ d ih =>
    intro k i v0 v1 hd hk
    obtain ⟨k, rfl⟩ : ∃ q, k = q + 1 := ⟨k - 1, by omega⟩
    obtain ⟨r, hr', hrr⟩ := ih k (i + 1) (by omega) (by omega) (by omega) (by omega)
    obtain ⟨r1, r2, r3⟩ := row_at (R := (m - 1) * u) (st := st) (i := i) (u := u) (by omega) v0 (by omega) ⟨m - 1, Int.mul_comm _ _⟩
    obtain ⟨b0, b1⟩ := memberP_bd m1 st (i / u)
    simp only [revetmentref16_others.l0, revetmentref07_Row.f, Option.bind_some, hr]
    rw [if_pos (by omega), wr (x := i + 1) ⟨by omega, by omega⟩, wr (x := st * ((m - 1) * u)) ⟨by omega, by omega⟩, wr (x := st * ((m - 1) * u) + i) ⟨by omega, by omega⟩, rof_ok (h := h) (hk := by omega) (q := ⟨by omega, by omega⟩)]
    simp only [Option.bind_some, placeP, r1, r2, r3]
    have step : (st * ((m - 1) * u) + i = lb ∨ ¬ st * ((m - 1) * u) + i < w ∨ ¬ i % u = pin ∨ st * u + pin < rd hv (memberP m st (i / u))) → (r = true ↔ ∀ q : Int, i ≤ q → q < (m - 1) * u → st * ((m - 1) * u) + q ≠ lb → st * ((m - 1) * u) + q < w → q % u = pin → st * u + pin < rd hv (memberP m st (q / u))) := by
      intro hc
      rw [hrr]
      constructor
      · intro H q q0 q1 q2 q3 q4
        by_cases e : q = i
        · subst e; rcases hc with hc | hc | hc | hc
          · exact absurd hc q2
          · exact absurd q3 hc
          · exact absurd q4 hc
          · exact hc
        · exact H q (by omega) q1 q2 q3 q4
      · intro H q q0 q1 q2 q3 q4; exact H q (by omega) q1 q2 q3 q4
    by_cases e1 : st * ((m - 1) * u) + i = lb
    · rw [if_pos e1]; exact ⟨r, hr', step (.inl e1)⟩
    · rw [if_neg e1]
      by_cases e2 : st * ((m - 1) * u) + i < w
      · rw [if_pos e2]
        by_cases e3 : i % u = pin
        · rw [if_pos e3, if_pos b0, if_pos (by omega), e3]
          by_cases e4 : rd hv (memberP m st (i / u)) ≤ st * u + pin
          · rw [if_pos e4]
            refine ⟨false, rfl, by simp; exact ⟨i, by omega, by omega, e1, e2, e3, e4⟩⟩
          · rw [if_neg e4]; exact ⟨r, hr', step (.inr (.inr (.inr (by omega))))⟩
        · rw [if_neg e3]; exact ⟨r, hr', step (.inr (.inr (.inl e3)))⟩
      · rw [if_neg e2]; exact ⟨r, hr', step (.inr (.inl e2))⟩
theorem others_ok (h : checkC id m u b c z s me o a l = 0) (hv : List Int) (hl : (hv.length : Int) = m) (lb w : Int) (q : 0 ≤ lb ∧ lb < sizeC m u b c z s me o a l) (k : Nat) (hk : 1000 ≤ k) :
    revetmentref16_others.f k id m u b c z s me o a l hv lb w = some (hasB m u ((m - 1) * u) hv (lb / ((m - 1) * u)) (lb % ((m - 1) * u) / u) (lb % u) (lb / ((m - 1) * u) * u + lb % u) w) := by
  obtain ⟨g, hr, hs, hd, hz⟩ := good h
  have g0 := g
  obtain ⟨m1, m2, u1, u2, c1, c2, S1, S2, R1, R2, uR, hR, Su, Z2, Z1⟩ := g
  obtain ⟨p1, p2, p3, p4, p5, p6, p7, p8, p9, p10, p11, p12, p13, p14, p15⟩ := place_bd g0 q.1 (by rw [← hz]; exact q.2)
  unfold revetmentref16_others.f
  rw [rof_ok (h := h) (hk := by omega) (q := q)]
  simp only [Option.bind_some, placeP]
  obtain ⟨r, e1, e2⟩ := others_loop id m u b c z s me o a l h hv hl lb (lb / ((m - 1) * u)) (lb % ((m - 1) * u) / u) (lb % u) (memberP m (lb / ((m - 1) * u)) (lb % ((m - 1) * u) / u)) w p1 p2 ((m - 1) * u).toNat k 0 (by omega) (by omega) (by omega) (by omega)
  rw [e1]; congr 1
  rw [Bool.eq_iff_iff, e2, hasB_iff]
  generalize lb / ((m - 1) * u) = st at *
  generalize lb % ((m - 1) * u) = ir at *
  generalize lb % u = pin at *
  generalize ir / u = un at *
  generalize hRR : (m - 1) * u = R at *
  constructor
  · intro H v v0 v1 v2 v3
    obtain ⟨f1, f2⟩ := at_unit (v := v) u1 p7 p8
    have w1 : (v + 1) * u ≤ (m - 1) * u := Int.mul_le_mul_of_nonneg_right (by omega) (by omega)
    have w0 : 0 ≤ v * u := Int.mul_nonneg v0 (by omega)
    rw [Int.add_mul, Int.one_mul, hRR] at w1
    have := H (v * u + pin) (by omega) (by omega) (fun e => v2 (by
      have e3 : v * u = un * u := by omega
      exact Int.eq_of_mul_eq_mul_right (by omega) e3)) (by omega) f2
    rw [f1] at this; exact this
  · intro H i i0 i1 i2 i3 i4
    have b4 := Int.mul_ediv_add_emod i u
    have b5 : 0 ≤ i / u := Int.ediv_nonneg i0 (by omega)
    have b6 : i / u < m - 1 := by rw [Int.ediv_lt_iff_lt_mul (by omega), hRR]; exact i1
    rw [Int.mul_comm] at b4
    exact H (i / u) b5 b6 (fun e => i2 (by rw [← e] at p11; omega)) (by omega)
theorem rhow_log (h : checkC id m u b c z s me o a l = 0) (hv : List Int) (hl : (hv.length : Int) = m) (pars : List S71) (hp : (pars.length : Int) ≤ 9223372036854775807) (hw : ∀ x ∈ pars, x.f0 ≤ 9223372036854775807) (lb mb : Int) (q : 0 ≤ lb ∧ lb < sizeC m u b c z s me o a l) (d : Nat) : ∀ (k i : Nat), i ≤ pars.length → pars.length - i = d → d + 1010 < k →
    revetmentref16_How.l0 k hv pars lb (logB m u ((m - 1) * u) hv pars lb i).1 (logB m u ((m - 1) * u) hv pars lb i).2 i id m u b c z s me o a l (lb / ((m - 1) * u)) (lb % ((m - 1) * u) / u) (lb % u) mb (lb / ((m - 1) * u) * u + lb % u) = some (logB m u ((m - 1) * u) hv pars lb pars.length) := by
  obtain ⟨g, hr, hs, hd, hz⟩ := good h
  have g0 := g
  obtain ⟨m1, m2, u1, u2, c1, c2, S1, S2, R1, R2, uR, hR, Su, Z2, Z1⟩ := g
  obtain ⟨p1, p2, p3, p4, p5, p6, p7, p8, p9, p10, p11, p12, p13, p14, p15⟩ := place_bd g0 q.1 (by rw [← hz]; exact q.2)
  have t1 : (lb / ((m - 1) * u) + 1) * ((m - 1) * u) ≤ c / u * ((m - 1) * u) := Int.mul_le_mul_of_nonneg_right (by omega) (by omega)
  have t2 := Int.add_mul (lb / ((m - 1) * u)) 1 ((m - 1) * u)
  rw [Int.one_mul] at t2
  induction d with
  | zero =>
    intro k i hi hd hk
    obtain ⟨k, rfl⟩ : ∃ q, k = q + 1 := ⟨k - 1, by omega⟩
    obtain rfl : i = pars.length := by omega
    simp only [revetmentref16_How.l0]
    rw [if_neg (by omega)]
  | succ d ih =>
    intro k i hi hd hk
    obtain ⟨k, rfl⟩ : ∃ q, k = q + 1 := ⟨k - 1, by omega⟩
    have ih' := ih k (i + 1) (by omega) (by omega) (by omega)
    simp only [revetmentref16_How.l0, revetmentref07_Row.f, Option.bind_some, hr]
    rw [if_pos (by omega), if_pos (by omega), wr (x := (i : Int) + 1) ⟨by omega, by omega⟩, wr (x := lb / ((m - 1) * u) * ((m - 1) * u)) ⟨by omega, by omega⟩, wr (x := lb / ((m - 1) * u) + 1) ⟨by omega, by omega⟩, wr (x := (lb / ((m - 1) * u) + 1) * ((m - 1) * u)) ⟨by omega, by omega⟩]
    have hwi : (rd_T71 pars i).f0 ≤ 9223372036854775807 := by
      refine hw _ ?_
      unfold rd_T71
      rw [Int.toNat_natCast, List.getD_eq_getElem?_getD, List.getElem?_eq_getElem (by omega)]
      exact List.getElem_mem _
    rw [show ((i + 1 : Nat) : Int) = (i : Int) + 1 by omega] at ih'
    have key : ((rd_T71 pars i).f0 > lb ∧ Int.tdiv (wrap64 ((rd_T71 pars i).f0 - 1)) ((m - 1) * u) = lb / ((m - 1) * u)) ↔ ((rd_T71 pars i).f0 > lb ∧ (rd_T71 pars i).f0 > lb / ((m - 1) * u) * ((m - 1) * u) ∧ (rd_T71 pars i).f0 ≤ (lb / ((m - 1) * u) + 1) * ((m - 1) * u)) := by
      constructor
      · rintro ⟨x1, x2⟩
        rw [wr ⟨by omega, by omega⟩, td (by omega)] at x2
        have y1 := Int.mul_ediv_add_emod ((rd_T71 pars i).f0 - 1) ((m - 1) * u)
        have y2 := Int.emod_nonneg ((rd_T71 pars i).f0 - 1) (show (m - 1) * u ≠ 0 by omega)
        have y3 := Int.emod_lt_of_pos ((rd_T71 pars i).f0 - 1) (show 0 < (m - 1) * u by omega)
        rw [x2, Int.mul_comm] at y1
        exact ⟨x1, by omega, by omega⟩
      · rintro ⟨x1, x2, x3⟩
        refine ⟨x1, ?_⟩
        rw [wr ⟨by omega, by omega⟩, td (by omega)]
        have := (row_at (R := (m - 1) * u) (st := lb / ((m - 1) * u)) (i := (rd_T71 pars i).f0 - 1 - lb / ((m - 1) * u) * ((m - 1) * u)) (u := 1) (by omega) (by omega) (by omega) ⟨_, (Int.one_mul _).symm⟩).1
        rw [show lb / ((m - 1) * u) * ((m - 1) * u) + ((rd_T71 pars i).f0 - 1 - lb / ((m - 1) * u) * ((m - 1) * u)) = (rd_T71 pars i).f0 - 1 by omega] at this
        exact this
    simp only [logB] at ih'
    by_cases e1 : (rd_T71 pars i).f0 > lb
    · rw [if_pos e1]
      by_cases e2 : (rd_T71 pars i).f0 > lb / ((m - 1) * u) * ((m - 1) * u)
      · rw [if_pos e2]
        by_cases e3 : (rd_T71 pars i).f0 ≤ (lb / ((m - 1) * u) + 1) * ((m - 1) * u)
        · rw [if_pos e3, others_ok (h := h) (hl := hl) (q := q) (hk := by omega)]
          simp only [Option.bind_some]
          have e4 := (key.2 ⟨e1, e2, e3⟩).2
          by_cases e5 : hasB m u ((m - 1) * u) hv (lb / ((m - 1) * u)) (lb % ((m - 1) * u) / u) (lb % u) (lb / ((m - 1) * u) * u + lb % u) (rd_T71 pars i).f0 = true
          · rw [if_pos e5]
            rw [if_pos ⟨e1, e4, e5⟩] at ih'
            exact ih'
          · rw [if_neg e5]
            rw [if_neg (fun z => e5 z.2.2)] at ih'
            exact ih'
        · rw [if_neg e3]
          rw [if_neg (fun z => e3 (key.1 ⟨z.1, z.2.1⟩).2.2)] at ih'
          exact ih'
      · rw [if_neg e2]
        rw [if_neg (fun z => e2 (key.1 ⟨z.1, z.2.1⟩).2.1)] at ih'
        exact ih'
    · rw [if_neg e1]
      rw [if_neg (fun z => e1 z.1)] at ih'
      exact ih'
theorem rhow_ok (k : Nat) (hv : List Int) (lost : Int) (pars : List S71) (hp : (pars.length : Int) ≤ 9223372036854775807) (hw : ∀ x ∈ pars, x.f0 ≤ 9223372036854775807) (lb : Int) (hk : pars.length + 1020 ≤ k) : revetmentref16_How.f k id m u b c z s me o a l hv lost pars lb = some (howF id m u b c z s me o a l hv lost pars lb) := by
  obtain ⟨k, rfl⟩ : ∃ j, k = j + 3 := ⟨k - 3, by omega⟩
  unfold revetmentref16_How.f
  rw [rright2_eq]
  simp only [Option.bind_some]
  by_cases hb : rightB2 id m u b c z s me o a l hv = true
  · obtain ⟨h, hl⟩ := rightB2_out hb
    obtain ⟨g, hr, hs, hd, hz⟩ := good h
    have g0 := g
    rw [if_pos hb]
    unfold howF
    by_cases q : 0 ≤ lb ∧ lb < sizeC m u b c z s me o a l
    · obtain ⟨m1, m2, u1, u2, c1, c2, S1, S2, R1, R2, uR, hR, Su, Z2, Z1⟩ := g
      obtain ⟨p1, p2, p3, p4, p5, p6, p7, p8, p9, p10, p11, p12, p13, p14, p15⟩ := place_bd g0 q.1 (by rw [← hz]; exact q.2)
      obtain ⟨b0, b1⟩ := memberP_bd m1 (lb / ((m - 1) * u)) (lb % ((m - 1) * u) / u)
      have q0 := Int.emod_nonneg (lb / ((m - 1) * u)) (show m ≠ 0 by omega)
      have q1 := Int.emod_lt_of_pos (lb / ((m - 1) * u)) (show 0 < m by omega)
      rw [if_neg (by omega), if_pos ⟨hb, q⟩]
      unfold howP
      simp only [revetmentref07_Size.f, Option.bind_some, revetmentref16_How.j0]
      rw [decide_eq_false (by omega), if_neg (by decide), rof_ok (h := h) (hk := by omega) (q := q)]
      simp only [Option.bind_some, placeP]
      by_cases e1 : memberP m (lb / ((m - 1) * u)) (lb % ((m - 1) * u) / u) = lost
      · rw [if_pos e1, if_pos e1]
        simp only [revetmentref16_How.j1, Bool.false_eq_true, if_false, revetmentref07_Size.f, Option.bind_some]
        rw [if_pos e1, others_ok (h := h) (hl := hl) (q := q) (hk := by omega)]
        simp only [Option.bind_some]
        have hlog := rhow_log id m u b c z s me o a l h hv hl pars hp hw lb (memberP m (lb / ((m - 1) * u)) (lb % ((m - 1) * u) / u)) q pars.length k 0 (by omega) (by omega) (by omega)
        by_cases e3 : hasB m u ((m - 1) * u) hv (lb / ((m - 1) * u)) (lb % ((m - 1) * u) / u) (lb % u) (lb / ((m - 1) * u) * u + lb % u) (sizeC m u b c z s me o a l) = true
        · rw [if_pos e3, if_neg (by omega), tm p1, if_pos q0, if_pos (by omega)]
          simp only [revetmentref16_How.j2]
          by_cases e2 : rd hv (lb / ((m - 1) * u) % m) > lb / ((m - 1) * u) * u + lb % u
          · rw [decide_eq_true e2, if_pos rfl, if_pos ⟨by omega, e3⟩]
          · rw [decide_eq_false e2, if_neg (by decide), if_neg (fun z => by have := z.1; omega)]
            exact hlog
        · rw [if_neg e3, if_neg (fun z => e3 z.2)]
          simp only [revetmentref16_How.j2, Bool.false_eq_true, if_false]
          exact hlog
      · rw [if_neg e1, if_neg e1, if_pos b0, if_pos (by omega)]
        simp only [revetmentref16_How.j1]
        by_cases e2 : rd hv (memberP m (lb / ((m - 1) * u)) (lb % ((m - 1) * u) / u)) > lb / ((m - 1) * u) * u + lb % u
        · rw [decide_eq_true e2, if_pos rfl, if_pos (by omega)]
        · rw [decide_eq_false e2, if_neg (by decide), if_neg e1, if_neg (by omega)]
    · rw [if_neg (c := rightB2 id m u b c z s me o a l hv = true ∧ 0 ≤ lb ∧ lb < sizeC m u b c z s me o a l) (fun z => q z.2)]
      by_cases e : lb < 0
      · rw [if_pos e]; simp only [revetmentref16_How.j0, if_true]
      · rw [if_neg e]
        simp only [revetmentref07_Size.f, Option.bind_some, revetmentref16_How.j0]
        rw [decide_eq_true (by omega), if_pos rfl]
  · rw [if_neg hb]
    unfold howF
    rw [if_neg (c := rightB2 id m u b c z s me o a l hv = true ∧ 0 ≤ lb ∧ lb < sizeC m u b c z s me o a l) (fun z => hb z.1)]
    simp only [revetmentref16_How.j0, if_true]
theorem rwhole_ok (hv : List Int) (lost st : Int) : revetmentref16_Whole.f id m u b c z s me o a l hv lost st = some (wholeF id m u b c z s me o a l hv lost st) := by
  unfold revetmentref16_Whole.f wholeF
  rw [rright2_eq]
  simp only [Option.bind_some]
  by_cases hb : rightB2 id m u b c z s me o a l hv = true
  · obtain ⟨h, hl⟩ := rightB2_out hb
    obtain ⟨g, hr, hs, hd, hz⟩ := good h
    rw [if_pos hb, hb, Bool.true_and]
    unfold wholeB revetmentref07_Stripes.f
    simp only [Option.bind_some, hs]
    by_cases c1 : st < 0
    · rw [if_pos c1, decide_eq_false (by omega), Bool.false_and]
    · rw [if_neg c1]
      by_cases c2 : st ≥ c / u
      · rw [if_pos c2, decide_eq_false (by omega), Bool.false_and]
      · obtain ⟨q0, q1, q2, q3, q4⟩ := whole_bd g (st := st) (by omega) (by omega)
        have := g.u2; have := g.u1; have := g.S2; have := g.m1
        rw [if_neg c2, if_neg (by omega), tm (by omega), decide_eq_true (p := 0 ≤ st ∧ st < c / u) (by omega), Bool.true_and]
        by_cases c3 : st % m = lost
        · rw [if_pos c3, decide_eq_true c3, Bool.true_or]
        · rw [if_neg c3, decide_eq_false c3, Bool.false_or, if_pos q0, if_pos (by omega), wr (x := st * u) ⟨by omega, by omega⟩, wr ⟨by omega, by omega⟩, q4]
  · rw [if_neg hb, show rightB2 id m u b c z s me o a l hv = false by simpa using hb, Bool.false_and]
end
end Go.Proofs.Ytekihhbihnmakaa.Geo
