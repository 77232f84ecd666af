/- Plain laws: how a block is read, and whether a parity is there, as the program has it. No program in sight. Conditions: as each says. -/
import Derived.Test.YtekihhbihnmakaaPAx36
import Derived.Test.YtekihhbihnmakaaPAx47
import Derived.Test.YtekihhbihnmakaaPAx48
import Derived.Test.YtekihhbihnmakaaPAx49
import Derived.Test.YtekihhbihnmakaaPAx5
import Derived.Test.YtekihhbihnmakaaPAx6
import Derived.Test.YtekihhbihnmakaaGeoLaw
open Go.RowKit Go.Proofs.Ytekihhbihnmakaa Go.Proofs.Ytekihhbihnmakaa.PA Go.Proofs.YtekihhbihnmakaaW.PrintWords Go.Proofs.YtekihhbihnmakaaW.PrintLast
set_option linter.unusedVariables false
set_option linter.unusedSimpArgs false
namespace Go.Proofs.Ytekihhbihnmakaa.Geo
/-- Has each other unit's member the block of this place, if that is below w? -/
def hasB (m u R : Int) (hv : List Int) (st un pin ph w : Int) : Bool := (List.range (m - 1).toNat).all fun (v : Nat) => decide ((v : Int) = un) || (decide (w ≤ st * R + v * u + pin) || decide (ph < rd hv (memberP m st v)))
theorem hasB_iff (m u R : Int) (hv : List Int) (st un pin ph w : Int) : hasB m u R hv st un pin ph w = true ↔ ∀ v : Int, 0 ≤ v → v < m - 1 → v ≠ un → st * R + v * u + pin < w → ph < rd hv (memberP m st v) := by
  unfold hasB
  rw [List.all_eq_true]
  constructor
  · intro h v v0 v1 v2 v3
    have := h v.toNat (List.mem_range.2 (by omega))
    rw [Int.toNat_of_nonneg v0] at this
    simp only [Bool.or_eq_true, decide_eq_true_eq] at this
    omega
  · intro h v hv
    have h1 := List.mem_range.1 hv
    simp only [Bool.or_eq_true, decide_eq_true_eq]
    have := h v (by omega) (by omega)
    omega
theorem memberP_bd {m : Int} (hm : 3 ≤ m) (st v : Int) : 0 ≤ memberP m st v ∧ memberP m st v < m := ⟨Int.emod_nonneg _ (by omega), Int.emod_lt_of_pos _ (by omega)⟩
/-- A block of a row. -/
theorem row_at {R st i u : Int} (hR : 0 < R) (h0 : 0 ≤ i) (h1 : i < R) (hd : u ∣ R) : (st * R + i) / R = st ∧ (st * R + i) % R = i ∧ (st * R + i) % u = i % u := by
  have e : st * R + i = i + R * st := by rw [Int.mul_comm]; omega
  refine ⟨?_, ?_, ?_⟩
  · rw [e, Int.add_mul_ediv_left _ _ (by omega), Int.ediv_eq_zero_of_lt h0 h1]; omega
  · rw [e, Int.add_mul_emod_self_left]; exact Int.emod_eq_of_lt h0 h1
  · obtain ⟨q, rfl⟩ := hd; rw [e, Int.mul_assoc, Int.add_mul_emod_self_left]
theorem at_unit {v u pin : Int} (hu : 1 ≤ u) (h0 : 0 ≤ pin) (h1 : pin < u) : (v * u + pin) / u = v ∧ (v * u + pin) % u = pin := by
  constructor
  · rw [Int.add_comm, Int.add_mul_ediv_right _ _ (by omega), Int.ediv_eq_zero_of_lt h0 h1, Int.zero_add]
  · rw [Int.add_comm, Int.add_mul_emod_self_right, Int.emod_eq_of_lt h0 h1]
/-- The last parity of the log that serves, of the first so many. -/
def logB (m u R : Int) (hv : List Int) (pars : List S71) (lb : Int) : Nat → Int × Int
  | 0 => (0, 0)
  | i + 1 => if (rd_T71 pars i).f0 > lb ∧ Int.tdiv (wrap64 ((rd_T71 pars i).f0 - 1)) R = lb / R ∧ hasB m u R hv (lb / R) (lb % R / u) (lb % u) (lb / R * u + lb % u) (rd_T71 pars i).f0 = true then (3, (i : Int)) else logB m u R hv pars lb i
def howP (m u R Z : Int) (hv : List Int) (lost : Int) (pars : List S71) (lb : Int) : Int × Int :=
  if memberP m (lb / R) (lb % R / u) = lost then
    (if lb / R * u + lb % u < rd hv (lb / R % m) ∧ hasB m u R hv (lb / R) (lb % R / u) (lb % u) (lb / R * u + lb % u) Z = true then (2, 0) else logB m u R hv pars lb pars.length)
  else if lb / R * u + lb % u < rd hv (memberP m (lb / R) (lb % R / u)) then (1, 0) else (0, 0)
def wholeB (m u S : Int) (hv : List Int) (lost st : Int) : Bool := decide (0 ≤ st ∧ st < S) && (decide (st % m = lost) || decide ((st + 1) * u ≤ rd hv (st % m)))
section
variable (id m u b c z s me o a l : Int)
def rightB2 (hv : List Int) : Bool := decide (checkC id m u b c z s me o a l = 0) && ((hv.length : Int) == m)
theorem pright_eq (hv : List Int) : prefix_right.f id m u b c z s me o a l hv = some (rightB2 id m u b c z s me o a l hv) := by
  unfold prefix_right.f conf_Check.f rightB2
  simp only [Option.bind_some]
  by_cases h : checkC id m u b c z s me o a l = 0 <;> simp [h]
def howF (hv : List Int) (lost : Int) (pars : List S71) (lb : Int) : Int × Int := if rightB2 id m u b c z s me o a l hv = true ∧ 0 ≤ lb ∧ lb < sizeC m u b c z s me o a l then howP m u ((m - 1) * u) (sizeC m u b c z s me o a l) hv lost pars lb else (0, 0)
def wholeF (hv : List Int) (lost st : Int) : Bool := rightB2 id m u b c z s me o a l hv && wholeB m u (c / u) hv lost st
theorem rightB2_out {id m u b c z s me o a l : Int} {hv : List Int} (h : rightB2 id m u b c z s me o a l hv = true) : checkC id m u b c z s me o a l = 0 ∧ (hv.length : Int) = m := by
  unfold rightB2 at h
  simpa using h
theorem has_loop (h : checkC id m u b c z s me o a l = 0) (hv : List Int) (hl : (hv.length : Int) = m) (st un pin mb ph w : Int) (s0 : 0 ≤ st) (s1 : st < c / u) (p0 : 0 ≤ pin) (p1 : pin < u) (d : Nat) : ∀ (k : Nat) (v : Int), 0 ≤ v → v ≤ m - 1 → m - 1 - v = d → d < k →
    ∃ r, prefix_has.l0 k hv w (st * ((m - 1) * u)) (m - 1) v id m u b c z s me o a l st un pin mb ph = some r ∧ (r = true ↔ ∀ q : Int, v ≤ q → q < m - 1 → q ≠ un → st * ((m - 1) * u) + q * u + pin < w → ph < rd hv (memberP m st q)) := by
  obtain ⟨g, hr, hs, hd, hz⟩ := good h
  obtain ⟨m1, m2, u1, u2, c1, c2, S1, S2, R1, R2, uR, hR, Su, Z2, Z1⟩ := g
  have t1 : (st + 1) * ((m - 1) * u) ≤ c / u * ((m - 1) * u) := Int.mul_le_mul_of_nonneg_right (by omega) (by omega)
  have t2 : 0 ≤ st * ((m - 1) * u) := Int.mul_nonneg s0 (by omega)
  rw [Int.add_mul, Int.one_mul] at t1
  induction d with
  | zero =>
    intro k v v0 v1 hd hk
    obtain ⟨k, rfl⟩ : ∃ q, k = q + 1 := ⟨k - 1, by omega⟩
    simp only [prefix_has.l0]
    rw [if_neg (by omega)]
    exact ⟨true, rfl, by simp; intro q q0 q1; omega⟩
  | succ d ih =>
    intro k v v0 v1 hd hk
    obtain ⟨k, rfl⟩ : ∃ q, k = q + 1 := ⟨k - 1, by omega⟩
    obtain ⟨r, hr', hrr⟩ := ih k (v + 1) (by omega) (by omega) (by omega) (by omega)
    have w1 : (v + 1) * u ≤ (m - 1) * u := Int.mul_le_mul_of_nonneg_right (by omega) (by omega)
    have w0 : 0 ≤ v * u := Int.mul_nonneg (by omega) (by omega)
    rw [Int.add_mul, Int.one_mul] at w1
    obtain ⟨b0, b1⟩ := memberP_bd m1 st v
    simp only [prefix_has.l0]
    rw [if_pos (by omega), wr (x := v + 1) ⟨by omega, by omega⟩, wr (x := v * u) ⟨by omega, by omega⟩, wr (x := st * ((m - 1) * u) + v * u) ⟨by omega, by omega⟩, wr (x := st * ((m - 1) * u) + v * u + pin) ⟨by omega, by omega⟩]
    have step : (v = un ∨ ¬ st * ((m - 1) * u) + v * u + pin < w ∨ ph < rd hv (memberP m st v)) → (r = true ↔ ∀ q : Int, v ≤ q → q < m - 1 → q ≠ un → st * ((m - 1) * u) + q * u + pin < w → ph < rd hv (memberP m st q)) := by
      intro hc
      rw [hrr]
      constructor
      · intro H q q0 q1 q2 q3
        by_cases e : q = v
        · subst e; rcases hc with hc | hc | hc
          · exact absurd hc q2
          · exact absurd q3 hc
          · exact hc
        · exact H q (by omega) q1 q2 q3
      · intro H q q0 q1 q2 q3; exact H q (by omega) q1 q2 q3
    by_cases e1 : v = un
    · rw [if_pos e1]; exact ⟨r, hr', step (.inl e1)⟩
    · rw [if_neg e1]
      by_cases e2 : st * ((m - 1) * u) + v * u + pin < w
      · rw [if_pos e2, member_ok (h := h), if_pos ⟨s0, s1, v0, by omega⟩]
        simp only [Option.bind_some]
        rw [if_pos b0, if_pos (by omega)]
        by_cases e3 : rd hv (memberP m st v) ≤ ph
        · rw [if_pos e3]
          refine ⟨false, rfl, by simp; exact ⟨v, by omega, by omega, e1, e2, e3⟩⟩
        · rw [if_neg e3]; exact ⟨r, hr', step (.inr (.inr (by omega)))⟩
      · rw [if_neg e2]; exact ⟨r, hr', step (.inr (.inl e2))⟩
theorem has_ok (h : checkC id m u b c z s me o a l = 0) (hv : List Int) (hl : (hv.length : Int) = m) (st un pin mb ph w : Int) (s0 : 0 ≤ st) (s1 : st < c / u) (p0 : 0 ≤ pin) (p1 : pin < u) (k : Nat) (hk : 20 ≤ k) :
    prefix_has.f k id m u b c z s me o a l hv st un pin mb ph w = some (hasB m u ((m - 1) * u) hv st un pin ph w) := by
  obtain ⟨g, hr, hs, hd, hz⟩ := good h
  have m1 := g.m1; have m2 := g.m2
  have t1 : (st + 1) * ((m - 1) * u) ≤ c / u * ((m - 1) * u) := Int.mul_le_mul_of_nonneg_right (by omega) (by have := g.R1; omega)
  have t2 : 0 ≤ st * ((m - 1) * u) := Int.mul_nonneg s0 (by have := g.R1; omega)
  rw [Int.add_mul, Int.one_mul] at t1
  unfold prefix_has.f conf_Row.f conf_Data.f
  simp only [Option.bind_some]
  rw [hr, hd, wr ⟨by omega, by have := g.Z2; have := g.R1; omega⟩]
  obtain ⟨r, e1, e2⟩ := has_loop id m u b c z s me o a l h hv hl st un pin mb ph w s0 s1 p0 p1 (m - 1).toNat k 0 (by omega) (by omega) (by omega) (by omega)
  rw [e1]; congr 1
  rw [Bool.eq_iff_iff, e2, hasB_iff]
theorem how_log (h : checkC id m u b c z s me o a l = 0) (hv : List Int) (hl : (hv.length : Int) = m) (pars : List S71) (hp : (pars.length : Int) ≤ 9223372036854775807) (lb mb : Int) (q : 0 ≤ lb ∧ lb < sizeC m u b c z s me o a l) (d : Nat) : ∀ (k : Nat), d ≤ pars.length → d + 30 < k →
    prefix_How.l0 k hv pars lb ((d : Int) - 1) id m u b c z s me o a l (lb / ((m - 1) * u)) (lb % ((m - 1) * u) / u) (lb % u) mb (lb / ((m - 1) * u) * u + lb % u) = some (logB m u ((m - 1) * u) hv pars lb d) := by
  obtain ⟨g, hr, hs, hd, hz⟩ := good h
  have g0 := g
  obtain ⟨m1, m2, u1, u2, c1, c2, S1, S2, R1, R2, uR, hR, Su, Z2, Z1⟩ := g
  obtain ⟨p1, p2, p3, p4, p5, p6, p7, p8, p9, p10, p11, p12, p13, p14, p15⟩ := place_bd g0 q.1 (by rw [← hz]; exact q.2)
  induction d with
  | zero =>
    intro k hd hk
    obtain ⟨k, rfl⟩ : ∃ q, k = q + 1 := ⟨k - 1, by omega⟩
    simp only [prefix_How.l0]
    rw [if_neg (by omega)]; rfl
  | succ d ih =>
    intro k hd hk
    obtain ⟨k, rfl⟩ : ∃ q, k = q + 1 := ⟨k - 1, by omega⟩
    have ih' := ih k (by omega) (by omega)
    simp only [prefix_How.l0, conf_Row.f, Option.bind_some, hr]
    rw [show ((d + 1 : Nat) : Int) - 1 = (d : Int) by omega, if_pos (by omega), if_pos (by omega), if_pos (by omega), wr (x := (d : Int) - 1) ⟨by omega, by omega⟩]
    simp only [logB]
    have hq1 : lb / ((m - 1) * u) ≤ 4096 := by omega
    by_cases e1 : (rd_T71 pars d).f0 > lb
    · rw [if_pos e1, if_neg (by omega)]
      have wt : wrap64 (Int.tdiv (wrap64 ((rd_T71 pars d).f0 - 1)) ((m - 1) * u)) = Int.tdiv (wrap64 ((rd_T71 pars d).f0 - 1)) ((m - 1) * u) := by
        refine wr ?_
        generalize hx : wrap64 ((rd_T71 pars d).f0 - 1) = x
        have hxb : -9223372036854775808 ≤ x ∧ x ≤ 9223372036854775807 := by rw [← hx]; unfold wrap64; omega
        rcases Int.le_total 0 x with g | g
        · rw [td g]
          have := Int.ediv_nonneg g (show 0 ≤ (m - 1) * u by omega)
          have := Int.ediv_le_self ((m - 1) * u) g
          omega
        · obtain ⟨y, rfl⟩ : ∃ y, x = -y := ⟨-x, by omega⟩
          rw [Int.neg_tdiv, td (by omega)]
          have := Int.ediv_nonneg (show 0 ≤ y by omega) (show 0 ≤ (m - 1) * u by omega)
          have := Int.ediv_le_self ((m - 1) * u) (show 0 ≤ y by omega)
          omega
      rw [wt]
      by_cases e2 : Int.tdiv (wrap64 ((rd_T71 pars d).f0 - 1)) ((m - 1) * u) = lb / ((m - 1) * u)
      · rw [if_pos e2, has_ok (h := h) (hl := hl) (s0 := p1) (s1 := p2) (p0 := p7) (p1 := p8) (hk := by omega)]
        simp only [Option.bind_some]
        by_cases e3 : hasB m u ((m - 1) * u) hv (lb / ((m - 1) * u)) (lb % ((m - 1) * u) / u) (lb % u) (lb / ((m - 1) * u) * u + lb % u) (rd_T71 pars d).f0 = true
        · rw [if_pos e3, if_pos ⟨e1, e2, e3⟩]
        · rw [if_neg e3, if_neg (fun z => e3 z.2.2)]; exact ih'
      · rw [if_neg e2, if_neg (fun z => e2 z.2.1)]; exact ih'
    · rw [if_neg e1, if_neg (fun z => e1 z.1)]; exact ih'
theorem how_ok (k : Nat) (hv : List Int) (lost : Int) (pars : List S71) (hp : (pars.length : Int) ≤ 9223372036854775807) (lb : Int) (hk : pars.length + 40 ≤ k) : prefix_How.f k id m u b c z s me o a l hv lost pars lb = some (howF id m u b c z s me o a l hv lost pars lb) := by
  obtain ⟨k, rfl⟩ : ∃ j, k = j + 2 := ⟨k - 2, by omega⟩
  unfold prefix_How.f
  rw [pright_eq]
  by_cases q : checkC id m u b c z s me o a l = 0 ∧ 0 ≤ lb ∧ lb < sizeC m u b c z s me o a l
  · rw [of_ok (h := q.1) (hk := by omega) (q := q.2)]
    simp only [Option.bind_some, placeP, if_true]
    by_cases hb : rightB2 id m u b c z s me o a l hv = true
    · obtain ⟨h, hl⟩ := rightB2_out hb
      obtain ⟨g, hr, hs, hd, hz⟩ := good h
      have g0 := g
      obtain ⟨m1, m2, u1, u2, c1, c2, S1, S2, R1, R2, uR, hR, Su, Z2, Z1⟩ := g
      obtain ⟨p1, p2, p3, p4, p5, p6, p7, p8, p9, p10, p11, p12, p13, p14, p15⟩ := place_bd g0 q.2.1 (by rw [← hz]; exact q.2.2)
      obtain ⟨b0, b1⟩ := memberP_bd m1 (lb / ((m - 1) * u)) (lb % ((m - 1) * u) / u)
      have q0 := Int.emod_nonneg (lb / ((m - 1) * u)) (show m ≠ 0 by omega)
      have q1 := Int.emod_lt_of_pos (lb / ((m - 1) * u)) (show 0 < m by omega)
      unfold howF
      rw [if_pos ⟨hb, q.2⟩, hb]
      unfold howP
      simp only [Bool.not_true, prefix_How.j0, Bool.false_eq_true, if_false]
      by_cases e1 : memberP m (lb / ((m - 1) * u)) (lb % ((m - 1) * u) / u) = lost
      · rw [if_pos e1, if_pos e1, parity_eq, if_pos ⟨h, p1, p2⟩]
        simp only [Option.bind_some]
        rw [if_pos q0, if_pos (by omega)]
        have hlog := how_log id m u b c z s me o a l h hv hl pars hp lb (memberP m (lb / ((m - 1) * u)) (lb % ((m - 1) * u) / u)) q.2 pars.length k (Nat.le_refl _) (by omega)
        by_cases e2 : rd hv (lb / ((m - 1) * u) % m) > lb / ((m - 1) * u) * u + lb % u
        · rw [if_pos e2, size_eq (h := h)]
          simp only [Option.bind_some]
          rw [has_ok (h := h) (hl := hl) (s0 := p1) (s1 := p2) (p0 := p7) (p1 := p8) (hk := by omega)]
          simp only [Option.bind_some, prefix_How.j1]
          by_cases e3 : hasB m u ((m - 1) * u) hv (lb / ((m - 1) * u)) (lb % ((m - 1) * u) / u) (lb % u) (lb / ((m - 1) * u) * u + lb % u) (sizeC m u b c z s me o a l) = true
          · rw [if_pos e3, if_pos ⟨by omega, e3⟩]
          · rw [if_neg e3, if_neg (fun z => e3 z.2), wr ⟨by omega, by omega⟩]; exact hlog
        · rw [if_neg e2, if_neg (fun z => by have := z.1; omega)]
          simp only [prefix_How.j1, Bool.false_eq_true, if_false]
          rw [wr ⟨by omega, by omega⟩]; exact hlog
      · rw [if_neg e1, if_neg e1, if_pos b0, if_pos (by omega)]
        by_cases e2 : lb / ((m - 1) * u) * u + lb % u < rd hv (memberP m (lb / ((m - 1) * u)) (lb % ((m - 1) * u) / u))
        · rw [if_pos (show _ > _ from e2), if_pos e2]
        · rw [if_neg (show ¬ _ > _ from e2), if_neg e2]
    · have e : rightB2 id m u b c z s me o a l hv = false := by simpa using hb
      unfold howF
      rw [e, if_neg (by simp)]
      simp only [Bool.not_false, prefix_How.j0, if_true]
  · rw [of_no (q := q) (hk := by omega)]
    have e : ¬ (rightB2 id m u b c z s me o a l hv = true ∧ 0 ≤ lb ∧ lb < sizeC m u b c z s me o a l) := fun z => q ⟨(rightB2_out z.1).1, z.2⟩
    unfold howF
    rw [if_neg e]
    simp only [Option.bind_some, Bool.false_eq_true, if_false, prefix_How.j0, if_true]
theorem whole_bd {m u c R S st : Int} (g : Good m u c S R) (h0 : 0 ≤ st) (h1 : st < S) : 0 ≤ st % m ∧ st % m < m ∧ 0 ≤ st * u ∧ st * u ≤ 4096 * 64 ∧ (st + 1) * u = st * u + u := by
  obtain ⟨m1, m2, u1, u2, c1, c2, S1, S2, R1, R2, uR, hR, Su, Z2, Z1⟩ := g
  exact ⟨Int.emod_nonneg _ (by omega), Int.emod_lt_of_pos _ (by omega), Int.mul_nonneg h0 (by omega), Int.mul_le_mul (by omega) (by omega) (by omega) (by omega), by rw [Int.add_mul, Int.one_mul]⟩
theorem whole_ok (hv : List Int) (lost st : Int) : prefix_Whole.f id m u b c z s me o a l hv lost st = some (wholeF id m u b c z s me o a l hv lost st) := by
  unfold prefix_Whole.f wholeF
  rw [pright_eq]
  simp only [Option.bind_some]
  by_cases hb : rightB2 id m u b c z s me o a l hv = true
  · obtain ⟨h, hl⟩ := rightB2_out hb
    obtain ⟨g, hr, hs, hd, hz⟩ := good h
    rw [if_pos hb, hb, Bool.true_and]
    unfold wholeB conf_Stripes.f
    simp only [Option.bind_some, hs]
    by_cases c1 : st < 0
    · rw [if_pos c1, decide_eq_false (by omega), Bool.false_and]
    · rw [if_neg c1]
      by_cases c2 : st ≥ c / u
      · rw [if_pos c2, decide_eq_false (by omega), Bool.false_and]
      · obtain ⟨q0, q1, q2, q3, q4⟩ := whole_bd g (st := st) (by omega) (by omega)
        have := g.u2; have := g.u1; have := g.S2
        rw [if_neg c2, parity_eq, if_pos ⟨h, by omega, by omega⟩, decide_eq_true (p := 0 ≤ st ∧ st < c / u) (by omega), Bool.true_and]
        simp only [Option.bind_some]
        by_cases c3 : st % m = lost
        · rw [if_pos c3, decide_eq_true c3, Bool.true_or]
        · rw [if_neg c3, decide_eq_false c3, Bool.false_or, if_pos q0, if_pos (by omega), wr (x := st + 1) ⟨by omega, by omega⟩, wr ⟨by omega, by omega⟩]
  · rw [if_neg hb, show rightB2 id m u b c z s me o a l hv = false by simpa using hb, Bool.false_and]
end
end Go.Proofs.Ytekihhbihnmakaa.Geo
