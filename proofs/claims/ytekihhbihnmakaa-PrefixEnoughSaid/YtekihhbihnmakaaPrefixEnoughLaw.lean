/- Plain law: what is enough. No program in sight. No condition. -/
import Derived.Test.YtekihhbihnmakaaPAx22
import Derived.Test.YtekihhbihnmakaaPAx53
import Derived.Test.YtekihhbihnmakaaPAx9
import Derived.Test.YtekihhbihnmakaaPAx902
import Derived.Test.YtekihhbihnmakaaLive16
import Derived.Test.YtekihhbihnmakaaRagLaw
import Derived.Test.YtekihhbihnmakaaNextLaw
import Derived.Test.YtekihhbihnmakaaSmall0
open Go.RowKit Go.Proofs.Ytekihhbihnmakaa Go.Proofs.Ytekihhbihnmakaa.PA Go.Proofs.YtekihhbihnmakaaW.PrintWords Go.Proofs.YtekihhbihnmakaaW.PrintLast
set_option linter.unusedVariables false
set_option linter.unusedSimpArgs false
namespace Go.Proofs.Ytekihhbihnmakaa.Geo
def haveE (m u R n : Int) (q : Nat) : List Int := (List.range q).map fun (i : Nat) => needP m u R i n
theorem rd_haveE (m u R n : Int) (q : Nat) (i : Int) (h0 : 0 ≤ i) (h1 : i < q) : rd (haveE m u R n q) i = needP m u R i n := by
  obtain ⟨j, rfl⟩ := Int.eq_ofNat_of_zero_le h0
  unfold rd haveE; rw [Int.toNat_natCast, List.getD_eq_getElem?_getD]; simp [show j < q by omega]
theorem need_mono {m u c R S mm : Int} (g : Good m u c S R) (q0 : 0 ≤ mm) (q1 : mm < m) (a : Int) (h0 : 0 ≤ a) (d : Nat) : a + d ≤ S * R → needP m u R mm a ≤ needP m u R mm (a + d) := by
  induction d with
  | zero => intro _; simp
  | succ d ih =>
    intro h
    have u1 := g.u1
    have h1 := ih (by omega)
    have h2 := need_next (mm := mm) g (lb := a + d) (by omega) (by omega) q0 q1
    push_cast
    rw [← Int.add_assoc, h2]
    split <;> split <;> omega
theorem need_le {m u c R S mm : Int} (g : Good m u c S R) (q0 : 0 ≤ mm) (q1 : mm < m) (a b : Int) (h0 : 0 ≤ a) (hab : a ≤ b) (hb : b ≤ S * R) : needP m u R mm a ≤ needP m u R mm b := by
  have := need_mono g q0 q1 a h0 (b - a).toNat (by omega)
  rw [show a + ((b - a).toNat : Int) = b by omega] at this
  exact this
/-- A member's blocks at a row's begin. -/
theorem need_row {m u c R S mm : Int} (g : Good m u c S R) (q0 : 0 ≤ mm) (q1 : mm < m) (st : Int) (h0 : 0 ≤ st) : needP m u R mm (st * R) = st * u := by
  obtain ⟨m1, m2, u1, u2, c1, c2, S1, S2, R1, R2, uR, hR, Su, Z2, Z1⟩ := g
  unfold needP
  rw [Int.mul_ediv_cancel _ (by omega), Int.mul_emod_left]
  split
  · omega
  · have : 0 ≤ unitP m st mm * u := Int.mul_nonneg (by omega) (by omega)
    rw [clampP_le (by omega), Int.add_zero]
theorem need_has {m u c R S n k : Int} (g : Good m u c S R) (h0 : 0 ≤ k) (hk : k < n) (hn : n ≤ S * R) : k / R * u + k % u < needP m u R (memberP m (k / R) (k % R / u)) n := by
  have m1 := g.m1; have u1 := g.u1
  have b0 : 0 ≤ memberP m (k / R) (k % R / u) := Int.emod_nonneg _ (by omega)
  have b1 : memberP m (k / R) (k % R / u) < m := Int.emod_lt_of_pos _ (by omega)
  have e1 := need_member g h0 (show k < S * R by omega)
  have e2 := need_next (mm := memberP m (k / R) (k % R / u)) g h0 (show k < S * R by omega) b0 b1
  rw [if_pos rfl] at e2
  have e3 := need_le g b0 b1 (k + 1) n (by omega) (by omega) hn
  split at e2 <;> omega
section
variable (id m u b c z s me o a l : Int)
theorem enough_right (h : checkC id m u b c z s me o a l = 0) (n : Int) : rightB2 id m u b c z s me o a l (haveE m u ((m - 1) * u) n m.toNat) = true := by
  have m1 := (good h).1.m1
  unfold rightB2 haveE
  rw [decide_eq_true h]; simp; omega
theorem enough_has (h : checkC id m u b c z s me o a l = 0) (n : Int) (n1 : n ≤ sizeC m u b c z s me o a l) (st un pin w : Int) (s0 : 0 ≤ st) (s1 : st < c / u) (p0 : 0 ≤ pin) (p1 : pin < u) (hw : ∀ v : Int, 0 ≤ v → v < m - 1 → st * ((m - 1) * u) + v * u + pin < w → st * ((m - 1) * u) + v * u + pin < n) :
    hasB m u ((m - 1) * u) (haveE m u ((m - 1) * u) n m.toNat) st un pin (st * u + pin) w = true := by
  obtain ⟨g, hr, hs, hd, hz⟩ := good h
  have g0 := g
  obtain ⟨m1, m2, u1, u2, c1, c2, S1, S2, R1, R2, uR, hR, Su, Z2, Z1⟩ := g
  rw [hasB_iff]
  intro v v0 v1 v2 v3
  have hlt := hw v v0 v1 v3
  have b0 : 0 ≤ memberP m st v := Int.emod_nonneg _ (by omega)
  have b1 : memberP m st v < m := Int.emod_lt_of_pos _ (by omega)
  rw [rd_haveE _ _ _ _ _ _ b0 (by omega)]
  have w1 : (v + 1) * u ≤ (m - 1) * u := Int.mul_le_mul_of_nonneg_right (by omega) (by omega)
  have w0 : 0 ≤ v * u := Int.mul_nonneg v0 (by omega)
  rw [Int.add_mul, Int.one_mul] at w1
  have t2 : 0 ≤ st * ((m - 1) * u) := Int.mul_nonneg s0 (by omega)
  obtain ⟨r1, r2, r3⟩ := row_at (R := (m - 1) * u) (st := st) (i := v * u + pin) (u := u) (by omega) (by omega) (by omega) ⟨m - 1, Int.mul_comm _ _⟩
  obtain ⟨f1, f2⟩ := at_unit (v := v) u1 p0 p1
  have := need_has g0 (k := st * ((m - 1) * u) + (v * u + pin)) (n := n) (by omega) (by omega) (by omega)
  rw [r1, r2, r3, f1, f2] at this
  exact this
theorem enough_how (h : checkC id m u b c z s me o a l = 0) (n : Int) (n0 : 0 ≤ n) (n1 : n ≤ sizeC m u b c z s me o a l) (lost : Int) (pars : List S71) (hp : pars = [⟨n, []⟩] ∨ pars = [] ∧ (n % ((m - 1) * u) = 0 ∨ lost = -1)) (lb : Int) (l0 : 0 ≤ lb) (l1 : lb < n) : (howF id m u b c z s me o a l (haveE m u ((m - 1) * u) n m.toNat) lost pars lb).1 ≠ 0 := by
  obtain ⟨g, hr, hs, hd, hz⟩ := good h
  have g0 := g
  obtain ⟨m1, m2, u1, u2, c1, c2, S1, S2, R1, R2, uR, hR, Su, Z2, Z1⟩ := g
  obtain ⟨p1, p2, p3, p4, p5, p6, p7, p8, p9, p10, p11, p12, p13, p14, p15⟩ := place_bd g0 (lb := lb) l0 (by omega)
  have b0 : 0 ≤ memberP m (lb / ((m - 1) * u)) (lb % ((m - 1) * u) / u) := Int.emod_nonneg _ (by omega)
  have b1 : memberP m (lb / ((m - 1) * u)) (lb % ((m - 1) * u) / u) < m := Int.emod_lt_of_pos _ (by omega)
  have d0 : 0 ≤ lb / ((m - 1) * u) % m := Int.emod_nonneg _ (by omega)
  have d1 : lb / ((m - 1) * u) % m < m := Int.emod_lt_of_pos _ (by omega)
  have hh := need_has g0 (k := lb) (n := n) l0 l1 (by omega)
  unfold howF
  rw [if_pos ⟨enough_right id m u b c z s me o a l h n, l0, by omega⟩]
  unfold howP
  rw [rd_haveE _ _ _ _ _ _ b0 (by omega), rd_haveE _ _ _ _ _ _ d0 (by omega)]
  by_cases e1 : memberP m (lb / ((m - 1) * u)) (lb % ((m - 1) * u) / u) = lost
  · rw [if_pos e1]
    have t1 := Int.add_mul (lb / ((m - 1) * u)) 1 ((m - 1) * u)
    rw [Int.one_mul] at t1
    by_cases e2 : (lb / ((m - 1) * u) + 1) * ((m - 1) * u) ≤ n
    · have e3 : lb / ((m - 1) * u) * u + lb % u < needP m u ((m - 1) * u) (lb / ((m - 1) * u) % m) n := by
        have h1 := need_row g0 d0 d1 (lb / ((m - 1) * u) + 1) (by omega)
        have h2 := need_le g0 d0 d1 _ n (by rw [t1]; omega) e2 (by omega)
        rw [h1, Int.add_mul, Int.one_mul] at h2
        omega
      have e4 := enough_has id m u b c z s me o a l h n n1 (lb / ((m - 1) * u)) (lb % ((m - 1) * u) / u) (lb % u) (sizeC m u b c z s me o a l) p1 p2 p7 p8 (fun v v0 v1 _ => by
        have w1 : (v + 1) * u ≤ (m - 1) * u := Int.mul_le_mul_of_nonneg_right (by omega) (by omega)
        rw [Int.add_mul, Int.one_mul] at w1
        omega)
      rw [if_pos ⟨e3, e4⟩]; show (2 : Int) ≠ 0; decide
    · split
      · show (2 : Int) ≠ 0; decide
      · rcases hp with hp | ⟨hp, hp2⟩
        · subst hp
          have e5 : (rd_T71 [(⟨n, []⟩ : S71)] ((0 : Nat) : Int)).f0 = n := rfl
          show (logB m u ((m - 1) * u) _ [(⟨n, []⟩ : S71)] lb 1).1 ≠ 0
          simp only [logB]
          rw [e5]
          have e6 : Int.tdiv (wrap64 (n - 1)) ((m - 1) * u) = lb / ((m - 1) * u) := by
            rw [wr ⟨by omega, by omega⟩, td (by omega)]
            have := (row_at (R := (m - 1) * u) (st := lb / ((m - 1) * u)) (i := n - 1 - lb / ((m - 1) * u) * ((m - 1) * u)) (u := 1) (by omega) (by omega) (by omega) ⟨_, (Int.one_mul _).symm⟩).1
            rw [show lb / ((m - 1) * u) * ((m - 1) * u) + (n - 1 - lb / ((m - 1) * u) * ((m - 1) * u)) = n - 1 by omega] at this
            exact this
          have e7 := enough_has id m u b c z s me o a l h n n1 (lb / ((m - 1) * u)) (lb % ((m - 1) * u) / u) (lb % u) n p1 p2 p7 p8 (fun v v0 v1 hv => hv)
          rw [if_pos ⟨by omega, e6, e7⟩]; show (3 : Int) ≠ 0; decide
        · rcases hp2 with hp2 | hp2
          · exfalso
            have a3 := Int.mul_ediv_add_emod n ((m - 1) * u)
            rw [hp2, Int.mul_comm, Int.add_zero] at a3
            have : lb / ((m - 1) * u) < n / ((m - 1) * u) := by
              rw [Int.ediv_lt_iff_lt_mul (by omega), a3]; exact l1
            have : (lb / ((m - 1) * u) + 1) * ((m - 1) * u) ≤ n / ((m - 1) * u) * ((m - 1) * u) := Int.mul_le_mul_of_nonneg_right (by omega) (by omega)
            omega
          · omega
  · rw [if_neg e1, if_pos hh]; show (1 : Int) ≠ 0; decide
theorem enough_read (h : checkC id m u b c z s me o a l = 0) (n : Int) (n0 : 0 ≤ n) (n1 : n ≤ sizeC m u b c z s me o a l) (lost : Int) (pars : List S71) (hp : pars = [⟨n, []⟩] ∨ pars = [] ∧ (n % ((m - 1) * u) = 0 ∨ lost = -1)) (lb : Int) (l0 : 0 ≤ lb) (l1 : lb < n) : readB id m u b c z s me o a l (haveE m u ((m - 1) * u) n m.toNat) lost pars lb = true := by
  obtain ⟨g, hr, hs, hd, hz⟩ := good h
  have g0 := g
  obtain ⟨m1, m2, u1, u2, c1, c2, S1, S2, R1, R2, uR, hR, Su, Z2, Z1⟩ := g
  obtain ⟨p1, p2, p3, p4, p5, p6, p7, p8, p9, p10, p11, p12, p13, p14, p15⟩ := place_bd g0 (lb := lb) l0 (by omega)
  unfold readB
  simp only [Bool.and_eq_true, Bool.or_eq_true, decide_eq_true_eq]
  refine ⟨enough_how id m u b c z s me o a l h n n0 n1 lost pars hp lb l0 l1, ?_⟩
  by_cases e1 : lb % ((m - 1) * u) = 0
  · by_cases e2 : lb = 0
    · exact .inr (.inl e2)
    · refine .inr (.inr ?_)
      have d0 : 0 ≤ (lb / ((m - 1) * u) - 1) % m := Int.emod_nonneg _ (by omega)
      have d1 : (lb / ((m - 1) * u) - 1) % m < m := Int.emod_lt_of_pos _ (by omega)
      have e3 : lb / ((m - 1) * u) ≠ 0 := fun z => by rw [z, e1] at p10; omega
      unfold wholeF wholeB
      rw [enough_right id m u b c z s me o a l h n, Bool.true_and, decide_eq_true (p := 0 ≤ lb / ((m - 1) * u) - 1 ∧ lb / ((m - 1) * u) - 1 < c / u) (by omega), Bool.true_and, rd_haveE _ _ _ _ _ _ d0 (by omega)]
      have h1 := need_row g0 d0 d1 (lb / ((m - 1) * u)) p1
      have h2 := need_le g0 d0 d1 _ n p14 (by omega) (by omega)
      rw [h1] at h2
      rw [Int.sub_add_cancel, decide_eq_true h2, Bool.or_true]
  · exact .inl e1
theorem enough_of (h : checkC id m u b c z s me o a l = 0) (n : Int) (n0 : 0 ≤ n) (n1 : n ≤ sizeC m u b c z s me o a l) (lost : Int) (pars : List S71) (hp : pars = [⟨n, []⟩] ∨ pars = [] ∧ (n % ((m - 1) * u) = 0 ∨ lost = -1)) : n ≤ prefixOf id m u b c z s me o a l (haveE m u ((m - 1) * u) n m.toNat) lost pars := by
  have sp := cntB_spec (readB id m u b c z s me o a l (haveE m u ((m - 1) * u) n m.toNat) lost pars) (sizeC m u b c z s me o a l).toNat 0
  unfold prefixOf
  rw [if_pos (enough_right id m u b c z s me o a l h n)]
  rcases Int.lt_or_le (cntB (readB id m u b c z s me o a l (haveE m u ((m - 1) * u) n m.toNat) lost pars) (sizeC m u b c z s me o a l).toNat 0) n with q | q
  · have e1 := sp.2.2.2 (by omega)
    rw [enough_read id m u b c z s me o a l h n n0 n1 lost pars hp _ sp.1 q] at e1; cases e1
  · exact q
theorem enough_all (h : checkC id m u b c z s me o a l = 0) (n : Int) (n0 : 0 ≤ n) (n1 : n ≤ sizeC m u b c z s me o a l) : prefixOf id m u b c z s me o a l (haveE m u ((m - 1) * u) n m.toNat) (-1) [] = n := by
  have hle := enough_of id m u b c z s me o a l h n n0 n1 (-1) [] (.inr ⟨rfl, .inr rfl⟩)
  obtain ⟨g, hr, hs, hd, hz⟩ := good h
  have g0 := g
  obtain ⟨m1, m2, u1, u2, c1, c2, S1, S2, R1, R2, uR, hR, Su, Z2, Z1⟩ := g
  have sp := cntB_spec (readB id m u b c z s me o a l (haveE m u ((m - 1) * u) n m.toNat) (-1) []) (sizeC m u b c z s me o a l).toNat 0
  unfold prefixOf at hle ⊢
  rw [if_pos (enough_right id m u b c z s me o a l h n)] at hle ⊢
  rcases Int.lt_or_le n (cntB (readB id m u b c z s me o a l (haveE m u ((m - 1) * u) n m.toNat) (-1) []) (sizeC m u b c z s me o a l).toNat 0) with q | q
  · have hr1 := sp.2.2.1 n n0 q
    unfold readB at hr1
    simp only [Bool.and_eq_true, decide_eq_true_eq] at hr1
    have h1 := hr1.1
    have hn : n < sizeC m u b c z s me o a l := by omega
    have b0 : 0 ≤ memberP m (n / ((m - 1) * u)) (n % ((m - 1) * u) / u) := Int.emod_nonneg _ (by omega)
    have b1 : memberP m (n / ((m - 1) * u)) (n % ((m - 1) * u) / u) < m := Int.emod_lt_of_pos _ (by omega)
    have nm := need_member g0 (lb := n) n0 (by omega)
    unfold howF at h1
    rw [if_pos ⟨enough_right id m u b c z s me o a l h n, n0, hn⟩] at h1
    unfold howP at h1
    rw [if_neg (by omega), rd_haveE _ _ _ _ _ _ b0 (by omega), nm, if_neg (by omega)] at h1
    exact absurd rfl h1
  · omega
theorem enough_pars (h : checkC id m u b c z s me o a l = 0) (n lost : Int) : prefixOf id m u b c z s me o a l (haveE m u ((m - 1) * u) n m.toNat) lost [] ≤ prefixOf id m u b c z s me o a l (haveE m u ((m - 1) * u) n m.toNat) lost [⟨n, []⟩] := by
  unfold prefixOf
  split
  · refine cntB_mono _ _ fun j _ hj => ?_
    unfold readB at hj ⊢
    simp only [Bool.and_eq_true, decide_eq_true_eq] at hj ⊢
    refine ⟨?_, hj.2⟩
    have h1 := hj.1
    unfold howF at h1 ⊢
    split at h1
    · next q =>
      rw [if_pos q]
      unfold howP at h1 ⊢
      split at h1
      · next q1 =>
        rw [if_pos q1]
        split at h1
        · next q2 => rw [if_pos q2]; exact h1
        · exact absurd rfl h1
      · next q1 => rw [if_neg q1]; exact h1
    · exact absurd rfl h1
  · exact Int.le_refl _
theorem enough_build (h : checkC id m u b c z s me o a l = 0) (n lost : Int) (n0 : 0 ≤ n) (n1 : n ≤ sizeC m u b c z s me o a l) (d : Nat) : ∀ (k i : Nat), (i : Int) ≤ m → m - i = d → d + 2100 < k → revetmentlaw16_PrefixEnough.l0 k n lost (haveE m u ((m - 1) * u) n i) i id m u b c z s me o a l = some true := by
  obtain ⟨g, hr, hs, hd, hz⟩ := good h
  have g0 := g
  obtain ⟨m1, m2, u1, u2, c1, c2, S1, S2, R1, R2, uR, hR, Su, Z2, Z1⟩ := g
  have hin : inP (sizeC m u b c z s me o a l) n = n := by unfold inP; rw [if_neg (by omega), if_pos n1]
  induction d with
  | zero =>
    intro k i hi hd hk
    obtain ⟨k, rfl⟩ : ∃ q, k = q + 2 := ⟨k - 2, by omega⟩
    obtain rfl : i = m.toNat := by omega
    have hrag : raggedF id m u b c z s me o a l (haveE m u ((m - 1) * u) n m.toNat) (-1) n = false := by
      unfold raggedF
      rw [enough_right id m u b c z s me o a l h n, Bool.true_and, hin, List.any_eq_false]
      intro i hi
      have := List.mem_range.1 hi
      rw [rd_haveE _ _ _ _ _ _ (by omega) (by omega)]
      simp
    have h1 := enough_all id m u b c z s me o a l h n n0 n1
    have h2 := enough_of id m u b c z s me o a l h n n0 n1 lost [⟨n, []⟩] (.inl rfl)
    have h3 := enough_pars id m u b c z s me o a l h n lost
    rw [revetmentlaw16_PrefixEnough.l0, if_neg (by omega)]
    simp only [prefix_Of.f, Option.bind_some]
    rw [h1, if_pos rfl, ragged_ok (hk := by omega), hrag]
    simp only [Option.bind_some]
    rw [revetmentlaw16_PrefixEnough.j2, if_neg (by decide)]
    simp only [prefix_Of.f, Option.bind_some]
    rw [if_pos h2, if_pos h3]
    simp only [revetmentref07_Row.f, Option.bind_some, hr]
    rw [if_neg (by omega), tm n0]
    by_cases e1 : n % ((m - 1) * u) = 0
    · rw [if_pos e1, if_pos (enough_of id m u b c z s me o a l h n n0 n1 lost [] (.inr ⟨rfl, .inl e1⟩)), live16_eq]; rfl
    · rw [if_neg e1, live16_eq]; rfl
  | succ d ih =>
    intro k i hi hd hk
    obtain ⟨k, rfl⟩ : ∃ q, k = q + 1 := ⟨k - 1, by omega⟩
    have ih' := ih k (i + 1) (by omega) (by omega) (by omega)
    have hs1 : haveE m u ((m - 1) * u) n (i + 1) = haveE m u ((m - 1) * u) n i ++ [needP m u ((m - 1) * u) i n] := by
      unfold haveE; rw [List.range_succ, List.map_append]; rfl
    rw [hs1] at ih'
    push_cast at ih'
    rw [revetmentlaw16_PrefixEnough.l0, if_pos (by omega), rneed_ok (h := h) (hk := by omega) (q := ⟨by omega, by omega⟩), hin]
    simp only [Option.bind_some]
    rw [if_pos (by simp [haveE]; omega), wr ⟨by omega, by omega⟩]
    exact ih'
/-- The law: what is enough. -/
theorem prefixEnough_true (k : Nat) (hk : 2200 ≤ k) (n lost : Int) : revetmentlaw16_PrefixEnough.f k id m u b c z s me o a l n lost = some true := by
  obtain ⟨k, rfl⟩ : ∃ q, k = q + 1 := ⟨k - 1, by omega⟩
  have hlive : revetmentlaw16_PrefixEnough.j0 (k + 1) n lost true id m u b c z s me o a l = some true := by
    rw [revetmentlaw16_PrefixEnough.j0, if_pos rfl, live16_eq]; rfl
  unfold revetmentlaw16_PrefixEnough.f
  obtain ⟨r, hr⟩ := small_some id m u b c z s me o a l
  rw [hr]
  simp only [Option.bind_some]
  cases r with
  | false => rw [if_neg (by decide)]; exact hlive
  | true =>
    have h : checkC id m u b c z s me o a l = 0 := by
      unfold revetmentref07_Small.f revetmentref07_Check.f at hr
      simp only [Option.bind_some] at hr
      by_cases c1 : checkC id m u b c z s me o a l = 0
      · exact c1
      · rw [if_neg c1] at hr; cases hr
    rw [if_pos rfl]
    by_cases q1 : n < 0
    · rw [if_pos q1]; exact hlive
    · rw [if_neg q1]
      simp only [revetmentref07_Size.f, Option.bind_some]
      by_cases q2 : n > sizeC m u b c z s me o a l
      · rw [decide_eq_true q2]; exact hlive
      · rw [decide_eq_false q2, revetmentlaw16_PrefixEnough.j0, if_neg (by decide)]
        have m1 := (good h).1.m1; have m2 := (good h).1.m2
        exact enough_build id m u b c z s me o a l h n lost (by omega) (by omega) m.toNat k 0 (by omega) (by omega) (by omega)
end
end Go.Proofs.Ytekihhbihnmakaa.Geo
