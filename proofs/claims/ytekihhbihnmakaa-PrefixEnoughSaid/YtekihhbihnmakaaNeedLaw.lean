/- Plain laws: how many blocks each member has. No program in sight. No condition. -/
import Derived.Test.YtekihhbihnmakaaPAx18
import Derived.Test.YtekihhbihnmakaaPAx20
import Derived.Test.YtekihhbihnmakaaPAx6
import Derived.Test.YtekihhbihnmakaaPAx9
import Derived.Test.YtekihhbihnmakaaGeoLaw
open Go.RowKit Go.Proofs.Ytekihhbihnmakaa Go.Proofs.Ytekihhbihnmakaa.PA Go.Proofs.YtekihhbihnmakaaW.PrintWords Go.Proofs.YtekihhbihnmakaaW.PrintLast
set_option linter.unusedVariables false
set_option linter.unusedSimpArgs false
namespace Go.Proofs.Ytekihhbihnmakaa.Geo
def clampP (x u : Int) : Int := if x ≤ 0 then 0 else if x ≤ u then x else u
def needP (m u R mm n : Int) : Int := n / R * u + (if unitP m (n / R) mm < 0 then 0 else clampP (n % R - unitP m (n / R) mm * u) u)
/-- so many blocks, as if 0 below, as Z above. -/
def inP (Z n : Int) : Int := if n < 0 then 0 else if n ≤ Z then n else Z
theorem inP_bd {Z n : Int} (hZ : 0 ≤ Z) : 0 ≤ inP Z n ∧ inP Z n ≤ Z := by
  unfold inP
  split
  · omega
  · split <;> omega
theorem need_bd {m u c R S n mm : Int} (g : Good m u c S R) (h0 : 0 ≤ n) (h1 : n ≤ S * R) (q0 : 0 ≤ mm) (q1 : mm < m) : 0 ≤ n / R ∧ n / R ≤ S ∧ 0 ≤ n % R ∧ n % R < R ∧ n = n / R * R + n % R ∧ (n % R ≠ 0 → n / R < S) ∧ 0 ≤ n / R * u ∧ n / R * u ≤ 4096 * 64 ∧ -1 ≤ unitP m (n / R) mm ∧ unitP m (n / R) mm < m - 1 ∧ (0 ≤ unitP m (n / R) mm → 0 ≤ unitP m (n / R) mm * u ∧ unitP m (n / R) mm * u + u ≤ R) := by
  obtain ⟨m1, m2, u1, u2, c1, c2, S1, S2, R1, R2, uR, hR, Su, Z2, Z1⟩ := g
  have a1 := Int.emod_nonneg n (show R ≠ 0 by omega)
  have a2 := Int.emod_lt_of_pos n (show 0 < R by omega)
  have a3 := Int.mul_ediv_add_emod n R
  have a4 : 0 ≤ n / R := Int.ediv_nonneg h0 (by omega)
  rw [Int.mul_comm] at a3
  have a5 : n / R ≤ S := by
    rcases Int.lt_or_le S (n / R) with g | g
    · have : (S + 1) * R ≤ n / R * R := Int.mul_le_mul_of_nonneg_right (by omega) (by omega)
      rw [Int.add_mul] at this; omega
    · exact g
  have a6 : n % R ≠ 0 → n / R < S := by
    intro hne
    rcases Int.lt_or_le (n / R) S with g | g
    · exact g
    · have : S * R ≤ n / R * R := Int.mul_le_mul_of_nonneg_right g (by omega)
      omega
  have c3 : n / R * u ≤ 4096 * 64 := Int.mul_le_mul (by omega) (by omega) (by omega) (by omega)
  have c4 : 0 ≤ n / R * u := Int.mul_nonneg a4 (by omega)
  obtain ⟨p1, p2, _, _⟩ := unitP_spec (st := n / R) (mm := mm) m1 a4 q0 q1
  have d1 : (unitP m (n / R) mm + 1) * u ≤ (m - 1) * u := Int.mul_le_mul_of_nonneg_right (by omega) (by omega)
  rw [Int.add_mul, ← hR] at d1
  exact ⟨a4, a5, a1, a2, by omega, a6, c4, c3, p1, p2, fun z => ⟨Int.mul_nonneg z (by omega), by omega⟩⟩
theorem mnmx (n Z : Int) (hZ : 0 ≤ Z) : mn (mx n 0) Z = inP Z n := by unfold mn mx inP; split <;> split <;> first | omega | (split <;> omega)
theorem mnmx2 (x u : Int) (hu : 0 ≤ u) : mn (mx x 0) u = clampP x u := by unfold mn mx clampP; split <;> split <;> first | omega | (split <;> omega)
theorem clampP_bd {x u : Int} (hu : 0 ≤ u) : 0 ≤ clampP x u ∧ clampP x u ≤ u := by
  unfold clampP
  split
  · omega
  · split <;> omega
theorem clampP_ge {x u : Int} (hu : 1 ≤ u) (h : u ≤ x) : clampP x u = u := by
  unfold clampP; rw [if_neg (by omega)]
  split
  · omega
  · rfl
section
variable (id m u b c z s me o a l : Int)
theorem need_ok (mm n : Int) (h : checkC id m u b c z s me o a l = 0) (q : 0 ≤ mm ∧ mm < m) : geom_Need.f id m u b c z s me o a l mm n = some (needP m u ((m - 1) * u) mm (inP (sizeC m u b c z s me o a l) n)) := by
  unfold geom_Need.f conf_Row.f
  obtain ⟨g, hr, hs, hd, hz⟩ := good h
  have g0 := g
  obtain ⟨m1, m2, u1, u2, c1, c2, S1, S2, R1, R2, uR, hR, Su, Z2, Z1⟩ := g
  have hZ : 0 ≤ sizeC m u b c z s me o a l := by omega
  have hin := inP_bd (n := n) hZ
  rw [right_t (h := h) (k := by omega)]
  simp only [Option.bind_some, if_true]
  rw [size_eq (h := h)]
  simp only [Option.bind_some]
  rw [hr, if_neg (by omega), mnmx _ _ hZ]
  generalize hn : inP (sizeC m u b c z s me o a l) n = x at *
  obtain ⟨p1, p2, p3, p4, p5, p6, p7, p8, p9, p10, p11⟩ := need_bd g0 hin.1 (by rw [← hz]; exact hin.2) q.1 q.2
  rw [td hin.1, tm hin.1, wr (x := x / ((m - 1) * u)) (by omega), wr (x := x / ((m - 1) * u) * u) (by omega)]
  unfold needP
  by_cases e : x % ((m - 1) * u) = 0
  · rw [if_pos e, e]
    have : (if unitP m (x / ((m - 1) * u)) mm < 0 then 0 else clampP (0 - unitP m (x / ((m - 1) * u)) mm * u) u) = 0 := by
      split
      · rfl
      · have := p11 (by omega)
        unfold clampP; rw [if_pos (by omega)]
    rw [this, Int.add_zero]
  · rw [if_neg e, unit_ok (h := h) (q := by omega)]
    simp only [Option.bind_some]
    by_cases e2 : unitP m (x / ((m - 1) * u)) mm < 0
    · rw [if_neg (by omega), if_pos e2, Int.add_zero]
    · have := p11 (by omega)
      have hcl := clampP_bd (x := x % ((m - 1) * u) - unitP m (x / ((m - 1) * u)) mm * u) (u := u) (by omega)
      rw [if_pos (by omega), if_neg e2, wr (x := unitP m (x / ((m - 1) * u)) mm * u) (by omega), wr (x := x % ((m - 1) * u) - unitP m (x / ((m - 1) * u)) mm * u) (by omega), mnmx2 _ _ (by omega), wr (by omega)]
theorem need_no (mm n : Int) (q : ¬ (checkC id m u b c z s me o a l = 0 ∧ 0 ≤ mm ∧ mm < m)) : geom_Need.f id m u b c z s me o a l mm n = some 0 := by
  unfold geom_Need.f
  by_cases h : checkC id m u b c z s me o a l = 0
  · rw [right_f (k := by omega)]; rfl
  · rw [right_no (h := h)]; rfl
/-- The reference's count: block by block. -/
theorem rneed_loop (h : checkC id m u b c z s me o a l = 0) (mm w n : Int) (q0 : 0 ≤ mm) (q1 : mm < m) (w0 : 0 ≤ w) (w1 : n ≤ sizeC m u b c z s me o a l) (d : Nat) : ∀ (k : Nat) (cnt i : Int), 0 ≤ i → i ≤ (m - 1) * u → w * ((m - 1) * u) + i ≤ n → n - (w * ((m - 1) * u) + i) = d → n ≤ w * ((m - 1) * u) + (m - 1) * u → d + 30 < k → cnt = w * u + (if unitP m w mm < 0 then 0 else clampP (i - unitP m w mm * u) u) → revetmentref08_Need.l0 k mm n cnt (w * ((m - 1) * u) + i) id m u b c z s me o a l = some (w * u + (if unitP m w mm < 0 then 0 else clampP (n - w * ((m - 1) * u) - unitP m w mm * u) u)) := by
  obtain ⟨g, hr, hs, hd, hz⟩ := good h
  have g0 := g
  obtain ⟨m1, m2, u1, u2, c1, c2, S1, S2, R1, R2, uR, hR, Su, Z2, Z1⟩ := g
  obtain ⟨p1, p2, p3, p4⟩ := unitP_spec (st := w) (mm := mm) m1 w0 q0 q1
  generalize hRR : (m - 1) * u = R at *
  have f0 : 0 ≤ w * R := Int.mul_nonneg w0 (by omega)
  have f1 : 0 ≤ w * u := Int.mul_nonneg w0 (by omega)
  have d1 : (unitP m w mm + 1) * u ≤ (m - 1) * u := Int.mul_le_mul_of_nonneg_right (by omega) (by omega)
  rw [Int.add_mul, hRR] at d1
  induction d with
  | zero =>
    intro k cnt i i0 i1 hin hd hle hk hc
    obtain ⟨k, rfl⟩ : ∃ j, k = j + 1 := ⟨k - 1, by omega⟩
    simp only [revetmentref08_Need.l0]
    rw [if_neg (by omega), hc, show n - w * R = i by omega]
  | succ d ih =>
    intro k cnt i i0 i1 hin hd hle hk hc
    obtain ⟨k, rfl⟩ : ∃ j, k = j + 1 := ⟨k - 1, by omega⟩
    simp only [revetmentref08_Need.l0]
    have hw : w < c / u := by
      rcases Int.lt_or_le w (c / u) with g | g
      · exact g
      · have : c / u * R ≤ w * R := Int.mul_le_mul_of_nonneg_right g (by omega)
        omega
    have f2 : w * u ≤ 4096 * 64 := Int.mul_le_mul (by omega) (by omega) (by omega) (by omega)
    have hi : i < R := by omega
    have e1 : (w * R + i) / R = w := by
      rw [Int.add_comm, Int.add_mul_ediv_right _ _ (by omega), Int.ediv_eq_zero_of_lt i0 hi, Int.zero_add]
    have e2 : (w * R + i) % R = i := by
      rw [Int.add_comm, Int.add_mul_emod_self_right, Int.emod_eq_of_lt i0 hi]
    have b4 := Int.mul_ediv_add_emod i u
    have b1 := Int.emod_nonneg i (show u ≠ 0 by omega)
    have b2 := Int.emod_lt_of_pos i (show 0 < u by omega)
    have b5 : 0 ≤ i / u := Int.ediv_nonneg i0 (by omega)
    have b6 : i / u < m - 1 := by rw [Int.ediv_lt_iff_lt_mul (by omega), hRR]; exact hi
    rw [Int.mul_comm] at b4
    rw [if_pos (by omega), rof_ok (h := h) (hk := by omega) (q := by omega), hRR]
    simp only [Option.bind_some, placeP]
    rw [e1, e2]
    have hlt : ∀ x y : Int, 0 ≤ y → x < 0 → x * u ≤ y * u - u := fun x y hy hx => by
      have : (x + 1) * u ≤ y * u := Int.mul_le_mul_of_nonneg_right (by omega) (by omega)
      rw [Int.add_mul] at this; omega
    by_cases e : memberP m w (i / u) = mm
    · have e3 := (p3 (i / u) b5 b6).1 e
      have hcl : clampP (i - unitP m w mm * u) u = i % u ∧ clampP (i + 1 - unitP m w mm * u) u = i % u + 1 := by
        rw [← e3]; unfold clampP
        constructor
        · split
          · omega
          · split <;> omega
        · rw [if_neg (by omega), if_pos (by omega)]; omega
      rw [if_pos e, wr (x := cnt + 1) (by rw [hc]; split <;> omega), wr (x := w * R + i + 1) (by omega)]
      rw [show w * R + i + 1 = w * R + (i + 1) by omega]
      refine ih k (cnt + 1) (i + 1) (by omega) (by omega) (by omega) (by omega) hle (by omega) ?_
      rw [hc, if_neg (by omega), if_neg (by omega), hcl.1, hcl.2]; omega
    · have e3 : i / u ≠ unitP m w mm := fun z => e ((p3 (i / u) b5 b6).2 z)
      rw [if_neg e, wr (x := w * R + i + 1) (by omega)]
      rw [show w * R + i + 1 = w * R + (i + 1) by omega]
      refine ih k cnt (i + 1) (by omega) (by omega) (by omega) (by omega) hle (by omega) ?_
      rw [hc]
      by_cases e4 : unitP m w mm < 0
      · rw [if_pos e4, if_pos e4]
      · rw [if_neg e4, if_neg e4]
        congr 1
        rcases Int.lt_or_le (i / u) (unitP m w mm) with g | g
        · have : (i / u + 1) * u ≤ unitP m w mm * u := Int.mul_le_mul_of_nonneg_right (by omega) (by omega)
          rw [Int.add_mul] at this
          unfold clampP; rw [if_pos (by omega), if_pos (by omega)]
        · have : (unitP m w mm + 1) * u ≤ i / u * u := Int.mul_le_mul_of_nonneg_right (by omega) (by omega)
          rw [Int.add_mul] at this
          rw [clampP_ge u1 (by omega), clampP_ge u1 (by omega)]
theorem rneed_ok (k : Nat) (hk : 2000 ≤ k) (mm n : Int) (h : checkC id m u b c z s me o a l = 0) (q : 0 ≤ mm ∧ mm < m) : revetmentref08_Need.f k id m u b c z s me o a l mm n = some (needP m u ((m - 1) * u) mm (inP (sizeC m u b c z s me o a l) n)) := by
  obtain ⟨g, hr, hs, hd, hz⟩ := good h
  have g0 := g
  obtain ⟨m1, m2, u1, u2, c1, c2, S1, S2, R1, R2, uR, hR, Su, Z2, Z1⟩ := g
  have hZ : 0 ≤ sizeC m u b c z s me o a l := by omega
  obtain ⟨k, rfl⟩ : ∃ j, k = j + 3 := ⟨k - 3, by omega⟩
  unfold revetmentref08_Need.f revetmentref07_Check.f
  simp only [Option.bind_some, revetmentref08_Need.j0]
  unfold revetmentref07_Size.f
  simp only [Option.bind_some, revetmentref08_Need.j1]
  unfold revetmentref07_Row.f
  simp only [Option.bind_some, revetmentref08_Need.j2]
  unfold revetmentref07_Row.f
  simp only [Option.bind_some]
  rw [if_pos h, if_neg (by omega), decide_eq_false (by omega), if_neg (by decide), hr]
  have key : ∀ x w : Int, w = x / ((m - 1) * u) → 0 ≤ x → x ≤ sizeC m u b c z s me o a l → revetmentref08_Need.l0 k mm x (wrap64 (w * u)) (wrap64 (w * ((m - 1) * u))) id m u b c z s me o a l = some (needP m u ((m - 1) * u) mm x) := by
    intro x w hw x0 x1
    obtain ⟨p1, p2, p3, p4, p5, p6, p7, p8, p9, p10, p11⟩ := need_bd g0 x0 (by rw [← hz]; exact x1) q.1 q.2
    subst hw
    have b1 : 0 ≤ x / ((m - 1) * u) * ((m - 1) * u) := Int.mul_nonneg p1 (by omega)
    rw [wr (x := x / ((m - 1) * u) * u) (by omega), wr (x := x / ((m - 1) * u) * ((m - 1) * u)) (by omega)]
    have hl := rneed_loop id m u b c z s me o a l h mm (x / ((m - 1) * u)) x q.1 q.2 p1 x1 (x - x / ((m - 1) * u) * ((m - 1) * u)).toNat k (x / ((m - 1) * u) * u) 0 (by omega) (by omega) (by omega) (by omega) (by omega) (by omega) (by
      split
      · omega
      · have := p11 (by omega)
        unfold clampP; rw [if_pos (by omega)]; omega)
    rw [Int.add_zero] at hl
    rw [hl, needP, show x - x / ((m - 1) * u) * ((m - 1) * u) = x % ((m - 1) * u) by omega]
  by_cases ha : n > sizeC m u b c z s me o a l
  · rw [if_pos ha, if_pos (by omega), if_neg (by omega), td (by omega), wr (x := sizeC m u b c z s me o a l / ((m - 1) * u)) (by have := Int.ediv_nonneg hZ (show 0 ≤ (m - 1) * u by omega); have := Int.ediv_le_self ((m - 1) * u) hZ; omega), key _ _ rfl hZ (Int.le_refl _)]
    unfold inP; rw [if_neg (by omega), if_neg (by omega)]
  · rw [if_neg ha]
    by_cases b' : n > 0
    · rw [if_pos b', if_neg (by omega), td (by omega), wr (x := n / ((m - 1) * u)) (by have := Int.ediv_nonneg (show 0 ≤ n by omega) (show 0 ≤ (m - 1) * u by omega); have := Int.ediv_le_self ((m - 1) * u) (show 0 ≤ n by omega); omega), key _ _ rfl (by omega) (by omega)]
      unfold inP; rw [if_neg (by omega), if_pos (by omega)]
    · rw [if_neg b']
      have e0 : ∀ y : Int, y ≤ 0 → revetmentref08_Need.l0 k mm y (wrap64 (0 * u)) (wrap64 (0 * ((m - 1) * u))) id m u b c z s me o a l = some 0 := by
        intro y hy
        obtain ⟨k', rfl⟩ : ∃ j, k = j + 1 := ⟨k - 1, by omega⟩
        simp only [revetmentref08_Need.l0]
        rw [if_neg (by rw [wr (by omega)]; omega), wr (by omega), Int.zero_mul]
      rw [e0 n (by omega)]
      have e1 : inP (sizeC m u b c z s me o a l) n = 0 := by
        unfold inP; split
        · rfl
        · rw [if_pos (by omega)]; omega
      rw [e1]
      have := need_bd g0 (Int.le_refl 0) (by omega) q.1 q.2
      unfold needP
      rw [Int.zero_ediv, Int.zero_emod, Int.zero_mul, Int.zero_add]
      rw [Int.zero_ediv] at this
      split
      · rfl
      · have := this.2.2.2.2.2.2.2.2.2.2 (by omega)
        unfold clampP; rw [if_pos (by omega)]
theorem rneed_no (k : Nat) (hk : 1 ≤ k) (mm n : Int) (q : ¬ (checkC id m u b c z s me o a l = 0 ∧ 0 ≤ mm ∧ mm < m)) : revetmentref08_Need.f k id m u b c z s me o a l mm n = some 0 := by
  obtain ⟨k, rfl⟩ : ∃ j, k = j + 1 := ⟨k - 1, by omega⟩
  unfold revetmentref08_Need.f revetmentref07_Check.f
  simp only [Option.bind_some, revetmentref08_Need.j0]
  by_cases h : checkC id m u b c z s me o a l = 0
  · rw [if_pos h]
    by_cases k1 : mm < 0
    · rw [if_pos k1, if_pos trivial]
    · rw [if_neg k1, decide_eq_true (by omega), if_pos rfl]
  · rw [if_neg h, if_pos trivial]
end
end Go.Proofs.Ytekihhbihnmakaa.Geo
