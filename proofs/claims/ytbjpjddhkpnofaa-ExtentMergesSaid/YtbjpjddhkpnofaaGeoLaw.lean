/- Plain laws on where blocks lie: the functions of package geom and of the reference 08 answer alike, at any settings. No program in sight. No condition. -/
import Derived.Test.YtbjpjddhkpnofaaPAx16
import Derived.Test.YtbjpjddhkpnofaaPAx17
import Derived.Test.YtbjpjddhkpnofaaPAx2
import Derived.Test.YtbjpjddhkpnofaaPAx3
import Derived.Test.YtbjpjddhkpnofaaPAx4
import Derived.Test.YtbjpjddhkpnofaaPAx5
open Go.RowKit Go.Proofs.Ytbjpjddhkpnofaa Go.Proofs.Ytbjpjddhkpnofaa.PA Go.Proofs.YtbjpjddhkpnofaaW.PrintWords Go.Proofs.YtbjpjddhkpnofaaW.PrintLast
set_option linter.unusedVariables false
set_option linter.unusedSimpArgs false
namespace Go.Proofs.Ytbjpjddhkpnofaa.Geo
theorem wr {x : Int} (h : -9223372036854775808 ≤ x ∧ x ≤ 9223372036854775807) : wrap64 x = x := by unfold wrap64; omega
theorem td {x y : Int} (h : 0 ≤ x) : Int.tdiv x y = x / y := Int.tdiv_eq_ediv_of_nonneg h
theorem tm {x y : Int} (h : 0 ≤ x) : Int.tmod x y = x % y := Int.tmod_eq_emod_of_nonneg h
/-- Settings that may be, and what follows for the numbers of this layer: S stripes, R blocks a row. -/
structure Good (m u c S R : Int) : Prop where
  m1 : 3 ≤ m
  m2 : m ≤ 16
  u1 : 1 ≤ u
  u2 : u ≤ 64
  c1 : 1 ≤ c
  c2 : c ≤ 4096
  S1 : 1 ≤ S
  S2 : S ≤ 4096
  R1 : 2 ≤ R
  R2 : R ≤ 960
  uR : u ≤ R
  hR : R = (m - 1) * u
  Su : S * u = c
  Z2 : S * R ≤ 3932160
  Z1 : R ≤ S * R
theorem good {id m u b c z s me o a l : Int} (h : checkC id m u b c z s me o a l = 0) : Good m u c (c / u) ((m - 1) * u) ∧ rowC m u b c z s me o a l = (m - 1) * u ∧ stripesC m u b c z s me o a l = c / u ∧ dataC m u b c z s me o a l = m - 1 ∧ sizeC m u b c z s me o a l = c / u * ((m - 1) * u) := by
  have hk := (checkC_ok h).1
  have hs := okC_sane hk
  have b := okC_bd hk
  refine ⟨?_, by rw [rowC, if_pos hs], by rw [stripesC, if_pos hs], by rw [dataC, if_pos hs], by rw [sizeC, if_pos hs]⟩
  have d1 : 2 * 1 ≤ (m - 1) * u := Int.mul_le_mul (by omega) (by omega) (by omega) (by omega)
  have d2 : (m - 1) * u ≤ 15 * 64 := Int.mul_le_mul (by omega) (by omega) (by omega) (by omega)
  have d3 : 1 * u ≤ (m - 1) * u := Int.mul_le_mul (by omega) (by omega) (by omega) (by omega)
  have e0 : c / u * u = c := by have := Int.mul_ediv_add_emod c u; rw [Int.mul_comm]; omega
  have e1 : 1 ≤ c / u := by
    rcases Int.lt_or_le 0 (c / u) with g | g
    · omega
    · have : c / u * u ≤ 0 * u := Int.mul_le_mul_of_nonneg_right (by omega) (by omega)
      omega
  have e2 : c / u ≤ c := Int.ediv_le_self _ (by omega)
  have e3 : c / u * ((m - 1) * u) ≤ 4096 * 960 := Int.mul_le_mul (by omega) (by omega) (by omega) (by omega)
  have e4 : 1 * ((m - 1) * u) ≤ c / u * ((m - 1) * u) := Int.mul_le_mul (by omega) (by omega) (by omega) (by omega)
  exact ⟨by omega, by omega, by omega, by omega, by omega, by omega, e1, by omega, by omega, by omega, by omega, rfl, e0, by omega, by omega⟩
/-- What is behind a check. -/
def okB (n : Int) : Bool := n == 0
section
variable (id m u b c z s me o a l : Int)
theorem size_eq (h : checkC id m u b c z s me o a l = 0) : conf_Size.f id m u b c z s me o a l = some (sizeC m u b c z s me o a l) := by
  obtain ⟨g, hr, hs, hd, hz⟩ := good h
  unfold conf_Size.f conf_Stripes.f conf_Row.f
  simp only [Option.bind_some]
  rw [hs, hr, hz, wr (by have := g.Z1; have := g.Z2; have := g.R1; omega)]
def rightB (m S st un mm : Int) : Bool := decide (0 ≤ st ∧ st < S ∧ 0 ≤ un ∧ un < m - 1 ∧ 0 ≤ mm ∧ mm < m)
theorem right_ok (h : checkC id m u b c z s me o a l = 0) (st un mm : Int) : geom_right.f id m u b c z s me o a l st un mm = some (rightB m (c / u) st un mm) := by
  obtain ⟨g, hr, hs, hd, hz⟩ := good h
  unfold geom_right.f conf_Check.f conf_Stripes.f conf_Data.f rightB
  simp only [Option.bind_some, h, hs, hd, if_true]
  by_cases h1 : 0 ≤ st <;> by_cases h2 : st < c / u <;> by_cases h3 : 0 ≤ un <;> by_cases h4 : un < m - 1 <;> by_cases h5 : 0 ≤ mm <;> simp [h1, h2, h3, h4, h5]
theorem right_no (h : ¬ checkC id m u b c z s me o a l = 0) (st un mm : Int) : geom_right.f id m u b c z s me o a l st un mm = some false := by
  unfold geom_right.f conf_Check.f
  simp only [Option.bind_some]
  rw [if_neg h]
def memberP (m st un : Int) : Int := (st + 1 + un) % m
def unitP (m st mm : Int) : Int := (mm - st % m + m) % m - 1
theorem member_ok (h : checkC id m u b c z s me o a l = 0) (st un : Int) : geom_Member.f id m u b c z s me o a l st un = some (if 0 ≤ st ∧ st < c / u ∧ 0 ≤ un ∧ un < m - 1 then memberP m st un else 0) := by
  obtain ⟨⟨m1, m2, u1, u2, c1, c2, S1, S2, R1, R2, uR, hR, Su, Z2, Z1⟩, hr, hs, hd, hz⟩ := good h
  unfold geom_Member.f
  rw [right_ok (h := h)]
  simp only [Option.bind_some, rightB]
  by_cases k : 0 ≤ st ∧ st < c / u ∧ 0 ≤ un ∧ un < m - 1
  · rw [if_pos (by simp; omega), if_neg (by omega), if_pos k, wr (x := st + 1) (by omega), wr (by omega), tm (by omega)]; rfl
  · rw [if_neg (by simp; omega), if_neg k]
theorem member_no (h : ¬ checkC id m u b c z s me o a l = 0) (st un : Int) : geom_Member.f id m u b c z s me o a l st un = some 0 := by
  unfold geom_Member.f
  rw [right_no (h := h)]; rfl
theorem right_t (h : checkC id m u b c z s me o a l = 0) (st un mm : Int) (k : 0 ≤ st ∧ st < c / u ∧ 0 ≤ un ∧ un < m - 1 ∧ 0 ≤ mm ∧ mm < m) : geom_right.f id m u b c z s me o a l st un mm = some true := by
  rw [right_ok (h := h), rightB, decide_eq_true k]
theorem right_f (st un mm : Int) (k : ¬ (checkC id m u b c z s me o a l = 0 ∧ 0 ≤ st ∧ st < c / u ∧ 0 ≤ un ∧ un < m - 1 ∧ 0 ≤ mm ∧ mm < m)) : geom_right.f id m u b c z s me o a l st un mm = some false := by
  by_cases h : checkC id m u b c z s me o a l = 0
  · rw [right_ok (h := h), rightB, decide_eq_false (fun q => k ⟨h, q⟩)]
  · exact right_no (h := h) ..
/-- The unit that the member has: it is found by going through all of them. -/
theorem unitP_spec {m st mm : Int} (hm : 3 ≤ m) (hst : 0 ≤ st) (h0 : 0 ≤ mm) (h1 : mm < m) : -1 ≤ unitP m st mm ∧ unitP m st mm < m - 1 ∧ (∀ un, 0 ≤ un → un < m - 1 → (memberP m st un = mm ↔ un = unitP m st mm)) ∧ (unitP m st mm = -1 ↔ st % m = mm) := by
  unfold unitP memberP
  have p1 := Int.emod_nonneg st (show m ≠ 0 by omega)
  have p2 := Int.emod_lt_of_pos st (show 0 < m by omega)
  have d := Int.mul_ediv_add_emod st m
  have key : (mm - st % m + m) % m = if st % m ≤ mm then mm - st % m else mm - st % m + m := by
    split
    · rw [Int.add_emod_right, Int.emod_eq_of_lt (by omega) (by omega)]
    · exact Int.emod_eq_of_lt (by omega) (by omega)
  rw [key]
  refine ⟨by split <;> omega, by split <;> omega, fun un u0 u1 => ?_, by split <;> omega⟩
  have e : (st + 1 + un) % m = if st % m + 1 + un < m then st % m + 1 + un else st % m + 1 + un - m := by
    have : (st + 1 + un) % m = (st % m + 1 + un) % m := by
      rw [show st + 1 + un = (st % m + 1 + un) + m * (st / m) by omega, Int.add_mul_emod_self_left]
    rw [this]
    split
    · exact Int.emod_eq_of_lt (by omega) (by omega)
    · have : (st % m + 1 + un) % m = (st % m + 1 + un - m) % m := (Int.sub_emod_right _ _).symm
      rw [this]; exact Int.emod_eq_of_lt (by omega) (by omega)
  rw [e]
  split <;> split <;> omega
def placeP (m u R lb : Int) : Int × Int × Int × Int × Int × Bool := (lb / R, lb % R / u, lb % u, memberP m (lb / R) (lb % R / u), lb / R * u + lb % u, true)
/-- What is known of a place. -/
theorem place_bd {m u c R S lb : Int} (g : Good m u c S R) (h0 : 0 ≤ lb) (h1 : lb < S * R) : 0 ≤ lb / R ∧ lb / R < S ∧ 0 ≤ lb % R ∧ lb % R < R ∧ 0 ≤ lb % R / u ∧ lb % R / u < m - 1 ∧ 0 ≤ lb % u ∧ lb % u < u ∧ lb % R % u = lb % u ∧ lb = lb / R * R + lb % R ∧ lb % R = lb % R / u * u + lb % u ∧ 0 ≤ lb / R * u ∧ lb / R * u ≤ 4096 * 64 ∧ 0 ≤ lb / R * R ∧ lb / R * R ≤ lb := by
  obtain ⟨m1, m2, u1, u2, c1, c2, S1, S2, R1, R2, uR, hR, Su, Z2, Z1⟩ := g
  have a1 := Int.emod_nonneg lb (show R ≠ 0 by omega)
  have a2 := Int.emod_lt_of_pos lb (show 0 < R by omega)
  have a3 := Int.mul_ediv_add_emod lb R
  have a4 : 0 ≤ lb / R := Int.ediv_nonneg h0 (by omega)
  have a5 : lb / R < S := by rw [Int.ediv_lt_iff_lt_mul (by omega)]; exact h1
  have b1 := Int.emod_nonneg lb (show u ≠ 0 by omega)
  have b2 := Int.emod_lt_of_pos lb (show 0 < u by omega)
  have b3 : lb % R % u = lb % u := Int.emod_emod_of_dvd _ ⟨m - 1, by rw [hR, Int.mul_comm]⟩
  have b4 := Int.mul_ediv_add_emod (lb % R) u
  have b5 : 0 ≤ lb % R / u := Int.ediv_nonneg a1 (by omega)
  have b6 : lb % R / u < m - 1 := by rw [Int.ediv_lt_iff_lt_mul (by omega), ← hR]; exact a2
  have c3 : lb / R * u ≤ 4096 * 64 := Int.mul_le_mul (by omega) (by omega) (by omega) (by omega)
  have c4 : 0 ≤ lb / R * u := Int.mul_nonneg a4 (by omega)
  have c5 : 0 ≤ lb / R * R := Int.mul_nonneg a4 (by omega)
  rw [Int.mul_comm] at a3 b4
  refine ⟨a4, a5, a1, a2, b5, b6, b1, b2, b3, by omega, by omega, c4, c3, c5, by omega⟩
theorem of_ok (k : Nat) (hk : 1 ≤ k) (lb : Int) (h : checkC id m u b c z s me o a l = 0) (q : 0 ≤ lb ∧ lb < sizeC m u b c z s me o a l) : geom_Of.f k id m u b c z s me o a l lb = some (placeP m u ((m - 1) * u) lb) := by
  obtain ⟨k, rfl⟩ : ∃ j, k = j + 1 := ⟨k - 1, by omega⟩
  unfold geom_Of.f
  obtain ⟨g, hr, hs, hd, hz⟩ := good h
  have g0 := g
  obtain ⟨m1, m2, u1, u2, c1, c2, S1, S2, R1, R2, uR, hR, Su, Z2, Z1⟩ := g
  rw [right_t (h := h) (k := by omega), size_eq (h := h)]
  simp only [Option.bind_some, if_true]
  obtain ⟨p1, p2, p3, p4, p5, p6, p7, p8, p9, p10, p11, p12, p13, p14, p15⟩ := place_bd g0 q.1 (by rw [← hz]; exact q.2)
  rw [if_neg (by omega)]
  simp only [geom_Of.j0]
  rw [decide_eq_false (by omega), if_neg (by decide)]
  unfold conf_Row.f
  simp only [Option.bind_some]
  rw [hr, if_neg (by omega), if_neg (by omega), td q.1, tm q.1, tm q.1, td p3, wr (x := lb / ((m - 1) * u)) (by omega), wr (x := lb % ((m - 1) * u) / u) (by omega), member_ok (h := h), if_pos (by omega)]
  simp only [Option.bind_some]
  rw [wr (x := lb / ((m - 1) * u) * u) (by omega), wr (by omega)]; rfl
theorem of_no (k : Nat) (hk : 1 ≤ k) (lb : Int) (q : ¬ (checkC id m u b c z s me o a l = 0 ∧ 0 ≤ lb ∧ lb < sizeC m u b c z s me o a l)) : geom_Of.f k id m u b c z s me o a l lb = some (0, 0, 0, 0, 0, false) := by
  obtain ⟨k, rfl⟩ : ∃ j, k = j + 1 := ⟨k - 1, by omega⟩
  unfold geom_Of.f
  by_cases h : checkC id m u b c z s me o a l = 0
  · obtain ⟨⟨m1, m2, u1, u2, c1, c2, S1, S2, R1, R2, uR, hR, Su, Z2, Z1⟩, hr, hs, hd, hz⟩ := good h
    rw [right_t (h := h) (k := by omega), size_eq (h := h)]
    simp only [Option.bind_some, if_true, geom_Of.j0]
    by_cases k1 : lb < 0
    · rw [if_pos k1]
    · rw [if_neg k1, decide_eq_true (by omega), if_pos rfl]
  · rw [right_no (h := h)]
    simp only [Option.bind_some, geom_Of.j0]
    rw [if_neg (by decide), if_pos trivial]
end
end Go.Proofs.Ytbjpjddhkpnofaa.Geo
