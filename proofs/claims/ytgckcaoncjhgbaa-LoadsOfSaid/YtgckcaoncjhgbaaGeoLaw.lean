/- Plain laws on where blocks lie: the functions of package geom and of the reference 08 answer alike, at any settings. No program in sight. No condition. -/
import Derived.Test.YtgckcaoncjhgbaaGoodLaw
import Derived.Test.YtgckcaoncjhgbaaPGx4
import Derived.Test.YtgckcaoncjhgbaaPGx8
open Go.RowKit Go.Proofs.Ytgckcaoncjhgbaa Go.Proofs.Ytgckcaoncjhgbaa.PG Go.Proofs.YtgckcaoncjhgbaaW.PrintWords Go.Proofs.YtgckcaoncjhgbaaW.PrintLast
set_option linter.unusedVariables false
set_option linter.unusedSimpArgs false
namespace Go.Proofs.Ytgckcaoncjhgbaa.Geo
section
variable (id m u b c z s me o a l : Int)
theorem size_eqG (h : jn_ id m u b c z s me o a l = 0) : conf_Size.f id m u b c z s me o a l = some (kg_ m u b c z s me o a l) := by
 obtain ⟨g, hr, hs, hd, hz⟩ := good h
 unfold conf_Size.f conf_Stripes.f conf_Row.f
 simp only [Option.bind_some]
 rw [hs, hr, hz, wr (by have := g.Z1; have := g.Z2; have := g.R1; omega)]
def rightB (m S st un mm : Int) : Bool := decide (0 <= st /\ st < S /\ 0 <= un /\ un < m - 1 /\ 0 <= mm /\ mm < m)
theorem right_ok (h : jn_ id m u b c z s me o a l = 0) (st un mm : Int) : geom_right.f id m u b c z s me o a l st un mm = some (rightB m (c / u) st un mm) := by
 obtain ⟨g, hr, hs, hd, hz⟩ := good h
 unfold geom_right.f conf_Check.f conf_Stripes.f conf_Data.f rightB
 simp only [Option.bind_some, h, hs, hd, if_true]
 by_cases h1 : 0 <= st <;> by_cases h2 : st < c / u <;> by_cases h3 : 0 <= un <;> by_cases h4 : un < m - 1 <;> by_cases h5 : 0 <= mm <;> simp [h1, h2, h3, h4, h5]
theorem right_no (h : ¬ jn_ id m u b c z s me o a l = 0) (st un mm : Int) : geom_right.f id m u b c z s me o a l st un mm = some false := by
 unfold geom_right.f conf_Check.f
 simp only [Option.bind_some]
 rw [if_neg h]
def yk_ (m st un : Int) : Int := (st + 1 + un) % m
theorem member_ok (h : jn_ id m u b c z s me o a l = 0) (st un : Int) : geom_Member.f id m u b c z s me o a l st un = some (if 0 <= st /\ st < c / u /\ 0 <= un /\ un < m - 1 then yk_ m st un else 0) := by
 obtain ⟨⟨m1, m2, u1, u2, c1, c2, S1, S2, R1, R2, uR, hR, Su, Z2, Z1⟩, hr, hs, hd, hz⟩ := good h
 unfold geom_Member.f
 rw [right_ok (h := h)]
 simp only [Option.bind_some, rightB]
 by_cases k : 0 <= st /\ st < c / u /\ 0 <= un /\ un < m - 1
 · rw [if_pos (by simp; omega), if_neg (by omega), if_pos k, wr (x := st + 1) (by omega), wr (by omega), tm (by omega)]; rfl
 · rw [if_neg (by simp; omega), if_neg k]
theorem right_t (h : jn_ id m u b c z s me o a l = 0) (st un mm : Int) (k : 0 <= st /\ st < c / u /\ 0 <= un /\ un < m - 1 /\ 0 <= mm /\ mm < m) : geom_right.f id m u b c z s me o a l st un mm = some true := by
 rw [right_ok (h := h), rightB, decide_eq_true k]
theorem right_f (st un mm : Int) (k : ¬ (jn_ id m u b c z s me o a l = 0 /\ 0 <= st /\ st < c / u /\ 0 <= un /\ un < m - 1 /\ 0 <= mm /\ mm < m)) : geom_right.f id m u b c z s me o a l st un mm = some false := by
 by_cases h : jn_ id m u b c z s me o a l = 0
 · rw [right_ok (h := h), rightB, decide_eq_false (fun q => k ⟨h, q⟩)]
 · exact right_no (h := h) ..
theorem parity_eq (st : Int) : geom_Parity.f id m u b c z s me o a l st = some (if jn_ id m u b c z s me o a l = 0 /\ 0 <= st /\ st < c / u then st % m else 0) := by
 unfold geom_Parity.f
 by_cases k : jn_ id m u b c z s me o a l = 0 /\ 0 <= st /\ st < c / u
 ·
  obtain ⟨⟨m1, m2, u1, u2, c1, c2, S1, S2, R1, R2, uR, hR, Su, Z2, Z1⟩, hr, hs, hd, hz⟩ := good k.1
  rw [right_t (h := k.1) (k := by omega), if_pos k]
  simp only [Option.bind_some, if_true]
  rw [if_neg (by omega), tm k.2.1]
 · rw [right_f (k := by omega), if_neg k]; rfl
def placeP (m u R lb : Int) : Int × Int × Int × Int × Int × Bool := (lb / R, lb % R / u, lb % u, yk_ m (lb / R) (lb % R / u), lb / R * u + lb % u, true)
theorem yw_ {m u c R S lb : Int} (g : Good m u c S R) (h0 : 0 <= lb) (h1 : lb < S * R) : 0 <= lb / R /\ lb / R < S /\ 0 <= lb % R /\ lb % R < R /\ 0 <= lb % R / u /\ lb % R / u < m - 1 /\ 0 <= lb % u /\ lb % u < u /\ lb % R % u = lb % u /\ lb = lb / R * R + lb % R /\ lb % R = lb % R / u * u + lb % u /\ 0 <= lb / R * u /\ lb / R * u <= 4096 * 64 /\ 0 <= lb / R * R /\ lb / R * R <= lb := by
 obtain ⟨m1, m2, u1, u2, c1, c2, S1, S2, R1, R2, uR, hR, Su, Z2, Z1⟩ := g
 have a1 := Int.emod_nonneg lb (show R ≠ 0 by omega)
 have a2 := Int.emod_lt_of_pos lb (show 0 < R by omega)
 have a3 := Int.mul_ediv_add_emod lb R
 have a4 : 0 <= lb / R := Int.ediv_nonneg h0 (by omega)
 have a5 : lb / R < S := by rw [Int.ediv_lt_iff_lt_mul (by omega)]; exact h1
 have b1 := Int.emod_nonneg lb (show u ≠ 0 by omega)
 have b2 := Int.emod_lt_of_pos lb (show 0 < u by omega)
 have b3 : lb % R % u = lb % u := Int.emod_emod_of_dvd _ ⟨m - 1, by rw [hR, Int.mul_comm]⟩
 have b4 := Int.mul_ediv_add_emod (lb % R) u
 have b5 : 0 <= lb % R / u := Int.ediv_nonneg a1 (by omega)
 have b6 : lb % R / u < m - 1 := by rw [Int.ediv_lt_iff_lt_mul (by omega), <- hR]; exact a2
 have c3 : lb / R * u <= 4096 * 64 := Int.mul_le_mul (by omega) (by omega) (by omega) (by omega)
 have c4 : 0 <= lb / R * u := Int.mul_nonneg a4 (by omega)
 have c5 : 0 <= lb / R * R := Int.mul_nonneg a4 (by omega)
 rw [Int.mul_comm] at a3 b4
 refine ⟨a4, a5, a1, a2, b5, b6, b1, b2, b3, by omega, by omega, c4, c3, c5, by omega⟩
theorem of_ok (k : Nat) (hk : 1 <= k) (lb : Int) (h : jn_ id m u b c z s me o a l = 0) (q : 0 <= lb /\ lb < kg_ m u b c z s me o a l) : geom_Of.f k id m u b c z s me o a l lb = some (placeP m u ((m - 1) * u) lb) := by
 obtain ⟨k, rfl⟩ : ∃ j, k = j + 1 := ⟨k - 1, by omega⟩
 unfold geom_Of.f
 obtain ⟨g, hr, hs, hd, hz⟩ := good h
 have g0 := g
 obtain ⟨m1, m2, u1, u2, c1, c2, S1, S2, R1, R2, uR, hR, Su, Z2, Z1⟩ := g
 rw [right_t (h := h) (k := by omega), size_eqG (h := h)]
 simp only [Option.bind_some, if_true]
 obtain ⟨p1, p2, p3, p4, p5, p6, p7, p8, p9, p10, p11, p12, p13, p14, p15⟩ := yw_ g0 q.1 (by rw [<- hz]; exact q.2)
 rw [if_neg (by omega)]
 simp only [geom_Of.j0]
 rw [decide_eq_false (by omega), if_neg (by decide)]
 unfold conf_Row.f
 simp only [Option.bind_some]
 rw [hr, if_neg (by omega), if_neg (by omega), td q.1, tm q.1, tm q.1, td p3, wr (x := lb / ((m - 1) * u)) (by omega), wr (x := lb % ((m - 1) * u) / u) (by omega), member_ok (h := h), if_pos (by omega)]
 simp only [Option.bind_some]
 rw [wr (x := lb / ((m - 1) * u) * u) (by omega), wr (by omega)]; rfl
theorem of_no (k : Nat) (hk : 1 <= k) (lb : Int) (q : ¬ (jn_ id m u b c z s me o a l = 0 /\ 0 <= lb /\ lb < kg_ m u b c z s me o a l)) : geom_Of.f k id m u b c z s me o a l lb = some (0, 0, 0, 0, 0, false) := by
 obtain ⟨k, rfl⟩ : ∃ j, k = j + 1 := ⟨k - 1, by omega⟩
 unfold geom_Of.f
 by_cases h : jn_ id m u b c z s me o a l = 0
 ·
  obtain ⟨⟨m1, m2, u1, u2, c1, c2, S1, S2, R1, R2, uR, hR, Su, Z2, Z1⟩, hr, hs, hd, hz⟩ := good h
  rw [right_t (h := h) (k := by omega), size_eqG (h := h)]
  simp only [Option.bind_some, if_true, geom_Of.j0]
  by_cases k1 : lb < 0
  · rw [if_pos k1]
  · rw [if_neg k1, decide_eq_true (by omega), if_pos rfl]
 ·
  rw [right_no (h := h)]
  simp only [Option.bind_some, geom_Of.j0]
  rw [if_neg (by decide), if_pos trivial]
theorem rof_loop (h : jn_ id m u b c z s me o a l = 0) (st : Int) (s0 : 0 <= st) (s1 : st < c / u) (d : Nat) : ∀ (k : Nat) (rest un : Int), 0 <= rest -> rest <= 1000 -> 0 <= un -> un <= 1000 -> rest / u = d -> d < k -> un + rest / u < m - 1 -> ∀ z1 z2 z3 : Int, revetmentref08_Of.l0 k rest id m u b c z s me o a l st un z1 z2 z3 = some (st, un + rest / u, rest % u, yk_ m st (un + rest / u), st * u + rest % u, true) := by
 obtain ⟨⟨m1, m2, u1, u2, c1, c2, S1, S2, R1, R2, uR, hR, Su, Z2, Z1⟩, hr, hs, hd, hz⟩ := good h
 have f1 : 0 <= st * u := Int.mul_nonneg s0 (by omega)
 have f2 : st * u <= 4096 * 64 := Int.mul_le_mul (by omega) (by omega) (by omega) (by omega)
 have f3 := Int.emod_nonneg st (show m ≠ 0 by omega)
 have f4 := Int.emod_lt_of_pos st (show 0 < m by omega)
 have f5 := Int.mul_ediv_add_emod st m
 induction d with
 | zero =>
  intro k rest un r0 r1 u0 u1' hd hk hun z1 z2 z3
  obtain ⟨k, rfl⟩ : ∃ j, k = j + 1 := ⟨k - 1, by omega⟩
  have e1 := Int.mul_ediv_add_emod rest u
  have e2 := Int.emod_lt_of_pos rest (show 0 < u by omega)
  rw [hd] at e1
  have e3 : rest % u = rest := by simp at e1; exact e1
  simp only [revetmentref08_Of.l0]
  rw [if_neg (by omega), if_neg (by omega), hd, e3, tm s0, wr (x := st % m + 1) (by omega), wr (x := st % m + 1 + un) (by omega), tm (by omega), wr (x := st * u) (by omega), wr (by omega)]
  have e4 : (st % m + 1 + un) % m = yk_ m st un := by
   unfold yk_
   rw [show st + 1 + un = (st % m + 1 + un) + m * (st / m) by omega, Int.add_mul_emod_self_left]
  rw [e4]; simp
 | succ d ih =>
  intro k rest un r0 r1 u0 u1' hd hk hun z1 z2 z3
  obtain ⟨k, rfl⟩ : ∃ j, k = j + 1 := ⟨k - 1, by omega⟩
  have e1 := Int.mul_ediv_add_emod rest u
  have e2 := Int.emod_nonneg rest (show u ≠ 0 by omega)
  have e5 : u * 1 <= u * (rest / u) := Int.mul_le_mul_of_nonneg_left (by omega) (by omega)
  have e6 : (rest - u) / u = rest / u - 1 := by
   rw [show rest - u = rest + (-1) * u by omega, Int.add_mul_ediv_right _ _ (by omega)]; omega
  have e7 : (rest - u) % u = rest % u := by rw [Int.sub_emod_right]
  simp only [revetmentref08_Of.l0]
  rw [if_pos (by omega), wr (x := rest - u) (by omega), wr (x := un + 1) (by omega)]
  rw [ih k (rest - u) (un + 1) (by omega) (by omega) (by omega) (by omega) (by omega) (by omega) (by omega), e6, e7, show un + 1 + (rest / u - 1) = un + rest / u by omega]
theorem rof_ok (k : Nat) (hk : 20 <= k) (lb : Int) (h : jn_ id m u b c z s me o a l = 0) (q : 0 <= lb /\ lb < kg_ m u b c z s me o a l) : revetmentref08_Of.f k id m u b c z s me o a l lb = some (placeP m u ((m - 1) * u) lb) := by
 obtain ⟨k, rfl⟩ : ∃ j, k = j + 1 := ⟨k - 1, by omega⟩
 unfold revetmentref08_Of.f revetmentref07_Check.f revetmentref07_Size.f
 obtain ⟨g, hr, hs, hd, hz⟩ := good h
 have g0 := g
 obtain ⟨m1, m2, u1, u2, c1, c2, S1, S2, R1, R2, uR, hR, Su, Z2, Z1⟩ := g
 simp only [Option.bind_some]
 obtain ⟨p1, p2, p3, p4, p5, p6, p7, p8, p9, p10, p11, p12, p13, p14, p15⟩ := yw_ g0 q.1 (by rw [<- hz]; exact q.2)
 rw [if_pos h, if_neg (by omega)]
 simp only [revetmentref08_Of.j0]
 rw [decide_eq_false (by omega), if_neg (by decide)]
 unfold revetmentref07_Row.f
 simp only [Option.bind_some]
 rw [hr, if_neg (by omega), td q.1, wr (x := lb / ((m - 1) * u)) (by omega), wr (x := lb / ((m - 1) * u) * ((m - 1) * u)) (by omega), wr (x := lb - lb / ((m - 1) * u) * ((m - 1) * u)) (by omega)]
 have e : lb - lb / ((m - 1) * u) * ((m - 1) * u) = lb % ((m - 1) * u) := by omega
 rw [e, rof_loop id m u b c z s me o a l h (lb / ((m - 1) * u)) p1 p2 (lb % ((m - 1) * u) / u).toNat k (lb % ((m - 1) * u)) 0 p3 (by omega) (by omega) (by omega) (by omega) (by omega) (by omega)]
 rw [Int.zero_add, p9]; rfl
theorem rof_no (k : Nat) (hk : 1 <= k) (lb : Int) (q : ¬ (jn_ id m u b c z s me o a l = 0 /\ 0 <= lb /\ lb < kg_ m u b c z s me o a l)) : revetmentref08_Of.f k id m u b c z s me o a l lb = some (0, 0, 0, 0, 0, false) := by
 obtain ⟨k, rfl⟩ : ∃ j, k = j + 1 := ⟨k - 1, by omega⟩
 unfold revetmentref08_Of.f revetmentref07_Check.f revetmentref07_Size.f
 simp only [Option.bind_some, revetmentref08_Of.j0]
 by_cases h : jn_ id m u b c z s me o a l = 0
 ·
  rw [if_pos h]
  by_cases k1 : lb < 0
  · rw [if_pos k1, if_pos trivial]
  · rw [if_neg k1, decide_eq_true (by omega), if_pos rfl]
 · rw [if_neg h, if_pos trivial]
end
end Go.Proofs.Ytgckcaoncjhgbaa.Geo
