/- Plain laws on steps: the reference's steps, their number, the page's example. No program in sight. Conditions: settings that may be and are small. -/
import Derived.Test.YtekihhbihnmakaaSmallLaw
import Derived.Test.YtekihhbihnmakaaPAx22
import Derived.Test.YtekihhbihnmakaaPAx28
import Derived.Test.YtekihhbihnmakaaPAx30
import Derived.Test.YtekihhbihnmakaaPAx31
import Derived.Test.YtekihhbihnmakaaPAx6
import Derived.Test.YtekihhbihnmakaaPAx9
import Derived.Test.YtekihhbihnmakaaGeoLaw
open Go.RowKit Go.Proofs.Ytekihhbihnmakaa Go.Proofs.Ytekihhbihnmakaa.PA Go.Proofs.YtekihhbihnmakaaW.PrintWords Go.Proofs.YtekihhbihnmakaaW.PrintLast
set_option linter.unusedVariables false
set_option linter.unusedSimpArgs false
namespace Go.Proofs.Ytekihhbihnmakaa.Geo
/-- The next block: in the same row, or at the next's begin. -/
theorem next_row {x R : Int} (hR : 0 < R) (hx : 0 ≤ x) : (x + 1) / R = x / R + (if (x + 1) % R = 0 then 1 else 0) ∧ ((x + 1) % R = 0 ↔ x % R = R - 1) := by
  have a1 := Int.emod_nonneg x (show R ≠ 0 by omega)
  have a2 := Int.emod_lt_of_pos x hR
  have a3 := Int.mul_ediv_add_emod x R
  have key : (x + 1) % R = (x % R + 1) % R := by rw [Int.emod_add_emod]
  by_cases h : x % R = R - 1
  · have e1 : x + 1 = R * (x / R + 1) := by rw [Int.mul_add]; omega
    have e2 : (x + 1) % R = 0 := by rw [e1]; exact Int.mul_emod_right _ _
    refine ⟨?_, by simp [e2, h]⟩
    rw [if_pos e2, e1, Int.mul_ediv_cancel_left _ (by omega)]
  · have e2 : (x + 1) % R = x % R + 1 := by rw [key]; exact Int.emod_eq_of_lt (by omega) (by omega)
    have e3 : ¬ (x + 1) % R = 0 := by omega
    refine ⟨?_, by constructor <;> intro h' <;> omega⟩
    rw [if_neg e3]
    have e1 : x + 1 = (x % R + 1) + R * (x / R) := by omega
    rw [e1, Int.add_mul_ediv_left _ _ (show R ≠ 0 by omega), Int.ediv_eq_zero_of_lt (by omega) (by omega)]
    have e4 : x % R + 1 + R * (x / R) = x + 1 := by omega
    omega
theorem last_iff {m u R lb un pin : Int} (hR : R = (m - 1) * u) (hu : 1 ≤ u) (hm : 3 ≤ m) (h1 : lb % R = un * u + pin) (h2 : un < m - 1) (h3 : 0 ≤ un) (h4 : 0 ≤ pin) (h5 : pin < u) : lb % R = R - 1 ↔ (un = m - 2 ∧ pin = u - 1) := by
  rw [h1, hR]
  have e1 : (m - 1) * u = (m - 2) * u + u := by rw [show m - 1 = (m - 2) + 1 by omega, Int.add_mul, Int.one_mul]
  constructor
  · intro h
    by_cases hun : un = m - 2
    · subst hun; exact ⟨rfl, by omega⟩
    · have d : un * u ≤ (m - 3) * u := Int.mul_le_mul_of_nonneg_right (by omega) (by omega)
      have e2 : (m - 2) * u = (m - 3) * u + u := by rw [show m - 2 = (m - 3) + 1 by omega, Int.add_mul, Int.one_mul]
      omega
  · rintro ⟨rfl, rfl⟩; omega
section
variable (id m u b c z s me o a l : Int)
theorem rsteps_loop (h : checkC id m u b c z s me o a l = 0) (at1 : Int) (n : Nat) (h0 : 0 ≤ at1) (h1 : at1 + n ≤ sizeC m u b c z s me o a l) (d : Nat) : ∀ (k j : Nat), j ≤ n → n - j = d → d + 21 ≤ k →
    revetmentref09_Steps.l0 k at1 n (stepsL m u at1 j) j id m u b c z s me o a l = some (stepsL m u at1 n) := by
  obtain ⟨g, hrow, _, _, gsz⟩ := good h
  have hZ := g.Z2; rw [← gsz] at hZ
  induction d with
  | zero =>
    intro k j hj hd hk
    obtain rfl : j = n := by omega
    obtain ⟨k, rfl⟩ : ∃ q, k = q + 1 := ⟨k - 1, by omega⟩
    simp only [revetmentref09_Steps.l0]
    rw [if_neg (by omega)]
  | succ d ih =>
    intro k j hj hd hk
    obtain ⟨k, rfl⟩ : ∃ q, k = q + 1 := ⟨k - 1, by omega⟩
    have hjn : (j : Int) < n := by omega
    have hb := place_bd g (lb := at1 + j) (by omega) (by rw [← gsz]; omega)
    have hlen := stepsL_len m u at1 j
    simp only [revetmentref09_Steps.l0]
    rw [if_pos hjn, wr (x := at1 + j) ⟨by omega, by omega⟩, rof_ok (h := h) (hk := by omega) (q := ⟨by omega, by omega⟩)]
    simp only [Option.bind_some, placeP]
    rw [if_pos (by omega), wr (x := m - 2) ⟨by have := g.m1; omega, by have := g.m2; omega⟩, wr (x := u - 1) ⟨by have := g.u1; omega, by have := g.u2; omega⟩, wr (x := (j : Int) + 1) ⟨by omega, by omega⟩]
    have hnx := next_row (x := at1 + j) (R := (m - 1) * u) (by have := g.R1; omega) (by omega)
    have hl := last_iff (m := m) (u := u) (R := (m - 1) * u) (lb := at1 + j) rfl g.u1 g.m1 hb.2.2.2.2.2.2.2.2.2.2.1 hb.2.2.2.2.2.1 hb.2.2.2.2.1 hb.2.2.2.2.2.2.1 hb.2.2.2.2.2.2.2.1
    have hs := stepsL_succ m u at1 j
    have ih' := ih k (j + 1) (by omega) (by omega) (by omega)
    rw [hs] at ih'
    unfold stepsAt at ih'
    have hcast : ((j + 1 : Nat) : Int) = (j : Int) + 1 := by push_cast; rfl
    rw [hcast] at ih'
    by_cases hlast : (at1 + (j : Int) + 1) % ((m - 1) * u) = 0
    · have h2 := hl.1 (hnx.2.1 hlast)
      rw [if_pos hlast] at ih'
      rw [if_pos h2.1, if_pos h2.2, if_neg (by have := g.m1; omega)]
      simp only [revetmentref07_Row.f, Option.bind_some, hrow]
      rw [if_pos (by simp; omega)]
      rw [tm hb.1, wr ⟨by have := hb.2.2.2.2.2.2.2.2.2.2.2.1; omega, by have := hb.2.2.2.2.2.2.2.2.2.2.2.2.1; omega⟩, wr ⟨by have := hb.2.2.2.2.2.2.2.2.2.2.2.2.2.1; omega, by have := hb.2.2.2.2.2.2.2.2.2.2.2.2.2.2; omega⟩]
      rw [List.append_assoc]
      exact ih'
    · rw [if_neg hlast] at ih'
      have h2 : ¬ ((at1 + (j : Int)) % ((m - 1) * u) / u = m - 2 ∧ (at1 + (j : Int)) % u = u - 1) := fun hh => hlast (hnx.2.2 (hl.2 hh))
      by_cases h3 : (at1 + (j : Int)) % ((m - 1) * u) / u = m - 2
      · rw [if_pos h3, if_neg (fun h4 => h2 ⟨h3, h4⟩)]; exact ih'
      · rw [if_neg h3]; exact ih'
theorem rsteps_ok (hs : checkC id m u b c z s me o a l = 0 → revetmentref07_Small.f id m u b c z s me o a l = some true) (at1 n1 : Int) (k : Nat) (hk : 500 ≤ k) : revetmentref09_Steps.f k id m u b c z s me o a l at1 n1 = some (stepsF id m u b c z s me o a l at1 n1) := by
  unfold revetmentref09_Steps.f stepsF
  rw [rright_eq]
  simp only [Option.bind_some]
  by_cases q : checkC id m u b c z s me o a l = 0 ∧ 0 ≤ at1 ∧ 0 ≤ n1 ∧ at1 + n1 ≤ sizeC m u b c z s me o a l
  · rw [if_pos q, if_pos (decide_eq_true q)]
    have hz := small_size q.1 (hs q.1)
    have hn : (n1.toNat : Int) = n1 := Int.toNat_of_nonneg q.2.2.1
    have := rsteps_loop id m u b c z s me o a l q.1 at1 n1.toNat q.2.1 (by rw [hn]; exact q.2.2.2) n1.toNat k 0 (by omega) (by omega) (by omega)
    rw [hn] at this
    simpa [stepsL] using this
  · rw [if_neg q, if_neg (by simpa using q)]
theorem same_loop (x : List S53) (hx : (x.length : Int) ≤ 100000) (d : Nat) : ∀ (k j : Nat), j ≤ x.length → x.length - j = d → d < k → revetmentref09_Same.l0 k x x j = some true := by
  induction d with
  | zero =>
    intro k j hj hd hk
    obtain ⟨k, rfl⟩ : ∃ q, k = q + 1 := ⟨k - 1, by omega⟩
    simp only [revetmentref09_Same.l0]
    rw [if_neg (by omega)]
  | succ d ih =>
    intro k j hj hd hk
    obtain ⟨k, rfl⟩ : ∃ q, k = q + 1 := ⟨k - 1, by omega⟩
    simp only [revetmentref09_Same.l0]
    rw [if_pos (by omega), if_pos (by omega), if_pos (by omega), wr ⟨by omega, by omega⟩]
    simp only [beq_self_eq_true, Bool.not_true, Bool.or_self, Bool.false_eq_true, if_false]
    have := ih k (j + 1) (by omega) (by omega) (by omega)
    push_cast at this
    exact this
theorem same_ok (x : List S53) (hx : (x.length : Int) ≤ 100000) (k : Nat) (hk : x.length < k) : revetmentref09_Same.f k x x = some true := by
  unfold revetmentref09_Same.f
  rw [if_pos rfl]
  exact same_loop x hx x.length k 0 (by omega) (by omega) hk
theorem stepsL_count (h : checkC id m u b c z s me o a l = 0) (at1 : Int) (h0 : 0 ≤ at1) (n : Nat) : ((stepsL m u at1 n).length : Int) = n + (at1 + n) / ((m - 1) * u) - at1 / ((m - 1) * u) := by
  obtain ⟨g, _, _, _, _⟩ := good h
  induction n with
  | zero => simp [stepsL]
  | succ n ih =>
    rw [stepsL_succ, List.length_append]
    have hnx := (next_row (x := at1 + n) (R := (m - 1) * u) (by have := g.R1; omega) (by omega)).1
    push_cast
    rw [← Int.add_assoc, hnx, ih]
    unfold stepsAt
    split <;> simp <;> omega
theorem count_ok (at1 n1 : Int) : plan_Count.f id m u b c z s me o a l at1 n1 = some ((stepsF id m u b c z s me o a l at1 n1).length : Int) := by
  unfold plan_Count.f stepsF
  rw [right_steps]
  simp only [Option.bind_some]
  by_cases q : checkC id m u b c z s me o a l = 0 ∧ 0 ≤ at1 ∧ 0 ≤ n1 ∧ at1 + n1 ≤ sizeC m u b c z s me o a l
  · rw [if_pos q, if_pos (decide_eq_true q)]
    obtain ⟨g, hrow, _, _, gsz⟩ := good q.1
    have hZ := g.Z2; rw [← gsz] at hZ
    have hn : (n1.toNat : Int) = n1 := Int.toNat_of_nonneg q.2.2.1
    have hcnt := stepsL_count id m u b c z s me o a l q.1 at1 q.2.1 n1.toNat
    rw [hn] at hcnt
    simp only [conf_Row.f, Option.bind_some, hrow]
    have hR := g.R1
    rw [if_neg (by omega), wr (x := at1 + n1) ⟨by omega, by omega⟩, td (by omega), td (by omega)]
    have e1 : (at1 + n1) / ((m - 1) * u) ≤ at1 + n1 := Int.ediv_le_self _ (by omega)
    have e2 : at1 / ((m - 1) * u) ≤ at1 := Int.ediv_le_self _ (by omega)
    have e3 : 0 ≤ (at1 + n1) / ((m - 1) * u) := Int.ediv_nonneg (by omega) (by omega)
    have e4 : 0 ≤ at1 / ((m - 1) * u) := Int.ediv_nonneg (by omega) (by omega)
    rw [wr (x := (at1 + n1) / _) ⟨by omega, by omega⟩, wr (x := at1 / _) ⟨by omega, by omega⟩, wr (x := n1 + _) ⟨by omega, by omega⟩, wr ⟨by omega, by omega⟩, hcnt]
  · rw [if_neg q, if_neg (by simpa using q)]; rfl
end
end Go.Proofs.Ytekihhbihnmakaa.Geo
