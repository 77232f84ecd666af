/- Plain laws: how many blocks can be read, as the reference has it. No program in sight. Conditions: as each says. -/
import Derived.Test.YtekihhbihnmakaaPAx40
import Derived.Test.YtekihhbihnmakaaPAx41
import Derived.Test.YtekihhbihnmakaaPAx9
import Derived.Test.YtekihhbihnmakaaRHowLaw
import Derived.Test.YtekihhbihnmakaaOfLaw
open Go.RowKit Go.Proofs.Ytekihhbihnmakaa Go.Proofs.Ytekihhbihnmakaa.PA Go.Proofs.YtekihhbihnmakaaW.PrintWords Go.Proofs.YtekihhbihnmakaaW.PrintLast
set_option linter.unusedVariables false
set_option linter.unusedSimpArgs false
namespace Go.Proofs.Ytekihhbihnmakaa.Geo
section
variable (id m u b c z s me o a l : Int)
theorem rcan_whole (h : checkC id m u b c z s me o a l = 0) (hv : List Int) (lost n : Int) (n1 : n ≤ sizeC m u b c z s me o a l) (d : Nat) : ∀ (k : Nat) (st : Int), 0 ≤ st → st ≤ n → n - st = d → d < k →
    ∃ r, revetmentref16_Can.l1 k hv lost n st id m u b c z s me o a l = some r ∧ (r = true ↔ ∀ q : Int, st ≤ q → (q + 1) * ((m - 1) * u) < n → wholeF id m u b c z s me o a l hv lost q = true) := by
  obtain ⟨g, hr, hs, hd, hz⟩ := good h
  obtain ⟨m1, m2, u1, u2, c1, c2, S1, S2, R1, R2, uR, hR, Su, Z2, Z1⟩ := g
  have far : ∀ q : Int, n ≤ q + 1 → 0 ≤ q → ¬ (q + 1) * ((m - 1) * u) < n := fun q h1 h2 h3 => by
    have : (q + 1) * 1 ≤ (q + 1) * ((m - 1) * u) := Int.mul_le_mul_of_nonneg_left (by omega) (by omega)
    omega
  have row : ∀ q : Int, 0 ≤ q → q ≤ n → 0 ≤ (q + 1) * ((m - 1) * u) ∧ (q + 1) * ((m - 1) * u) ≤ 3932161 * 960 := fun q h1 h2 => ⟨Int.mul_nonneg (by omega) (by omega), Int.mul_le_mul (by omega) R2 (by omega) (by omega)⟩
  induction d with
  | zero =>
    intro k st v0 v1 hd hk
    obtain ⟨k, rfl⟩ : ∃ q, k = q + 1 := ⟨k - 1, by omega⟩
    obtain ⟨x1, x2⟩ := row st v0 v1
    simp only [revetmentref16_Can.l1, revetmentref07_Row.f, Option.bind_some, hr]
    rw [wr (x := st + 1) ⟨by omega, by omega⟩, wr (x := (st + 1) * ((m - 1) * u)) ⟨by omega, by omega⟩, if_neg (far st (by omega) v0)]
    exact ⟨true, rfl, by simp; intro q q0 q1; exact absurd q1 (far q (by omega) (by omega))⟩
  | succ d ih =>
    intro k st v0 v1 hd hk
    obtain ⟨k, rfl⟩ : ∃ q, k = q + 1 := ⟨k - 1, by omega⟩
    obtain ⟨x1, x2⟩ := row st v0 v1
    simp only [revetmentref16_Can.l1, revetmentref07_Row.f, Option.bind_some, hr]
    rw [wr (x := st + 1) ⟨by omega, by omega⟩, wr (x := (st + 1) * ((m - 1) * u)) ⟨by omega, by omega⟩]
    by_cases e1 : (st + 1) * ((m - 1) * u) < n
    · rw [if_pos e1, rwhole_ok]
      simp only [Option.bind_some]
      by_cases e2 : wholeF id m u b c z s me o a l hv lost st = true
      · rw [if_pos e2]
        obtain ⟨r, hr1, hr2⟩ := ih k (st + 1) (by omega) (by omega) (by omega) (by omega)
        refine ⟨r, hr1, hr2.trans ⟨fun H q q0 q1 => ?_, fun H q q0 q1 => H q (by omega) q1⟩⟩
        by_cases e : q = st
        · rw [e]; exact e2
        · exact H q (by omega) q1
      · rw [if_neg e2]
        exact ⟨false, rfl, by simp; exact ⟨st, Int.le_refl _, e1, by simpa using e2⟩⟩
    · rw [if_neg e1]
      refine ⟨true, rfl, ⟨fun _ q q0 q1 => ?_, fun _ => rfl⟩⟩
      have : (st + 1) * ((m - 1) * u) ≤ (q + 1) * ((m - 1) * u) := Int.mul_le_mul_of_nonneg_right (by omega) (by omega)
      omega
theorem rcan_loop (h : checkC id m u b c z s me o a l = 0) (hv : List Int) (lost : Int) (pars : List S71) (hp : (pars.length : Int) ≤ 9223372036854775807) (hw : ∀ x ∈ pars, x.f0 ≤ 9223372036854775807) (n : Int) (n1 : n ≤ sizeC m u b c z s me o a l) (n0 : 0 ≤ n) (d : Nat) : ∀ (k : Nat) (lb : Int), 0 ≤ lb → lb ≤ n → n - lb = d → d + n.toNat + pars.length + 1100 < k →
    ∃ r, revetmentref16_Can.l0 k hv lost pars n lb id m u b c z s me o a l = some r ∧ (r = true ↔ (∀ q : Int, lb ≤ q → q < n → (howF id m u b c z s me o a l hv lost pars q).1 ≠ 0) ∧ (∀ q : Int, 0 ≤ q → (q + 1) * ((m - 1) * u) < n → wholeF id m u b c z s me o a l hv lost q = true)) := by
  obtain ⟨g, hr, hs, hd, hz⟩ := good h
  obtain ⟨m1, m2, u1, u2, c1, c2, S1, S2, R1, R2, uR, hR, Su, Z2, Z1⟩ := g
  induction d with
  | zero =>
    intro k lb v0 v1 hd hk
    obtain ⟨k, rfl⟩ : ∃ q, k = q + 1 := ⟨k - 1, by omega⟩
    simp only [revetmentref16_Can.l0]
    rw [if_neg (by omega)]
    obtain ⟨r, hr1, hr2⟩ := rcan_whole id m u b c z s me o a l h hv lost n n1 n.toNat k 0 (by omega) n0 (by omega) (by omega)
    exact ⟨r, hr1, hr2.trans ⟨fun H => ⟨fun q q0 q1 => by omega, H⟩, fun H => H.2⟩⟩
  | succ d ih =>
    intro k lb v0 v1 hd hk
    obtain ⟨k, rfl⟩ : ∃ q, k = q + 1 := ⟨k - 1, by omega⟩
    simp only [revetmentref16_Can.l0]
    rw [if_pos (by omega), rhow_ok (hp := hp) (hw := hw) (hk := by omega), wr (x := lb + 1) ⟨by omega, by omega⟩]
    simp only [Option.bind_some]
    by_cases e1 : (howF id m u b c z s me o a l hv lost pars lb).1 = 0
    · rw [if_pos e1]
      exact ⟨false, rfl, by simp; intro H; exact absurd e1 (H lb (Int.le_refl _) (by omega))⟩
    · rw [if_neg e1]
      obtain ⟨r, hr1, hr2⟩ := ih k (lb + 1) (by omega) (by omega) (by omega) (by omega)
      refine ⟨r, hr1, hr2.trans ⟨fun H => ⟨fun q q0 q1 => ?_, H.2⟩, fun H => ⟨fun q q0 q1 => H.1 q (by omega) q1, H.2⟩⟩⟩
      by_cases e : q = lb
      · rw [e]; exact e1
      · exact H.1 q (by omega) q1
theorem rcan_ok (h : checkC id m u b c z s me o a l = 0) (hv : List Int) (lost : Int) (pars : List S71) (hp : (pars.length : Int) ≤ 9223372036854775807) (hw : ∀ x ∈ pars, x.f0 ≤ 9223372036854775807) (n : Int) (n1 : n ≤ sizeC m u b c z s me o a l) (n0 : 0 ≤ n) (k : Nat) (hk : n.toNat + n.toNat + pars.length + 1100 < k) :
    ∃ r, revetmentref16_Can.f k id m u b c z s me o a l hv lost pars n = some r ∧ (r = true ↔ ∀ q : Int, 0 ≤ q → q < n → readB id m u b c z s me o a l hv lost pars q = true) := by
  unfold revetmentref16_Can.f
  obtain ⟨g, hr, hs, hd, hz⟩ := good h
  have R1 := g.R1
  obtain ⟨r, hr1, hr2⟩ := rcan_loop id m u b c z s me o a l h hv lost pars hp hw n n1 n0 n.toNat k 0 (by omega) n0 (by omega) (by omega)
  refine ⟨r, hr1, hr2.trans ⟨fun H q q0 q1 => ?_, fun H => ⟨fun q q0 q1 => ?_, fun q q0 q1 => ?_⟩⟩⟩
  · unfold readB
    simp only [Bool.and_eq_true, Bool.or_eq_true, decide_eq_true_eq]
    refine ⟨H.1 q q0 q1, ?_⟩
    by_cases e1 : q % ((m - 1) * u) = 0
    · by_cases e2 : q = 0
      · exact .inr (.inl e2)
      · refine .inr (.inr (H.2 _ ?_ ?_))
        · have a3 := Int.mul_ediv_add_emod q ((m - 1) * u)
          have a4 : 0 ≤ q / ((m - 1) * u) := Int.ediv_nonneg q0 (by omega)
          by_cases e3 : q / ((m - 1) * u) = 0
          · rw [e3, e1] at a3; simp at a3; omega
          · omega
        · have a3 := Int.mul_ediv_add_emod q ((m - 1) * u)
          rw [Int.sub_add_cancel, Int.mul_comm]; omega
    · exact .inl e1
  · have := H q q0 q1
    unfold readB at this
    simp only [Bool.and_eq_true, decide_eq_true_eq] at this
    exact this.1
  · have x1 : (q + 1) * 1 ≤ (q + 1) * ((m - 1) * u) := Int.mul_le_mul_of_nonneg_left (by omega) (by omega)
    have := H ((q + 1) * ((m - 1) * u)) (by omega) q1
    unfold readB at this
    simp only [Bool.and_eq_true, Bool.or_eq_true, decide_eq_true_eq] at this
    rw [Int.mul_emod_left, Int.mul_ediv_cancel _ (by omega)] at this
    rcases this.2 with h1 | h1 | h1
    · exact absurd rfl h1
    · omega
    · rw [show q + 1 - 1 = q by omega] at h1; exact h1
theorem rof_prefix (h : checkC id m u b c z s me o a l = 0) (hv : List Int) (hb : rightB2 id m u b c z s me o a l hv = true) (lost : Int) (pars : List S71) (hp : (pars.length : Int) ≤ 9223372036854775807) (hw : ∀ x ∈ pars, x.f0 ≤ 9223372036854775807) (d : Nat) : ∀ (k : Nat) (n : Int), n ≤ sizeC m u b c z s me o a l → prefixOf id m u b c z s me o a l hv lost pars ≤ n → n - prefixOf id m u b c z s me o a l hv lost pars = d → d + 7864330 + pars.length + 1100 < k →
    revetmentref16_Of.l0 k hv lost pars n id m u b c z s me o a l = some (prefixOf id m u b c z s me o a l hv lost pars) := by
  obtain ⟨g, hr, hs, hd, hz⟩ := good h
  have Z2 := g.Z2; rw [← hz] at Z2
  have Z1 := g.Z1; rw [← hz] at Z1
  have R1 := g.R1
  have sp := cntB_spec (readB id m u b c z s me o a l hv lost pars) (sizeC m u b c z s me o a l).toNat 0
  have e0 : prefixOf id m u b c z s me o a l hv lost pars = cntB (readB id m u b c z s me o a l hv lost pars) (sizeC m u b c z s me o a l).toNat 0 := by unfold prefixOf; rw [if_pos hb]
  rw [← e0] at sp
  obtain ⟨s1, s2, s3, s4⟩ := sp
  induction d with
  | zero =>
    intro k n n1 hle hd hk
    obtain ⟨k, rfl⟩ : ∃ q, k = q + 1 := ⟨k - 1, by omega⟩
    have en : n = prefixOf id m u b c z s me o a l hv lost pars := by omega
    simp only [revetmentref16_Of.l0]
    by_cases e1 : n > 0
    · rw [if_pos e1]
      obtain ⟨r, hr1, hr2⟩ := rcan_ok id m u b c z s me o a l h hv lost pars hp hw n n1 (by omega) k (by omega)
      rw [hr1]
      simp only [Option.bind_some]
      rw [if_pos (hr2.2 (fun q q0 q1 => s3 q q0 (by omega))), en]
    · rw [if_neg e1]; congr 1; omega
  | succ d ih =>
    intro k n n1 hle hd hk
    obtain ⟨k, rfl⟩ : ∃ q, k = q + 1 := ⟨k - 1, by omega⟩
    simp only [revetmentref16_Of.l0]
    rw [if_pos (by omega), wr (x := n - 1) ⟨by omega, by omega⟩]
    obtain ⟨r, hr1, hr2⟩ := rcan_ok id m u b c z s me o a l h hv lost pars hp hw n n1 (by omega) k (by omega)
    rw [hr1]
    simp only [Option.bind_some]
    rw [if_neg (fun hr3 => by
      have := hr2.1 hr3 (prefixOf id m u b c z s me o a l hv lost pars) s1 (by omega)
      rw [s4 (by omega)] at this; cases this)]
    exact ih k (n - 1) (by omega) (by omega) (by omega) (by omega)
theorem rofs_ok (hv : List Int) (lost : Int) (pars : List S71) (hp : (pars.length : Int) ≤ 9223372036854775807) (hw : ∀ x ∈ pars, x.f0 ≤ 9223372036854775807) (k : Nat) (hk : pars.length + 20000000 ≤ k) : revetmentref16_Of.f k id m u b c z s me o a l hv lost pars = some (prefixOf id m u b c z s me o a l hv lost pars) := by
  unfold revetmentref16_Of.f
  rw [rright2_eq]
  simp only [Option.bind_some]
  by_cases hb : rightB2 id m u b c z s me o a l hv = true
  · obtain ⟨h, hl⟩ := rightB2_out hb
    obtain ⟨g, hr, hs, hd, hz⟩ := good h
    have Z2 := g.Z2; rw [← hz] at Z2
    have Z1 := g.Z1; rw [← hz] at Z1
    have R1 := g.R1
    have e0 : prefixOf id m u b c z s me o a l hv lost pars = cntB (readB id m u b c z s me o a l hv lost pars) (sizeC m u b c z s me o a l).toNat 0 := by unfold prefixOf; rw [if_pos hb]
    have sp := cntB_spec (readB id m u b c z s me o a l hv lost pars) (sizeC m u b c z s me o a l).toNat 0
    rw [← e0] at sp
    rw [if_pos hb]
    simp only [revetmentref07_Size.f, Option.bind_some]
    exact rof_prefix id m u b c z s me o a l h hv hb lost pars hp hw (sizeC m u b c z s me o a l - prefixOf id m u b c z s me o a l hv lost pars).toNat k (sizeC m u b c z s me o a l) (Int.le_refl _) (by omega) (by omega) (by omega)
  · rw [if_neg hb]; unfold prefixOf; rw [if_neg hb]
end
end Go.Proofs.Ytekihhbihnmakaa.Geo
