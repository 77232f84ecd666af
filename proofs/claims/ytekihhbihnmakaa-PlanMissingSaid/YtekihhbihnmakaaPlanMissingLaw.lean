/- Plain law: what lacks of any members' zones, as the reference has it. No program in sight. No condition. -/
import Derived.Test.YtekihhbihnmakaaPAx44
import Derived.Test.YtekihhbihnmakaaPAx45
import Derived.Test.YtekihhbihnmakaaPAx46
import Derived.Test.YtekihhbihnmakaaPAx9
import Derived.Test.YtekihhbihnmakaaSmallLaw
import Derived.Test.YtekihhbihnmakaaStepsLaw
import Derived.Test.YtekihhbihnmakaaNeedLaw
import Derived.Test.YtekihhbihnmakaaBackLaw
open Go.RowKit Go.Proofs.Ytekihhbihnmakaa Go.Proofs.Ytekihhbihnmakaa.PA Go.Proofs.YtekihhbihnmakaaW.PrintWords Go.Proofs.YtekihhbihnmakaaW.PrintLast
set_option linter.unusedVariables false
set_option linter.unusedSimpArgs false
namespace Go.Proofs.Ytekihhbihnmakaa.Geo
/-- What block ph of member mm gives. -/
def missAt (m u R n : Int) (fr : List Int) (ph mm : Int) : List S53 := if rd fr mm ≤ ph ∧ ph < needP m u R mm n then [⟨!(backP m u R mm ph).2, mm, ph, (backP m u R mm ph).1, 1⟩] else []
def missRow (m u R n : Int) (fr : List Int) (ph : Int) (i : Nat) : List S53 := (List.range i).flatMap (fun (j : Nat) => missAt m u R n fr ph j)
def missTo (m u R n : Int) (fr : List Int) (ph : Nat) : List S53 := (List.range ph).flatMap (fun (q : Nat) => missRow m u R n fr q m.toNat)
theorem missRow_succ (m u R n : Int) (fr : List Int) (ph : Int) (i : Nat) : missRow m u R n fr ph (i + 1) = missRow m u R n fr ph i ++ missAt m u R n fr ph i := by
  simp [missRow, List.range_succ, List.flatMap_append]
theorem missTo_succ (m u R n : Int) (fr : List Int) (ph : Nat) : missTo m u R n fr (ph + 1) = missTo m u R n fr ph ++ missRow m u R n fr ph m.toNat := by
  simp [missTo, List.range_succ, List.flatMap_append]
theorem missRow_len (m u R n : Int) (fr : List Int) (ph : Int) (i : Nat) : (missRow m u R n fr ph i).length ≤ i := by
  induction i with
  | zero => simp [missRow]
  | succ i ih =>
    rw [missRow_succ, List.length_append]
    have : (missAt m u R n fr ph i).length ≤ 1 := by unfold missAt; split <;> simp
    omega
theorem missTo_len (m u R n : Int) (hm : m ≤ 16) (fr : List Int) (ph : Nat) : (missTo m u R n fr ph).length ≤ 16 * ph := by
  induction ph with
  | zero => simp [missTo]
  | succ i ih =>
    rw [missTo_succ, List.length_append]
    have := missRow_len m u R n fr i m.toNat
    omega
section
variable (id m u b c z s me o a l : Int)
theorem miss_row (h : checkC id m u b c z s me o a l = 0) (n : Int) (n0 : 0 ≤ n) (n1 : n ≤ sizeC m u b c z s me o a l) (fr : List Int) (hl : (fr.length : Int) = m) (ph K0 : Nat) (hK : 40 ≤ K0) (hph : (ph : Int) < c) (r : List S53)
    (next : ∀ k, K0 ≤ k → plan_Missing.l0 k fr n (missTo m u ((m - 1) * u) n fr (ph + 1)) c ((ph : Int) + 1) id m u b c z s me o a l = some r) (d : Nat) :
    ∀ (k i : Nat), (i : Int) ≤ m → m - i = d → d + K0 < k → plan_Missing.l1 k fr n (missTo m u ((m - 1) * u) n fr ph ++ missRow m u ((m - 1) * u) n fr ph i) ph c ph m i id m u b c z s me o a l = some r := by
  obtain ⟨⟨m1, m2, u1, u2, c1, c2, S1, S2, R1, R2, uR, hR, Su, Z2, Z1⟩, hr, hs, hd, hz⟩ := good h
  have hin : inP (sizeC m u b c z s me o a l) n = n := by unfold inP; rw [if_neg (by omega), if_pos n1]
  have len1 := missTo_len m u ((m - 1) * u) n m2 fr ph
  induction d with
  | zero =>
    intro k i hi hd hk
    obtain ⟨k, rfl⟩ : ∃ q, k = q + 1 := ⟨k - 1, by omega⟩
    simp only [plan_Missing.l1]
    rw [if_neg (by omega), wr ⟨by omega, by omega⟩, show i = m.toNat by omega, ← missTo_succ]
    exact next k (by omega)
  | succ d ih =>
    intro k i hi hd hk
    obtain ⟨k, rfl⟩ : ∃ q, k = q + 1 := ⟨k - 1, by omega⟩
    have len2 := missRow_len m u ((m - 1) * u) n fr ph i
    have ih' := ih k (i + 1) (by omega) (by omega) (by omega)
    rw [missRow_succ, ← List.append_assoc] at ih'
    unfold missAt at ih'
    push_cast at ih'
    simp only [plan_Missing.l1]
    rw [if_pos (by omega), if_pos (by omega), if_pos (by omega), wr ⟨by omega, by omega⟩]
    by_cases e1 : (ph : Int) < rd fr i
    · rw [if_pos e1]
      rw [if_neg (fun q => by have := q.1; omega), List.append_nil] at ih'
      exact ih'
    · rw [if_neg e1, need_ok (h := h) (q := ⟨by omega, by omega⟩), hin]
      simp only [Option.bind_some]
      by_cases e2 : (ph : Int) ≥ needP m u ((m - 1) * u) i n
      · rw [if_pos e2]
        rw [if_neg (fun q => by have := q.2; omega), List.append_nil] at ih'
        exact ih'
      · rw [if_neg e2, back_ok (h := h) (hk := by omega) (q := ⟨by omega, by omega, by omega, by omega⟩)]
        simp only [Option.bind_some]
        rw [if_pos (by rw [List.length_append]; omega)]
        rw [if_pos ⟨by omega, by omega⟩] at ih'
        exact ih'
theorem miss_all (h : checkC id m u b c z s me o a l = 0) (n : Int) (n0 : 0 ≤ n) (n1 : n ≤ sizeC m u b c z s me o a l) (fr : List Int) (hl : (fr.length : Int) = m) (d : Nat) :
    ∀ (k ph : Nat), (ph : Int) ≤ c → c - ph = d → d * 20 + 60 < k → plan_Missing.l0 k fr n (missTo m u ((m - 1) * u) n fr ph) c ph id m u b c z s me o a l = some (missTo m u ((m - 1) * u) n fr c.toNat) := by
  obtain ⟨g, hr, hs, hd, hz⟩ := good h
  have m1 := g.m1; have m2 := g.m2; have c2 := g.c2
  induction d with
  | zero =>
    intro k ph hp hd hk
    obtain ⟨k, rfl⟩ : ∃ q, k = q + 1 := ⟨k - 1, by omega⟩
    simp only [plan_Missing.l0]
    rw [if_neg (by omega), show c.toNat = ph by omega]
  | succ d ih =>
    intro k ph hp hd hk
    obtain ⟨k, rfl⟩ : ∃ q, k = q + 1 := ⟨k - 1, by omega⟩
    simp only [plan_Missing.l0]
    rw [if_pos (by omega)]
    obtain ⟨K0, hK0⟩ : ∃ K0, K0 = d * 20 + 61 := ⟨_, rfl⟩
    have := miss_row id m u b c z s me o a l h n n0 n1 fr hl ph K0 (by omega) (by omega) (missTo m u ((m - 1) * u) n fr c.toNat) (fun k' hk' => by
      have := ih k' (ph + 1) (by omega) (by omega) (by omega)
      push_cast at this
      exact this) m.toNat k 0 (by omega) (by omega) (by omega)
    simpa [missRow] using this
theorem rmiss_row (h : checkC id m u b c z s me o a l = 0) (n : Int) (n0 : 0 ≤ n) (n1 : n ≤ sizeC m u b c z s me o a l) (fr : List Int) (hl : (fr.length : Int) = m) (ph K0 : Nat) (hK : 2040 ≤ K0) (hph : (ph : Int) < c) (r : List S53)
    (next : ∀ k, K0 ≤ k → revetmentref09_Missing.l0 k fr n (missTo m u ((m - 1) * u) n fr (ph + 1)) ((ph : Int) + 1) id m u b c z s me o a l = some r) (d : Nat) :
    ∀ (k i : Nat), (i : Int) ≤ m → m - i = d → d + K0 < k → revetmentref09_Missing.l1 k fr n (missTo m u ((m - 1) * u) n fr ph ++ missRow m u ((m - 1) * u) n fr ph i) ph i id m u b c z s me o a l = some r := by
  obtain ⟨⟨m1, m2, u1, u2, c1, c2, S1, S2, R1, R2, uR, hR, Su, Z2, Z1⟩, hr, hs, hd, hz⟩ := good h
  have hin : inP (sizeC m u b c z s me o a l) n = n := by unfold inP; rw [if_neg (by omega), if_pos n1]
  have len1 := missTo_len m u ((m - 1) * u) n m2 fr ph
  induction d with
  | zero =>
    intro k i hi hd hk
    obtain ⟨k, rfl⟩ : ∃ q, k = q + 1 := ⟨k - 1, by omega⟩
    simp only [revetmentref09_Missing.l1]
    rw [if_neg (by omega), wr ⟨by omega, by omega⟩, show i = m.toNat by omega, ← missTo_succ]
    exact next k (by omega)
  | succ d ih =>
    intro k i hi hd hk
    obtain ⟨k, rfl⟩ : ∃ q, k = q + 1 := ⟨k - 1, by omega⟩
    have len2 := missRow_len m u ((m - 1) * u) n fr ph i
    have ih' := ih k (i + 1) (by omega) (by omega) (by omega)
    rw [missRow_succ, ← List.append_assoc] at ih'
    unfold missAt at ih'
    push_cast at ih'
    simp only [revetmentref09_Missing.l1]
    rw [if_pos (by omega), rback_ok (h := h) (hk := by omega) (q := ⟨by omega, by omega, by omega, by omega⟩)]
    simp only [Option.bind_some]
    rw [if_pos (by omega), if_pos (by omega), wr ⟨by omega, by omega⟩]
    by_cases e1 : (ph : Int) ≥ rd fr i
    · rw [if_pos e1, rneed_ok (h := h) (hk := by omega) (q := ⟨by omega, by omega⟩), hin]
      simp only [Option.bind_some]
      by_cases e2 : (ph : Int) < needP m u ((m - 1) * u) i n
      · rw [if_pos e2, if_pos (by rw [List.length_append]; omega)]
        rw [if_pos ⟨by omega, by omega⟩] at ih'
        exact ih'
      · rw [if_neg e2]
        rw [if_neg (fun q => by have := q.2; omega), List.append_nil] at ih'
        exact ih'
    · rw [if_neg e1]
      rw [if_neg (fun q => by have := q.1; omega), List.append_nil] at ih'
      exact ih'
theorem rmiss_all (h : checkC id m u b c z s me o a l = 0) (n : Int) (n0 : 0 ≤ n) (n1 : n ≤ sizeC m u b c z s me o a l) (fr : List Int) (hl : (fr.length : Int) = m) (d : Nat) :
    ∀ (k ph : Nat), (ph : Int) ≤ c → c - ph = d → d * 20 + 2060 < k → revetmentref09_Missing.l0 k fr n (missTo m u ((m - 1) * u) n fr ph) ph id m u b c z s me o a l = some (missTo m u ((m - 1) * u) n fr c.toNat) := by
  obtain ⟨g, hr, hs, hd, hz⟩ := good h
  have m1 := g.m1; have m2 := g.m2; have c2 := g.c2
  induction d with
  | zero =>
    intro k ph hp hd hk
    obtain ⟨k, rfl⟩ : ∃ q, k = q + 1 := ⟨k - 1, by omega⟩
    simp only [revetmentref09_Missing.l0]
    rw [if_neg (by omega), show c.toNat = ph by omega]
  | succ d ih =>
    intro k ph hp hd hk
    obtain ⟨k, rfl⟩ : ∃ q, k = q + 1 := ⟨k - 1, by omega⟩
    simp only [revetmentref09_Missing.l0]
    rw [if_pos (by omega)]
    obtain ⟨K0, hK0⟩ : ∃ K0, K0 = d * 20 + 2061 := ⟨_, rfl⟩
    have := rmiss_row id m u b c z s me o a l h n n0 n1 fr hl ph K0 (by omega) (by omega) (missTo m u ((m - 1) * u) n fr c.toNat) (fun k' hk' => by
      have := ih k' (ph + 1) (by omega) (by omega) (by omega)
      push_cast at this
      exact this) m.toNat k 0 (by omega) (by omega) (by omega)
    simpa [missRow] using this
theorem missing_both (k : Nat) (hk : 90000 ≤ k) (fr : List Int) (n1 : Int) : ∃ x : List S53, x.length ≤ 70000 ∧ plan_Missing.f k id m u b c z s me o a l fr n1 = some x ∧ revetmentref09_Missing.f k id m u b c z s me o a l fr n1 = some x := by
  obtain ⟨k, rfl⟩ : ∃ j, k = j + 1 := ⟨k - 1, by omega⟩
  have nil : ∃ x : List S53, x.length ≤ 70000 ∧ plan_Missing.j0 (k + 1) fr n1 true id m u b c z s me o a l = some x ∧ revetmentref09_Missing.j0 (k + 1) fr n1 true id m u b c z s me o a l = some x :=
    ⟨[], by simp, by simp only [plan_Missing.j0]; rfl, by simp only [revetmentref09_Missing.j0]; rfl⟩
  unfold plan_Missing.f revetmentref09_Missing.f
  rw [right_steps, rright_eq]
  simp only [Option.bind_some]
  by_cases q : checkC id m u b c z s me o a l = 0 ∧ (0 : Int) ≤ 0 ∧ 0 ≤ n1 ∧ 0 + n1 ≤ sizeC m u b c z s me o a l
  · rw [if_pos (decide_eq_true q), if_pos (decide_eq_true q)]
    by_cases hl : (fr.length : Int) = m
    · have e : ((fr.length : Int) != m) = false := by simp [hl]
      rw [e]
      obtain ⟨g, hr, hs, hd, hz⟩ := good q.1
      have m2 := g.m2; have c1 := g.c1; have c2 := g.c2
      refine ⟨missTo m u ((m - 1) * u) n1 fr c.toNat, ?_, ?_, ?_⟩
      · have := missTo_len m u ((m - 1) * u) n1 m2 fr c.toNat; omega
      · simp only [plan_Missing.j0, Bool.false_eq_true, if_false]
        have := miss_all id m u b c z s me o a l q.1 n1 q.2.2.1 (by omega) fr hl c.toNat k 0 (by omega) (by omega) (by omega)
        simpa [missTo] using this
      · simp only [revetmentref09_Missing.j0, Bool.false_eq_true, if_false]
        have := rmiss_all id m u b c z s me o a l q.1 n1 q.2.2.1 (by omega) fr hl c.toNat k 0 (by omega) (by omega) (by omega)
        simpa [missTo] using this
    · have e : ((fr.length : Int) != m) = true := by simp [hl]
      rw [e]; exact nil
  · rw [if_neg (by simpa using q), if_neg (by simpa using q)]
    exact nil
/-- The law: what lacks. -/
theorem planMissing_true (k : Nat) (hk : 100000 ≤ k) (fr : List Int) (n1 : Int) : revetmentlaw09_PlanMissing.f k id m u b c z s me o a l fr n1 = some true := by
  obtain ⟨k, rfl⟩ : ∃ j, k = j + 1 := ⟨k - 1, by omega⟩
  have main : ∀ bb, revetmentlaw09_PlanMissing.j0 (k + 1) fr n1 bb id m u b c z s me o a l = some true := by
    intro bb
    cases bb with
    | true => simp only [revetmentlaw09_PlanMissing.j0, if_true]; rw [live9_eq]; rfl
    | false =>
      obtain ⟨x, hx, e1, e2⟩ := missing_both id m u b c z s me o a l k (by omega) fr n1
      simp only [revetmentlaw09_PlanMissing.j0, Bool.false_eq_true, if_false]
      rw [e1, e2]
      simp only [Option.bind_some]
      rw [same_ok (hx := by omega) (hk := by omega)]
      simp only [Option.bind_some, if_true]
      rw [live9_eq]; rfl
  unfold revetmentlaw09_PlanMissing.f revetmentref07_Check.f
  simp only [Option.bind_some]
  by_cases h : checkC id m u b c z s me o a l = 0
  · rw [if_pos h]
    obtain ⟨r, hr⟩ := small_some id m u b c z s me o a l
    rw [hr]
    simp only [Option.bind_some]
    cases r with
    | true => rw [if_pos rfl]; exact main _
    | false => rw [if_neg (by decide)]; exact main _
  · rw [if_neg h]; exact main _
end
end Go.Proofs.Ytekihhbihnmakaa.Geo
