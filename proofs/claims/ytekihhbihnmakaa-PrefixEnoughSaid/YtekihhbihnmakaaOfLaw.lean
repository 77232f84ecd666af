/- Plain laws: how many blocks can be read, as the program has it. No program in sight. Conditions: as each says. -/

import Derived.Test.YtekihhbihnmakaaHowLaw
open Go.RowKit Go.Proofs.Ytekihhbihnmakaa Go.Proofs.Ytekihhbihnmakaa.PA Go.Proofs.YtekihhbihnmakaaW.PrintWords Go.Proofs.YtekihhbihnmakaaW.PrintLast
set_option linter.unusedVariables false
set_option linter.unusedSimpArgs false
namespace Go.Proofs.Ytekihhbihnmakaa.Geo
/-- From i on, at most d rounds: as long as f says so. -/
def cntB (f : Int → Bool) : Nat → Int → Int
  | 0, i => i
  | d + 1, i => if f i = true then cntB f d (i + 1) else i
theorem cntB_spec (f : Int → Bool) (d : Nat) : ∀ i : Int, i ≤ cntB f d i ∧ cntB f d i ≤ i + d ∧ (∀ j, i ≤ j → j < cntB f d i → f j = true) ∧ (cntB f d i < i + d → f (cntB f d i) = false) := by
  induction d with
  | zero => intro i; exact ⟨Int.le_refl _, by simp [cntB], by intro j h1 h2; simp [cntB] at h2; omega, by simp [cntB]⟩
  | succ d ih =>
    intro i
    simp only [cntB]
    by_cases h : f i = true
    · rw [if_pos h]
      obtain ⟨h1, h2, h3, h4⟩ := ih (i + 1)
      refine ⟨by omega, by omega, fun j j0 j1 => ?_, fun hh => h4 (by omega)⟩
      by_cases e : j = i
      · rw [e]; exact h
      · exact h3 j (by omega) j1
    · rw [if_neg h]
      exact ⟨Int.le_refl _, by omega, fun j j0 j1 => by omega, fun _ => by simpa using h⟩
theorem cntB_mono {f g : Int → Bool} (d : Nat) (i : Int) (h : ∀ j, i ≤ j → f j = true → g j = true) : cntB f d i ≤ cntB g d i := by
  obtain ⟨a1, a2, a3, a4⟩ := cntB_spec f d i
  obtain ⟨b1, b2, b3, b4⟩ := cntB_spec g d i
  rcases Int.lt_or_le (cntB g d i) (cntB f d i) with hlt | hle
  · have e1 := b4 (by omega)
    rw [h _ b1 (a3 _ b1 hlt)] at e1; cases e1
  · exact hle
section
variable (id m u b c z s me o a l : Int)
/-- Can block lb be read, behind those ahead of it? -/
def readB (hv : List Int) (lost : Int) (pars : List S71) (lb : Int) : Bool := decide ((howF id m u b c z s me o a l hv lost pars lb).1 ≠ 0) && (decide (lb % ((m - 1) * u) ≠ 0) || (decide (lb = 0) || wholeF id m u b c z s me o a l hv lost (lb / ((m - 1) * u) - 1)))
def prefixOf (hv : List Int) (lost : Int) (pars : List S71) : Int := if rightB2 id m u b c z s me o a l hv = true then cntB (readB id m u b c z s me o a l hv lost pars) (sizeC m u b c z s me o a l).toNat 0 else 0
end
end Go.Proofs.Ytekihhbihnmakaa.Geo
