/- Tables as results of package lzone: what they are; a zone looked up, with its contract. -/
import Derived.Test.YtgckcaoncjhgbaaLzRightC
import Derived.Test.YtgckcaoncjhgbaaLzAt
import Derived.Test.YtgckcaoncjhgbaaLzOpened
import Derived.Test.YtgckcaoncjhgbaaLzWith
namespace Go.Proofs.Ytgckcaoncjhgbaa
open Go.RowKit Go.Proofs.Ytgckcaoncjhgbaa.PL Go.Proofs.YtgckcaoncjhgbaaW.PrintWords Go.Proofs.YtgckcaoncjhgbaaW.PrintLast
set_option linter.unusedVariables false
set_option linter.unusedSimpArgs false
/-- The value of a table that is an answer: none, or these zones, in a row of its own. -/
def TabR (id m u b c z s me o a l : Int) (r : Option (List S59)) (base : Nat) (W : World) (v : Value) : Prop :=
  (r = none ∧ v = tabV 0 0 0 0 0 0 0 0 0 0 0 (.slice none 0 0)) ∨ ∃ (L : List S59) (y : Value), r = some L ∧ v = tabV id m u b c z s me o a l y ∧ Kd.R k59 59 W base (fun _ => True) y L
theorem atZ_any (id m u b c z s me o a l : Int) (A0 : Option Addr) (c0 : Nat) (L : List S59) (i : Int) (w : World) (hr0 : Kd.C k59 w A0 L.length L) (hc0 : L.length ≤ c0) :
    Calls Try.prog 101 #[tabV id m u b c z s me o a l (.slice A0 L.length c0), .int .i64 i] w fun e w' => e = .returned (.tuple #[zoV (atZ id m u b c z s me o a l L i).1, .int .i64 (atZ id m u b c z s me o a l L i).2]) ∧ Below w.heap.size w w' :=
  atZ_gen id m u b c z s me o a l A0 c0 L i w hr0 hc0 fun W h => rightZ_any id m u b c z s me o a l A0 c0 L W h hc0
theorem rightZ_len {id m u b c z s me o a l : Int} {L : List S59} (h : rightZ id m u b c z s me o a l L = true) : checkC id m u b c z s me o a l = 0 ∧ (L.length : Int) = z ∧ L.length ≤ 64 ∧ L.all (rzP (sizeC m u b c z s me o a l)) = true := by
  simp only [rightZ, Bool.and_eq_true, decide_eq_true_eq] at h
  have := okC_bd (checkC_ok h.1).1
  exact ⟨h.1, h.2.1, by omega, h.2.2⟩
theorem atZ_ok {id m u b c z s me o a l : Int} {L : List S59} {i : Int} (h : (atZ id m u b c z s me o a l L i).2 = 0) : 0 ≤ i ∧ i < (L.length : Int) ∧ L.length ≤ 64 ∧ (atZ id m u b c z s me o a l L i).1 = rd_T59 L i ∧ rightZ id m u b c z s me o a l L = true := by
  unfold atZ at h ⊢
  by_cases h0 : rightZ id m u b c z s me o a l L = true
  · rw [if_pos h0] at h ⊢
    by_cases h1 : i < 0
    · rw [if_pos h1] at h; exact absurd h (by decide)
    · rw [if_neg h1] at h ⊢
      by_cases h2 : (L.length : Int) ≤ i
      · rw [if_pos h2] at h; exact absurd h (by decide)
      · rw [if_neg h2]; have := rightZ_len h0; exact ⟨by omega, by omega, this.2.2.1, rfl, h0⟩
  · rw [if_neg h0] at h; exact absurd h (by decide)
end Go.Proofs.Ytgckcaoncjhgbaa
