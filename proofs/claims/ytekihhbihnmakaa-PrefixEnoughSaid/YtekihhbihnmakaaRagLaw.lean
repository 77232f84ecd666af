/- Plain laws: who has too much. No program in sight. Conditions: as each says. -/
import Derived.Test.YtekihhbihnmakaaPAx50
import Derived.Test.YtekihhbihnmakaaHowLaw
import Derived.Test.YtekihhbihnmakaaNeedLaw
open Go.RowKit Go.Proofs.Ytekihhbihnmakaa Go.Proofs.Ytekihhbihnmakaa.PA Go.Proofs.YtekihhbihnmakaaW.PrintWords Go.Proofs.YtekihhbihnmakaaW.PrintLast
set_option linter.unusedVariables false
set_option linter.unusedSimpArgs false
namespace Go.Proofs.Ytekihhbihnmakaa.Geo
section
variable (id m u b c z s me o a l : Int)
/-- Has some member too much? -/
def raggedF (hv : List Int) (lost n : Int) : Bool := rightB2 id m u b c z s me o a l hv && (List.range m.toNat).any fun (i : Nat) => decide ((i : Int) ≠ lost) && decide (needP m u ((m - 1) * u) i (inP (sizeC m u b c z s me o a l) n) < rd hv i)
theorem any_from (f : Nat → Bool) (n i : Nat) (hi : i < n) : ((List.range' i (n - i)).any f) = (f i || (List.range' (i + 1) (n - (i + 1))).any f) := by
  rw [show n - i = (n - (i + 1)) + 1 by omega, List.range'_succ, List.any_cons]
theorem ragged_loop (h : checkC id m u b c z s me o a l = 0) (hv : List Int) (hl : (hv.length : Int) = m) (lost n : Int) (d : Nat) : ∀ (k i : Nat), (i : Int) ≤ m → m - i = d → d + 1 < k →
    prefix_Ragged.l0 k lost n hv m i id m u b c z s me o a l = some ((List.range' i (m.toNat - i)).any fun (i : Nat) => decide ((i : Int) ≠ lost) && decide (needP m u ((m - 1) * u) i (inP (sizeC m u b c z s me o a l) n) < rd hv i)) := by
  obtain ⟨g, hr, hs, hd, hz⟩ := good h
  have m1 := g.m1; have m2 := g.m2
  induction d with
  | zero =>
    intro k i hi hd hk
    obtain ⟨k, rfl⟩ : ∃ q, k = q + 1 := ⟨k - 1, by omega⟩
    simp only [prefix_Ragged.l0]
    rw [if_neg (by omega), show m.toNat - i = 0 by omega]; rfl
  | succ d ih =>
    intro k i hi hd hk
    obtain ⟨k, rfl⟩ : ∃ q, k = q + 1 := ⟨k - 1, by omega⟩
    have ih' := ih k (i + 1) (by omega) (by omega) (by omega)
    push_cast at ih'
    rw [any_from _ _ _ (by omega)]
    simp only [prefix_Ragged.l0]
    rw [if_pos (by omega), if_pos (by omega), if_pos (by omega), wr (x := (i : Int) + 1) ⟨by omega, by omega⟩]
    by_cases e1 : (i : Int) = lost
    · rw [if_pos e1, decide_eq_false (fun z => z e1), Bool.false_and, Bool.false_or]; exact ih'
    · rw [if_neg e1, decide_eq_true e1, Bool.true_and, need_ok (h := h) (q := ⟨by omega, by omega⟩)]
      simp only [Option.bind_some]
      by_cases e2 : rd hv i > needP m u ((m - 1) * u) i (inP (sizeC m u b c z s me o a l) n)
      · rw [if_pos e2, decide_eq_true (by omega), Bool.true_or]
      · rw [if_neg e2, decide_eq_false (by omega), Bool.false_or]; exact ih'
theorem ragged_ok (hv : List Int) (lost n : Int) (k : Nat) (hk : 40 ≤ k) : prefix_Ragged.f k id m u b c z s me o a l hv lost n = some (raggedF id m u b c z s me o a l hv lost n) := by
  unfold prefix_Ragged.f raggedF
  rw [pright_eq]
  simp only [Option.bind_some]
  by_cases hb : rightB2 id m u b c z s me o a l hv = true
  · obtain ⟨h, hl⟩ := rightB2_out hb
    obtain ⟨g, hr, hs, hd, hz⟩ := good h
    have m1 := g.m1; have m2 := g.m2
    rw [if_pos hb, hb, Bool.true_and, hl]
    have := ragged_loop id m u b c z s me o a l h hv hl lost n m.toNat k 0 (by omega) (by omega) (by omega)
    rw [List.range_eq_range']
    simpa using this
  · rw [if_neg hb, show rightB2 id m u b c z s me o a l hv = false by simpa using hb, Bool.false_and]
end
end Go.Proofs.Ytekihhbihnmakaa.Geo
