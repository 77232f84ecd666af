/- Plain law: which tables the document lets be; the same zones. No program in sight. No condition. -/
import Derived.Test.YtgckcaoncjhgbaaPLx10
import Derived.Test.YtgckcaoncjhgbaaPLx5
import Derived.Test.YtgckcaoncjhgbaaPLx6
import Derived.Test.YtgckcaoncjhgbaaPLx7
import Derived.Test.YtgckcaoncjhgbaaLzTab
open Go.RowKit Go.Proofs.Ytgckcaoncjhgbaa Go.Proofs.Ytgckcaoncjhgbaa.PL Go.Proofs.YtgckcaoncjhgbaaW.PrintWords Go.Proofs.YtgckcaoncjhgbaaW.PrintLast
set_option linter.unusedVariables false
set_option linter.unusedSimpArgs false
namespace Go.Proofs.Ytgckcaoncjhgbaa.Geo
-- revetmentref17_Right.l0 revetmentref07_Size.f revetmentref17_Same.l0 revetmentref07_Check.f
theorem rz_iff (size : Int) (x : S59) : rzP size x = true ↔ 0 ≤ x.f2 ∧ x.f2 ≤ 1099511627776 ∧ 0 ≤ x.f1 ∧ (x.f0 = 0 ∧ x.f1 = 0 ∨ x.f0 = 1 ∧ x.f1 < size ∨ x.f0 = 2 ∧ 0 < x.f1 ∧ x.f1 < size ∨ x.f0 = 3 ∧ x.f1 ≤ size) := by
  unfold rzP rzB
  split
  · simp; omega
  · split
    · simp; omega
    · split
      · simp; omega
      · split
        · simp; omega
        · simp; omega
theorem rd_get (L : List S59) (j : Nat) (h : j < L.length) : rd_T59 L (j : Int) = L[j] := by
  unfold rd_T59; rw [Int.toNat_natCast, List.getD_eq_getElem?_getD, List.getElem?_eq_getElem h]; rfl
section
variable (id m u b c z s me o a l : Int)
set_option maxHeartbeats 2000000 in
theorem rright_step (L : List S59) (j k : Nat) (h : j < L.length) (hl : L.length ≤ 1000000) :
    revetmentref17_Right.l0 (k + 2) (j : Int) id m u b c z s me o a l L = if rzP (sizeC m u b c z s me o a l) L[j] = true then revetmentref17_Right.l0 k ((j + 1 : Nat) : Int) id m u b c z s me o a l L else some false := by
  have hw : wrap64 ((j : Int) + 1) = ((j + 1 : Nat) : Int) := by unfold wrap64; omega
  have hc := rz_iff (sizeC m u b c z s me o a l) L[j]
  obtain ⟨X, hX⟩ : ∃ X, X = revetmentref17_Right.l0 k ((j + 1 : Nat) : Int) id m u b c z s me o a l L := ⟨_, rfl⟩
  rw [← hX]
  unfold revetmentref17_Right.l0
  rw [if_pos (by omega), if_pos (by omega), rd_get L j h]
  unfold revetmentref07_Size.f
  rw [Option.bind_some]
  generalize sizeC m u b c z s me o a l = Z at hc ⊢
  generalize L[j] = x at hc ⊢
  obtain ⟨st, wp, gen⟩ := x
  dsimp only at hc ⊢
  unfold revetmentref17_Right.j2
  rw [hw, ← hX]
  clear hX
  by_cases hz : rzP Z ⟨st, wp, gen⟩ = true
  · rw [if_pos hz]
    have q := hc.mp hz
    rw [if_neg (by omega), if_neg (by omega), decide_eq_false (by omega), if_neg (by decide)]
    repeat' split
    all_goals first | rfl | (exfalso; omega)
  · rw [if_neg hz]
    have q := fun e => hz (hc.mpr e)
    clear hz hc
    by_cases g0 : gen < 0
    · rw [if_pos g0, if_pos rfl]
    rw [if_neg g0]
    by_cases g1 : gen > 1099511627776
    · rw [if_pos g1, if_pos rfl]
    rw [if_neg g1]
    by_cases g2 : wp < 0
    · rw [decide_eq_true g2, if_pos rfl]
    rw [decide_eq_false g2, if_neg (by decide)]
    by_cases s0 : st = 0
    · subst s0; simp; intros; exfalso; apply q; omega
    by_cases s1 : st = 1
    · subst s1; simp; intros; exfalso; apply q; omega
    by_cases s2 : st = 2
    · subst s2; simp; intros; exfalso; apply q; omega
    by_cases s3 : st = 3
    · subst s3; simp; intros; exfalso; apply q; omega
    simp [s0, s1, s2, s3]
theorem rright_loop (L : List S59) (hl : L.length ≤ 1000000) : ∀ (n j k : Nat), j + n = L.length → 2 * n + 1 ≤ k → revetmentref17_Right.l0 k (j : Int) id m u b c z s me o a l L = some ((L.drop j).all (rzP (sizeC m u b c z s me o a l)))
  | 0, j, k, hn, hk => by
    obtain ⟨k, rfl⟩ : ∃ k', k = k' + 1 := ⟨k - 1, by omega⟩
    unfold revetmentref17_Right.l0
    rw [if_neg (by omega), List.drop_of_length_le (by omega)]; rfl
  | n + 1, j, k, hn, hk => by
    obtain ⟨k, rfl⟩ : ∃ k', k = k' + 2 := ⟨k - 2, by omega⟩
    rw [rright_step id m u b c z s me o a l L j k (by omega) hl, List.drop_eq_getElem_cons (by omega : j < L.length), List.all_cons]
    by_cases hz : rzP (sizeC m u b c z s me o a l) L[j] = true
    · rw [if_pos hz, hz, Bool.true_and]; exact rright_loop L hl n (j + 1) k (by omega) (by omega)
    · rw [if_neg hz, Bool.not_eq_true] at *; rw [hz, Bool.false_and]
theorem rright_eq (L : List S59) (k : Nat) (hl : L.length ≤ 1000000) (hk : 2 * L.length + 2 ≤ k) : revetmentref17_Right.f k id m u b c z s me o a l L = some (rightZ id m u b c z s me o a l L) := by
  obtain ⟨k, rfl⟩ : ∃ k', k = k' + 1 := ⟨k - 1, by omega⟩
  unfold revetmentref17_Right.f revetmentref07_Check.f rightZ
  rw [Option.bind_some]
  by_cases h : checkC id m u b c z s me o a l = 0
  · rw [if_pos h, decide_eq_true h, Bool.true_and]
    unfold revetmentref17_Right.j0
    dsimp only
    by_cases hz : (L.length : Int) = z
    · rw [if_neg (by simp [hz]), decide_eq_true hz, Bool.true_and]
      have := rright_loop id m u b c z s me o a l L hl L.length 0 k (by omega) (by omega)
      rw [List.drop_zero] at this; exact this
    · rw [if_pos (by simp [hz]), decide_eq_false hz]; rfl
  · rw [if_neg h, decide_eq_false h]
    unfold revetmentref17_Right.j0
    dsimp only
    rw [if_pos rfl]; rfl
end
theorem same_loop (L : List S59) (hl : L.length ≤ 1000000) : ∀ (n j k : Nat), j + n = L.length → n + 1 ≤ k → revetmentref17_Same.l0 k L L (j : Int) = some true
  | 0, j, k, hn, hk => by
    obtain ⟨k, rfl⟩ : ∃ k', k = k' + 1 := ⟨k - 1, by omega⟩
    unfold revetmentref17_Same.l0
    rw [if_neg (by omega)]
  | n + 1, j, k, hn, hk => by
    obtain ⟨k, rfl⟩ : ∃ k', k = k' + 1 := ⟨k - 1, by omega⟩
    have hw : wrap64 ((j : Int) + 1) = ((j + 1 : Nat) : Int) := by unfold wrap64; omega
    unfold revetmentref17_Same.l0
    rw [if_pos (by omega), if_pos (by omega), if_pos (by omega), hw, if_neg (by simp)]
    exact same_loop L hl n (j + 1) k (by omega) (by omega)
end Go.Proofs.Ytgckcaoncjhgbaa.Geo
