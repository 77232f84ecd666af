/- Plain law: which tables the document lets be; the same zones. No program in sight. No condition. -/
/- Plain law: what calls keep: a table that may be, never more zones open or in use than may be. No program in sight. -/
import Derived.Test.YtgckcaoncjhgbaaPLx10
import Derived.Test.YtgckcaoncjhgbaaPLx5
import Derived.Test.YtgckcaoncjhgbaaPLx6
import Derived.Test.YtgckcaoncjhgbaaPLx7
import Derived.Test.YtgckcaoncjhgbaaFLa
import Derived.Test.YtgckcaoncjhgbaaFLd
open Go.RowKit Go.Proofs.Ytgckcaoncjhgbaa Go.Proofs.Ytgckcaoncjhgbaa.PL Go.Proofs.YtgckcaoncjhgbaaW.PrintWords Go.Proofs.YtgckcaoncjhgbaaW.PrintLast
set_option linter.unusedVariables false
set_option linter.unusedSimpArgs false
namespace Go.Proofs.Ytgckcaoncjhgbaa.Geo
-- revetmentref17_Right.l0 revetmentref07_Size.f revetmentref17_Same.l0 revetmentref07_Check.f
theorem rz_iff (size : Int) (x : S59) : rzP size x = true ↔ 0 ≤ x.f2 ∧ x.f2 ≤ 1099511627776 ∧ 0 ≤ x.f1 ∧ (x.f0 = 0 ∧ x.f1 = 0 ∨ x.f0 = 1 ∧ x.f1 < size ∨ x.f0 = 2 ∧ 0 < x.f1 ∧ x.f1 < size ∨ x.f0 = 3 ∧ x.f1 ≤ size) := by
  unfold rzP rzB
  split
  · simp; omega
  · split
    · simp; omega
    · split
      · simp; omega
      · split
        · simp; omega
        · simp; omega
theorem rd_get (L : List S59) (j : Nat) (h : j < L.length) : rd_T59 L (j : Int) = L[j] := by
  unfold rd_T59; rw [Int.toNat_natCast, List.getD_eq_getElem?_getD, List.getElem?_eq_getElem h]; rfl
section
variable (id m u b c z s me o a l : Int)
set_option maxHeartbeats 2000000 in
theorem rright_step (L : List S59) (j k : Nat) (h : j < L.length) (hl : L.length ≤ 1000000) :
    revetmentref17_Right.l0 (k + 2) (j : Int) id m u b c z s me o a l L = if rzP (sizeC m u b c z s me o a l) L[j] = true then revetmentref17_Right.l0 k ((j + 1 : Nat) : Int) id m u b c z s me o a l L else some false := by
  have hw : wrap64 ((j : Int) + 1) = ((j + 1 : Nat) : Int) := by unfold wrap64; omega
  have hc := rz_iff (sizeC m u b c z s me o a l) L[j]
  obtain ⟨X, hX⟩ : ∃ X, X = revetmentref17_Right.l0 k ((j + 1 : Nat) : Int) id m u b c z s me o a l L := ⟨_, rfl⟩
  rw [← hX]
  unfold revetmentref17_Right.l0
  rw [if_pos (by omega), if_pos (by omega), rd_get L j h]
  unfold revetmentref07_Size.f
  rw [Option.bind_some]
  generalize sizeC m u b c z s me o a l = Z at hc ⊢
  generalize L[j] = x at hc ⊢
  obtain ⟨st, wp, gen⟩ := x
  dsimp only at hc ⊢
  unfold revetmentref17_Right.j2
  rw [hw, ← hX]
  clear hX
  by_cases hz : rzP Z ⟨st, wp, gen⟩ = true
  · rw [if_pos hz]
    have q := hc.mp hz
    rw [if_neg (by omega), if_neg (by omega), decide_eq_false (by omega), if_neg (by decide)]
    repeat' split
    all_goals first | rfl | (exfalso; omega)
  · rw [if_neg hz]
    have q := fun e => hz (hc.mpr e)
    clear hz hc
    by_cases g0 : gen < 0
    · rw [if_pos g0, if_pos rfl]
    rw [if_neg g0]
    by_cases g1 : gen > 1099511627776
    · rw [if_pos g1, if_pos rfl]
    rw [if_neg g1]
    by_cases g2 : wp < 0
    · rw [decide_eq_true g2, if_pos rfl]
    rw [decide_eq_false g2, if_neg (by decide)]
    by_cases s0 : st = 0
    · subst s0; simp; intros; exfalso; apply q; omega
    by_cases s1 : st = 1
    · subst s1; simp; intros; exfalso; apply q; omega
    by_cases s2 : st = 2
    · subst s2; simp; intros; exfalso; apply q; omega
    by_cases s3 : st = 3
    · subst s3; simp; intros; exfalso; apply q; omega
    simp [s0, s1, s2, s3]
theorem rright_loop (L : List S59) (hl : L.length ≤ 1000000) : ∀ (n j k : Nat), j + n = L.length → 2 * n + 1 ≤ k → revetmentref17_Right.l0 k (j : Int) id m u b c z s me o a l L = some ((L.drop j).all (rzP (sizeC m u b c z s me o a l)))
  | 0, j, k, hn, hk => by
    obtain ⟨k, rfl⟩ : ∃ k', k = k' + 1 := ⟨k - 1, by omega⟩
    unfold revetmentref17_Right.l0
    rw [if_neg (by omega), List.drop_of_length_le (by omega)]; rfl
  | n + 1, j, k, hn, hk => by
    obtain ⟨k, rfl⟩ : ∃ k', k = k' + 2 := ⟨k - 2, by omega⟩
    rw [rright_step id m u b c z s me o a l L j k (by omega) hl, List.drop_eq_getElem_cons (by omega : j < L.length), List.all_cons]
    by_cases hz : rzP (sizeC m u b c z s me o a l) L[j] = true
    · rw [if_pos hz, hz, Bool.true_and]; exact rright_loop L hl n (j + 1) k (by omega) (by omega)
    · rw [if_neg hz, Bool.not_eq_true] at *; rw [hz, Bool.false_and]
theorem rright_eq (L : List S59) (k : Nat) (hl : L.length ≤ 1000000) (hk : 2 * L.length + 2 ≤ k) : revetmentref17_Right.f k id m u b c z s me o a l L = some (rightZ id m u b c z s me o a l L) := by
  obtain ⟨k, rfl⟩ : ∃ k', k = k' + 1 := ⟨k - 1, by omega⟩
  unfold revetmentref17_Right.f revetmentref07_Check.f rightZ
  rw [Option.bind_some]
  by_cases h : checkC id m u b c z s me o a l = 0
  · rw [if_pos h, decide_eq_true h, Bool.true_and]
    unfold revetmentref17_Right.j0
    dsimp only
    by_cases hz : (L.length : Int) = z
    · rw [if_neg (by simp [hz]), decide_eq_true hz, Bool.true_and]
      have := rright_loop id m u b c z s me o a l L hl L.length 0 k (by omega) (by omega)
      rw [List.drop_zero] at this; exact this
    · rw [if_pos (by simp [hz]), decide_eq_false hz]; rfl
  · rw [if_neg h, decide_eq_false h]
    unfold revetmentref17_Right.j0
    dsimp only
    rw [if_pos rfl]; rfl
end
theorem same_loop (L : List S59) (hl : L.length ≤ 1000000) : ∀ (n j k : Nat), j + n = L.length → n + 1 ≤ k → revetmentref17_Same.l0 k L L (j : Int) = some true
  | 0, j, k, hn, hk => by
    obtain ⟨k, rfl⟩ : ∃ k', k = k' + 1 := ⟨k - 1, by omega⟩
    unfold revetmentref17_Same.l0
    rw [if_neg (by omega)]
  | n + 1, j, k, hn, hk => by
    obtain ⟨k, rfl⟩ : ∃ k', k = k' + 1 := ⟨k - 1, by omega⟩
    have hw : wrap64 ((j : Int) + 1) = ((j + 1 : Nat) : Int) := by unfold wrap64; omega
    unfold revetmentref17_Same.l0
    rw [if_pos (by omega), if_pos (by omega), if_pos (by omega), hw, if_neg (by simp)]
    exact same_loop L hl n (j + 1) k (by omega) (by omega)
end Go.Proofs.Ytgckcaoncjhgbaa.Geo
open Go.RowKit Go.Proofs.Ytgckcaoncjhgbaa Go.Proofs.Ytgckcaoncjhgbaa.PL Go.Proofs.YtgckcaoncjhgbaaW.PrintWords Go.Proofs.YtgckcaoncjhgbaaW.PrintLast
set_option linter.unusedVariables false
set_option linter.unusedSimpArgs false
namespace Go.Proofs.Ytgckcaoncjhgbaa.Geo
theorem rd_at (L : List S59) (i : Int) (h0 : 0 ≤ i) (h1 : i < (L.length : Int)) : rd_T59 L i = L[i.toNat]'(by omega) := by
  have := rd_get L i.toNat (by omega)
  rw [Int.toNat_of_nonneg h0] at this
  exact this
theorem cnt_set (lo hi : Int) (L : List S59) (i : Nat) (h : i < L.length) (y : S59) : cntZ lo hi (L.set i y) = cntZ lo hi L - (if lo ≤ L[i].f0 ∧ L[i].f0 ≤ hi then 1 else 0) + (if lo ≤ y.f0 ∧ y.f0 ≤ hi then 1 else 0) := by
  unfold cntZ
  rw [List.countP_set h]
  have hp : (decide (lo ≤ L[i].f0) && decide (L[i].f0 ≤ hi)) = true → 0 < L.countP (fun x => decide (lo ≤ x.f0) && decide (x.f0 ≤ hi)) := fun e => List.countP_pos_iff.mpr ⟨L[i], List.getElem_mem h, e⟩
  simp only [Bool.and_eq_true, decide_eq_true_eq] at hp ⊢
  by_cases a1 : lo ≤ L[i].f0 ∧ L[i].f0 ≤ hi
  · have := hp a1
    rw [if_pos a1, if_pos a1]
    split <;> omega
  · rw [if_neg a1, if_neg a1]
    split <;> omega
/-- What holds of a table that calls have made. -/
def Inv (id m u b c z s me o a l : Int) (L : List S59) : Prop := rightZ id m u b c z s me o a l L = true ∧ cntZ 1 1 L ≤ o ∧ cntZ 1 2 L ≤ a
section
variable {id m u b c z s me o a l : Int}
theorem inv_set {L : List S59} {i : Int} {y : S59} (h : Inv id m u b c z s me o a l L) (i0 : 0 ≤ i) (i1 : i < (L.length : Int)) (hy : rzP (sizeC m u b c z s me o a l) y = true) (h1 : y.f0 = 1 → (rd_T59 L i).f0 = 1 ∨ cntZ 1 1 L < o) (h2 : 1 ≤ y.f0 ∧ y.f0 ≤ 2 → 1 ≤ (rd_T59 L i).f0 ∧ (rd_T59 L i).f0 ≤ 2 ∨ cntZ 1 2 L < a) : Inv id m u b c z s me o a l (L.set i.toNat y) := by
  obtain ⟨hr, hc1, hc2⟩ := h
  have hi : i.toNat < L.length := by omega
  rw [rd_at L i i0 i1] at h1 h2
  refine ⟨?_, ?_, ?_⟩
  · simp only [rightZ, Bool.and_eq_true, decide_eq_true_eq] at hr ⊢
    refine ⟨hr.1, by rw [List.length_set]; exact hr.2.1, ?_⟩
    rw [List.all_eq_true]
    intro x hx
    rcases List.mem_or_eq_of_mem_set hx with hx | rfl
    · exact List.all_eq_true.mp hr.2.2 x hx
    · exact hy
  · rw [cnt_set 1 1 L _ hi]
    split <;> split <;> omega
  · rw [cnt_set 1 2 L _ hi]
    split <;> split <;> omega
theorem inv_zone {L : List S59} {i : Int} (h : Inv id m u b c z s me o a l L) (i0 : 0 ≤ i) (i1 : i < (L.length : Int)) : rzP (sizeC m u b c z s me o a l) (rd_T59 L i) = true := by
  have hr := h.1
  simp only [rightZ, Bool.and_eq_true, decide_eq_true_eq] at hr
  rw [rd_at L i i0 i1]
  exact List.all_eq_true.mp hr.2.2 _ (List.getElem_mem _)
theorem inv_new (h : checkC id m u b c z s me o a l = 0) : Inv id m u b c z s me o a l (List.replicate z.toNat z59) := by
  have hb := okC_bd (checkC_ok h).1
  have hc : ∀ lo hi : Int, 1 ≤ lo → cntZ lo hi (List.replicate z.toNat z59) = 0 := by
    intro lo hi hlo
    unfold cntZ
    rw [List.countP_replicate, if_neg]
    · rfl
    · have : ¬ lo ≤ z59.f0 := by show ¬ lo ≤ 0; omega
      simp [this]
  refine ⟨?_, by rw [hc 1 1 (by omega)]; omega, by rw [hc 1 2 (by omega)]; omega⟩
  unfold rightZ
  rw [decide_eq_true h, List.length_replicate, decide_eq_true (by omega), Bool.true_and, Bool.true_and, List.all_eq_true]
  intro x hx
  rw [(List.mem_replicate.mp hx).2]
  rfl
theorem inv_close {L : List S59} {i : Int} (h : Inv id m u b c z s me o a l L) (e : (closeZ id m u b c z s me o a l L i).2 = 0) : ∃ L', (closeZ id m u b c z s me o a l L i).1 = some L' ∧ Inv id m u b c z s me o a l L' := by
  unfold closeZ at e ⊢
  by_cases h0 : (atZ id m u b c z s me o a l L i).2 = 0
  · obtain ⟨i0, i1, hl, hx, hr⟩ := atZ_ok h0
    rw [if_neg (by simp [h0])] at e ⊢
    rw [hx] at e ⊢
    have hz := (rz_iff _ _).mp (inv_zone h i0 i1)
    by_cases h1 : (rd_T59 L i).f0 = 1
    · rw [if_pos h1]
      refine ⟨_, rfl, inv_set h i0 i1 ?_ ?_ ?_⟩
      · rw [rz_iff]; dsimp only; split <;> omega
      · dsimp only; intro q; left; exact h1
      · dsimp only; intro q; left; omega
    · rw [if_neg h1] at e; exact absurd e (by decide)
  · rw [if_pos h0] at e; exact absurd e h0
theorem inv_finish {L : List S59} {i : Int} (h : Inv id m u b c z s me o a l L) (e : (finishZ id m u b c z s me o a l L i).2 = 0) : ∃ L', (finishZ id m u b c z s me o a l L i).1 = some L' ∧ Inv id m u b c z s me o a l L' := by
  unfold finishZ at e ⊢
  by_cases h0 : (atZ id m u b c z s me o a l L i).2 = 0
  · obtain ⟨i0, i1, hl, hx, hr⟩ := atZ_ok h0
    rw [if_neg (by simp [h0])] at e ⊢
    rw [hx] at e ⊢
    have hz := (rz_iff _ _).mp (inv_zone h i0 i1)
    have hs := sizeC_le (rightZ_len hr).1
    refine ⟨_, rfl, inv_set h i0 i1 ?_ ?_ ?_⟩
    · rw [rz_iff]; dsimp only; omega
    · dsimp only; omega
    · dsimp only; omega
  · rw [if_pos h0] at e; exact absurd e h0
theorem inv_reset {L : List S59} {i : Int} (h : Inv id m u b c z s me o a l L) (e : (resetZ id m u b c z s me o a l L i).2 = 0) : ∃ L', (resetZ id m u b c z s me o a l L i).1 = some L' ∧ Inv id m u b c z s me o a l L' := by
  unfold resetZ at e ⊢
  by_cases h0 : (atZ id m u b c z s me o a l L i).2 = 0
  · obtain ⟨i0, i1, hl, hx, hr⟩ := atZ_ok h0
    rw [if_neg (by simp [h0])] at e ⊢
    rw [hx] at e ⊢
    have hz := (rz_iff _ _).mp (inv_zone h i0 i1)
    by_cases h1 : (rd_T59 L i).f0 = 0
    · rw [if_pos h1]
      exact ⟨_, rfl, inv_set h i0 i1 (inv_zone h i0 i1) (fun q => .inl q) (fun q => .inl q)⟩
    · rw [if_neg h1] at e ⊢
      by_cases h2 : 1099511627776 ≤ (rd_T59 L i).f2
      · rw [if_pos h2] at e; exact absurd e (by decide)
      · rw [if_neg h2]
        have hw : wrap64 ((rd_T59 L i).f2 + 1) = (rd_T59 L i).f2 + 1 := by unfold wrap64; omega
        refine ⟨_, rfl, inv_set h i0 i1 ?_ ?_ ?_⟩
        · rw [rz_iff, hw]; dsimp only; omega
        · dsimp only; omega
        · dsimp only; omega
  · rw [if_pos h0] at e; exact absurd e h0
/-- A zone of a table, open. -/
theorem opened_ok {L : List S59} {x : S59} (e : (openedZ a o L x).2 = 0) (hst : x.f0 = 0 ∨ x.f0 = 1 ∨ x.f0 = 2) : (openedZ a o L x).1 = ⟨1, x.f1, x.f2⟩ ∧ (x.f0 = 1 ∨ cntZ 1 1 L < o) ∧ (1 ≤ x.f0 ∧ x.f0 ≤ 2 ∨ cntZ 1 2 L < a) := by
  unfold openedZ at e ⊢
  by_cases h1 : x.f0 = 1
  · rw [if_pos h1]; refine ⟨?_, .inl h1, .inl (by omega)⟩
    obtain ⟨st, wp, gen⟩ := x
    dsimp only at h1 ⊢
    rw [h1]
  · rw [if_neg h1] at e ⊢
    by_cases h2 : x.f0 = 0 ∧ a ≤ cntZ 1 2 L
    · rw [if_pos h2] at e; exact absurd e (show ¬ (8 : Int) = 0 by decide)
    · rw [if_neg h2] at e ⊢
      by_cases h3 : o ≤ cntZ 1 1 L
      · rw [if_pos h3] at e; exact absurd e (show ¬ (7 : Int) = 0 by decide)
      · rw [if_neg h3]; exact ⟨rfl, .inr (by omega), by omega⟩
theorem inv_open {L : List S59} {i : Int} (h : Inv id m u b c z s me o a l L) (e : (openZ id m u b c z s me o a l L i).2 = 0) : ∃ L', (openZ id m u b c z s me o a l L i).1 = some L' ∧ Inv id m u b c z s me o a l L' := by
  unfold openZ at e ⊢
  by_cases h0 : (atZ id m u b c z s me o a l L i).2 = 0
  · obtain ⟨i0, i1, hl, hx, hr⟩ := atZ_ok h0
    rw [if_neg (by simp [h0])] at e ⊢
    rw [hx] at e ⊢
    have hz := (rz_iff _ _).mp (inv_zone h i0 i1)
    have hs := sizeC_le (rightZ_len hr).1
    by_cases h1 : (rd_T59 L i).f0 = 3
    · rw [if_pos h1] at e; exact absurd e (by decide)
    · rw [if_neg h1] at e ⊢
      by_cases h2 : (openedZ a o L (rd_T59 L i)).2 = 0
      · rw [if_neg (by simp [h2])]
        obtain ⟨e1, g1, g2⟩ := opened_ok h2 (by omega)
        rw [e1]
        refine ⟨_, rfl, inv_set h i0 i1 ?_ (fun _ => g1) (fun _ => g2)⟩
        rw [rz_iff]; dsimp only; omega
      · rw [if_pos h2] at e; exact absurd e h2
  · rw [if_pos h0] at e; exact absurd e h0
theorem inv_write {L : List S59} {i p k : Int} (h : Inv id m u b c z s me o a l L) (e : (writeZ id m u b c z s me o a l L i p k).2 = 0) : ∃ L', (writeZ id m u b c z s me o a l L i p k).1 = some L' ∧ Inv id m u b c z s me o a l L' := by
  unfold writeZ at e ⊢
  by_cases h0 : (atZ id m u b c z s me o a l L i).2 = 0
  · obtain ⟨i0, i1, hl, hx, hr⟩ := atZ_ok h0
    rw [if_neg (by simp [h0])] at e ⊢
    rw [hx] at e ⊢
    have hz := (rz_iff _ _).mp (inv_zone h i0 i1)
    have hs := sizeC_le (rightZ_len hr).1
    by_cases h1 : k < 1
    · rw [if_pos h1] at e; exact absurd e (by decide)
    rw [if_neg h1] at e ⊢
    by_cases h2 : (rd_T59 L i).f0 = 3
    · rw [if_pos h2] at e; exact absurd e (by decide)
    rw [if_neg h2] at e ⊢
    by_cases h3 : p ≠ (rd_T59 L i).f1
    · rw [if_pos h3] at e; exact absurd e (by decide)
    rw [if_neg h3] at e ⊢
    by_cases h4 : wrap64 (sizeC m u b c z s me o a l - (rd_T59 L i).f1) < k
    · rw [if_pos h4] at e; exact absurd e (by decide)
    rw [if_neg h4] at e ⊢
    have hw : wrap64 (sizeC m u b c z s me o a l - (rd_T59 L i).f1) = sizeC m u b c z s me o a l - (rd_T59 L i).f1 := by unfold wrap64; omega
    rw [hw] at h4
    have hw2 : wrap64 ((rd_T59 L i).f1 + k) = (rd_T59 L i).f1 + k := by unfold wrap64; omega
    by_cases h5 : (openedZ a o L (rd_T59 L i)).2 = 0
    · rw [if_neg (by simp [h5])]
      obtain ⟨e1, g1, g2⟩ := opened_ok h5 (by omega)
      rw [e1]
      dsimp only
      rw [hw2]
      by_cases h6 : (rd_T59 L i).f1 + k = sizeC m u b c z s me o a l
      · rw [if_pos h6]
        refine ⟨_, rfl, inv_set h i0 i1 ?_ ?_ ?_⟩
        · rw [rz_iff]; dsimp only; omega
        · dsimp only; omega
        · dsimp only; omega
      · rw [if_neg h6]
        refine ⟨_, rfl, inv_set h i0 i1 ?_ (fun _ => g1) (fun _ => g2)⟩
        rw [rz_iff]; dsimp only; omega
    · rw [if_pos h5] at e; exact absurd e h5
  · rw [if_pos h0] at e; exact absurd e h0
theorem inv_does {L : List S59} {x : S40} (h : Inv id m u b c z s me o a l L) (e : (doesZ id m u b c z s me o a l L x).2 = 0) : ∃ L', (doesZ id m u b c z s me o a l L x).1 = some L' ∧ Inv id m u b c z s me o a l L' := by
  unfold doesZ at e ⊢
  by_cases e0 : x.f0 = 0
  · rw [if_pos e0] at e ⊢; exact inv_write h e
  rw [if_neg e0] at e ⊢
  by_cases e1 : x.f0 = 1
  · rw [if_pos e1]; exact ⟨L, rfl, h⟩
  rw [if_neg e1] at e ⊢
  by_cases e2 : x.f0 = 2
  · rw [if_pos e2] at e ⊢; exact inv_reset h e
  rw [if_neg e2] at e ⊢
  by_cases e3 : x.f0 = 3
  · rw [if_pos e3] at e ⊢; exact inv_finish h e
  rw [if_neg e3] at e ⊢
  by_cases e4 : x.f0 = 4
  · rw [if_pos e4] at e ⊢; exact inv_open h e
  rw [if_neg e4] at e ⊢
  by_cases e5 : x.f0 = 5
  · rw [if_pos e5] at e ⊢; exact inv_close h e
  rw [if_neg e5]; exact ⟨L, rfl, h⟩
end
end Go.Proofs.Ytgckcaoncjhgbaa.Geo
