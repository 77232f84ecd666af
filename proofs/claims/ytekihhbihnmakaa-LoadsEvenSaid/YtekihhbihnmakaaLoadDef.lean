/- What loads.Of collects, as plain lists. No program in sight. No condition. -/
import Derived.Test.YtekihhbihnmakaaPAx58
import Derived.Test.YtekihhbihnmakaaSteps
open Go.RowKit Go.Proofs.Ytekihhbihnmakaa Go.Proofs.Ytekihhbihnmakaa.PA Go.Proofs.YtekihhbihnmakaaW.PrintWords Go.Proofs.YtekihhbihnmakaaW.PrintLast
set_option linter.unusedVariables false
set_option linter.unusedSimpArgs false
namespace Go.Proofs.Ytekihhbihnmakaa.Geo
-- loads_Sum.f
/-- One step more. -/
def addL (L : List S75) (s : S53) : List S75 :=
  L.set s.f1.toNat (if s.f0 = true then ⟨(L.getD s.f1.toNat ⟨0, 0⟩).f0, wrap64 ((L.getD s.f1.toNat ⟨0, 0⟩).f1 + s.f4)⟩ else ⟨wrap64 ((L.getD s.f1.toNat ⟨0, 0⟩).f0 + s.f4), (L.getD s.f1.toNat ⟨0, 0⟩).f1⟩)
def loadsOf (id m u b c z s me o a l : Int) (at1 n1 : Int) : List S75 := if checkC id m u b c z s me o a l = 0 then (stepsF id m u b c z s me o a l at1 n1).foldl addL (List.replicate m.toNat ⟨0, 0⟩) else []
/-- The cells of loads, one behind the other. -/
def cellsL (L : List S75) : List Value := L.flatMap fun x => [.int .i64 x.f0, .int .i64 x.f1]
theorem cellsL_len (L : List S75) : (cellsL L).length = L.length * 2 := by
  induction L with
  | nil => rfl
  | cons x L ih => simp only [cellsL, List.flatMap_cons, List.length_append, List.length_cons, List.length_nil] at ih ⊢; rw [ih]; omega
theorem cellsL_get (L : List S75) : ∀ i : Nat, i < L.length → (cellsL L)[i * 2]? = some (.int .i64 (L.getD i ⟨0, 0⟩).f0) ∧ (cellsL L)[i * 2 + 1]? = some (.int .i64 (L.getD i ⟨0, 0⟩).f1) := by
  induction L with
  | nil => intro i h; simp at h
  | cons x L ih =>
    intro i h
    cases i with
    | zero => simp [cellsL]
    | succ i =>
      have := ih i (by simpa using h)
      simp only [cellsL, List.flatMap_cons] at this ⊢
      rw [show (i + 1) * 2 = i * 2 + 2 by omega, show i * 2 + 2 + 1 = (i * 2 + 1) + 2 by omega]
      simpa using this
theorem cellsL_set0 (L : List S75) (v : Int) : ∀ i : Nat, i < L.length → (cellsL L).set (i * 2) (.int .i64 v) = cellsL (L.set i ⟨v, (L.getD i ⟨0, 0⟩).f1⟩) := by
  induction L with
  | nil => intro i h; simp at h
  | cons x L ih =>
    intro i h
    cases i with
    | zero => simp [cellsL]
    | succ i =>
      have := ih i (by simpa using h)
      simp only [cellsL, List.flatMap_cons] at this ⊢
      rw [show (i + 1) * 2 = i * 2 + 2 by omega]
      simpa using this
theorem cellsL_set1 (L : List S75) (v : Int) : ∀ i : Nat, i < L.length → (cellsL L).set (i * 2 + 1) (.int .i64 v) = cellsL (L.set i ⟨(L.getD i ⟨0, 0⟩).f0, v⟩) := by
  induction L with
  | nil => intro i h; simp at h
  | cons x L ih =>
    intro i h
    cases i with
    | zero => simp [cellsL]
    | succ i =>
      have := ih i (by simpa using h)
      simp only [cellsL, List.flatMap_cons] at this ⊢
      rw [show (i + 1) * 2 + 1 = (i * 2 + 1) + 2 by omega]
      simpa using this
theorem addL_len (L : List S75) (s : S53) : (addL L s).length = L.length := by simp [addL]
end Go.Proofs.Ytekihhbihnmakaa.Geo
