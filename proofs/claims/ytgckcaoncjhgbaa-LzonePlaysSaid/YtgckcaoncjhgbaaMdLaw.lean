/- Plain laws of package model: what the table's answers are, when there is an error and when not; the invariant. -/
import Derived.Test.YtgckcaoncjhgbaaMdDef
import Derived.Test.YtgckcaoncjhgbaaLzDoesW
import Derived.Test.YtgckcaoncjhgbaaLzRightLaw
namespace Go.Proofs.Ytgckcaoncjhgbaa
open Go.RowKit Go.Proofs.Ytgckcaoncjhgbaa.PL Go.Proofs.YtgckcaoncjhgbaaW.PrintWords
section
variable {id m u b c z s me o a l : Int} {L : List S59}
/-- An answer of a table: an error and no zones, or as many zones as before. -/
def OneOf (L : List S59) (r : Option (List S59) × Int) : Prop := (¬ r.2 = 0 ∧ r.1 = none) ∨ (r.2 = 0 ∧ ∃ L', r.1 = some L' ∧ L'.length = L.length)
theorem oneOf_err {e : Int} (h : ¬ e = 0) : OneOf L (none, e) := .inl ⟨h, rfl⟩
theorem oneOf_set (i : Nat) (x : S59) : OneOf L (some (L.set i x), 0) := .inr ⟨rfl, _, rfl, List.length_set⟩
theorem oneOf_ite {p : Prop} [Decidable p] {x y : Option (List S59) × Int} (h : p → OneOf L x) (h' : ¬ p → OneOf L y) : OneOf L (if p then x else y) := by
  by_cases hp : p
  · rw [if_pos hp]; exact h hp
  · rw [if_neg hp]; exact h' hp
theorem writeZ_one (i p k : Int) : OneOf L (writeZ id m u b c z s me o a l L i p k) := by
  unfold writeZ
  repeat' (first | exact oneOf_err (by decide) | exact oneOf_set _ _ | exact oneOf_err (by assumption) | (refine oneOf_ite (fun _ => ?_) (fun _ => ?_)))
theorem resetZ_one (i : Int) : OneOf L (resetZ id m u b c z s me o a l L i) := by
  unfold resetZ
  repeat' (first | exact oneOf_err (by decide) | exact oneOf_set _ _ | exact oneOf_err (by assumption) | (refine oneOf_ite (fun _ => ?_) (fun _ => ?_)))
theorem finishZ_one (i : Int) : OneOf L (finishZ id m u b c z s me o a l L i) := by
  unfold finishZ
  repeat' (first | exact oneOf_err (by decide) | exact oneOf_set _ _ | exact oneOf_err (by assumption) | (refine oneOf_ite (fun _ => ?_) (fun _ => ?_)))
theorem openZ_one (i : Int) : OneOf L (openZ id m u b c z s me o a l L i) := by
  unfold openZ
  repeat' (first | exact oneOf_err (by decide) | exact oneOf_set _ _ | exact oneOf_err (by assumption) | (refine oneOf_ite (fun _ => ?_) (fun _ => ?_)))
theorem closeZ_one (i : Int) : OneOf L (closeZ id m u b c z s me o a l L i) := by
  unfold closeZ
  repeat' (first | exact oneOf_err (by decide) | exact oneOf_set _ _ | exact oneOf_err (by assumption) | (refine oneOf_ite (fun _ => ?_) (fun _ => ?_)))
end
section
variable {id m u b c z s me o a l : Int} {base : Nat} {W : World} {v : Value} {L : List S59}
theorem TabR_none (h : TabR id m u b c z s me o a l none base W v) : v = tabV 0 0 0 0 0 0 0 0 0 0 0 (.slice none 0 0) := by
  rcases h with ⟨_, h⟩ | ⟨L', y, h1, _⟩
  · exact h
  · cases h1
theorem TabR_some (h : TabR id m u b c z s me o a l (some L) base W v) : ∃ (A : Option Addr) (k : Nat), v = tabV id m u b c z s me o a l (.slice A L.length k) ∧ Kd.R k59 59 W base (fun _ => True) (.slice A L.length k) L := by
  rcases h with ⟨h, _⟩ | ⟨L', y, h1, h2, h3⟩
  · cases h
  · obtain rfl := Option.some.inj h1
    obtain ⟨A, k, rfl⟩ := Kd.R_slice h3
    exact ⟨A, k, h2, h3⟩
end
/-- A read that may be. -/
theorem readZ_ok {id m u b c z s me o a l : Int} {L : List S59} {i p k : Int} (hrt : rightZ id m u b c z s me o a l L = true) (h : readZ id m u b c z s me o a l L i p k = 0) : 0 ≤ i ∧ i < (L.length : Int) ∧ 1 ≤ k ∧ 0 ≤ p ∧ p + k ≤ (rd_T59 L i).f1 := by
  unfold readZ at h
  by_cases h0 : (atZ id m u b c z s me o a l L i).2 ≠ 0
  · rw [if_pos h0] at h; exact absurd h h0
  rw [if_neg h0] at h
  obtain ⟨i0, i1, _, hz, _⟩ := atZ_ok (Decidable.not_not.mp h0)
  rw [hz] at h
  have hr := (rightZ_len hrt).2.2.2
  have hx := List.all_eq_true.1 hr (rd_T59 L i) (by
    have e : rd_T59 L i = L[i.toNat]'(by omega) := by simp [rd_T59, List.getD_eq_getElem?_getD, List.getElem?_eq_getElem (show i.toNat < L.length by omega)]
    rw [e]; exact List.getElem_mem _)
  obtain ⟨_, _, hw, hst⟩ := (Geo.rz_iff _ _).1 hx
  have hb := okC_bd (checkC_ok (rightZ_len hrt).1).1
  by_cases h1 : k < 1
  · rw [if_pos h1] at h; exact absurd h (by decide)
  rw [if_neg h1] at h
  by_cases h2 : p < 0
  · rw [if_pos h2] at h; exact absurd h (by decide)
  rw [if_neg h2] at h
  by_cases h3 : (rd_T59 L i).f1 < p
  · rw [if_pos h3] at h; exact absurd h (by decide)
  rw [if_neg h3] at h
  have hsz : (rd_T59 L i).f1 ≤ 9223372036854775807 := by have := sizeC_le (rightZ_len hrt).1; omega
  have hwr : wrap64 ((rd_T59 L i).f1 - p) = (rd_T59 L i).f1 - p := by unfold wrap64; omega
  rw [hwr] at h
  by_cases h4 : (rd_T59 L i).f1 - p < k
  · rw [if_pos h4] at h; exact absurd h (by decide)
  exact ⟨i0, i1, by omega, by omega, by omega⟩
/-- A model and a reply as the answer to a command. -/
def RepP (id m u b c z s me o a l : Int) (x y q : Value) (D N : Mdl) (E : Int) (data : List Int) (zn : S59) (w : World) (e : Ending) (w' : World) : Prop :=
  ∃ x' y' q' dv : Value, e = .returned (.tuple #[modV id m u b c z s me o a l x' y' q', repV E dv zn.f0 zn.f1 zn.f2]) ∧ MD w.heap.size w' x y q D x' y' q' N ∧ BR w' dv data ∧ Below w.heap.size w w'
theorem RepP_mk {id m u b c z s me o a l : Int} {x y q : Value} {D N : Mdl} {E : Int} {data : List Int} {zn : S59} {w : World} {e : Ending} {w' : World} {x' y' q' dv : Value} (h1 : e = .returned (.tuple #[modV id m u b c z s me o a l x' y' q', repV E dv zn.f0 zn.f1 zn.f2])) (h2 : MD w.heap.size w' x y q D x' y' q' N) (h3 : BR w' dv data) (h4 : Below w.heap.size w w') : RepP id m u b c z s me o a l x y q D N E data zn w e w' := ⟨_, _, _, _, h1, h2, h3, h4⟩
end Go.Proofs.Ytgckcaoncjhgbaa
