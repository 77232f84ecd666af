/- Plain law: with more blocks no less can be read. No program in sight. Conditions: numbers are of their kinds. -/
import Derived.Test.YtekihhbihnmakaaPAx43
import Derived.Test.YtekihhbihnmakaaPAx902
import Derived.Test.YtekihhbihnmakaaLive16
open Go.RowKit Go.Proofs.Ytekihhbihnmakaa Go.Proofs.Ytekihhbihnmakaa.PA Go.Proofs.YtekihhbihnmakaaW.PrintWords Go.Proofs.YtekihhbihnmakaaW.PrintLast
set_option linter.unusedVariables false
set_option linter.unusedSimpArgs false
namespace Go.Proofs.Ytekihhbihnmakaa.Geo
theorem hasB_mono {m u R : Int} {hv hv2 : List Int} (h : ∀ i, rd hv i ≤ rd hv2 i) {st un pin ph w : Int} (hh : hasB m u R hv st un pin ph w = true) : hasB m u R hv2 st un pin ph w = true := by
  rw [hasB_iff] at hh ⊢
  intro v v0 v1 v2 v3
  have := hh v v0 v1 v2 v3
  have := h (memberP m st v)
  omega
theorem logB_mono {m u R : Int} {hv hv2 : List Int} (h : ∀ i, rd hv i ≤ rd hv2 i) (pars : List S71) (lb : Int) : ∀ i : Nat, (logB m u R hv pars lb i).1 ≠ 0 → (logB m u R hv2 pars lb i).1 ≠ 0 := by
  intro i
  induction i with
  | zero => intro hh; exact hh
  | succ i ih =>
    intro hh
    simp only [logB] at hh ⊢
    by_cases c1 : (rd_T71 pars i).f0 > lb ∧ Int.tdiv (wrap64 ((rd_T71 pars i).f0 - 1)) R = lb / R ∧ hasB m u R hv2 (lb / R) (lb % R / u) (lb % u) (lb / R * u + lb % u) (rd_T71 pars i).f0 = true
    · rw [if_pos c1]; show (3 : Int) ≠ 0; decide
    · rw [if_neg c1]
      rw [if_neg (fun q => c1 ⟨q.1, q.2.1, hasB_mono h q.2.2⟩)] at hh
      exact ih hh
theorem howP_mono {m u R Z : Int} {hv hv2 : List Int} (h : ∀ i, rd hv i ≤ rd hv2 i) (lost : Int) (pars : List S71) (lb : Int) (hh : (howP m u R Z hv lost pars lb).1 ≠ 0) : (howP m u R Z hv2 lost pars lb).1 ≠ 0 := by
  unfold howP at hh ⊢
  by_cases c1 : memberP m (lb / R) (lb % R / u) = lost
  · rw [if_pos c1] at hh ⊢
    by_cases c2 : lb / R * u + lb % u < rd hv2 (lb / R % m) ∧ hasB m u R hv2 (lb / R) (lb % R / u) (lb % u) (lb / R * u + lb % u) Z = true
    · rw [if_pos c2]; decide
    · rw [if_neg c2]
      rw [if_neg (fun q => c2 ⟨by have := h (lb / R % m); have := q.1; omega, hasB_mono h q.2⟩)] at hh
      exact logB_mono h pars lb _ hh
  · rw [if_neg c1] at hh ⊢
    by_cases c2 : lb / R * u + lb % u < rd hv2 (memberP m (lb / R) (lb % R / u))
    · rw [if_pos c2]; decide
    · rw [if_neg (fun q => c2 (by have := h (memberP m (lb / R) (lb % R / u)); omega))] at hh
      exact absurd rfl hh
theorem wholeB_mono {m u S : Int} {hv hv2 : List Int} (h : ∀ i, rd hv i ≤ rd hv2 i) (lost st : Int) (hh : wholeB m u S hv lost st = true) : wholeB m u S hv2 lost st = true := by
  unfold wholeB at hh ⊢
  simp only [Bool.and_eq_true, Bool.or_eq_true, decide_eq_true_eq] at hh ⊢
  refine ⟨hh.1, hh.2.imp_right fun q => ?_⟩
  have := h (st % m); omega
section
variable (id m u b c z s me o a l : Int)
theorem rightB2_len {id m u b c z s me o a l : Int} {hv hv2 : List Int} (hl : hv2.length = hv.length) : rightB2 id m u b c z s me o a l hv2 = rightB2 id m u b c z s me o a l hv := by unfold rightB2; rw [hl]
theorem readB_mono {hv hv2 : List Int} (hl : hv2.length = hv.length) (h : ∀ i, rd hv i ≤ rd hv2 i) (lost : Int) (pars : List S71) (lb : Int) (hh : readB id m u b c z s me o a l hv lost pars lb = true) : readB id m u b c z s me o a l hv2 lost pars lb = true := by
  unfold readB at hh ⊢
  simp only [Bool.and_eq_true, Bool.or_eq_true, decide_eq_true_eq] at hh ⊢
  refine ⟨?_, hh.2.imp_right fun q => q.imp_right fun q => ?_⟩
  · have h1 := hh.1
    unfold howF at h1 ⊢
    rw [rightB2_len hl]
    by_cases c1 : rightB2 id m u b c z s me o a l hv = true ∧ 0 ≤ lb ∧ lb < sizeC m u b c z s me o a l
    · rw [if_pos c1] at h1 ⊢; exact howP_mono h lost pars lb h1
    · rw [if_neg c1] at h1; exact absurd rfl h1
  · unfold wholeF at q ⊢
    rw [Bool.and_eq_true] at q ⊢
    rw [rightB2_len hl]
    exact ⟨q.1, wholeB_mono h _ _ q.2⟩
theorem prefixOf_mono {hv hv2 : List Int} (hl : hv2.length = hv.length) (h : ∀ i, rd hv i ≤ rd hv2 i) (lost : Int) (pars : List S71) : prefixOf id m u b c z s me o a l hv lost pars ≤ prefixOf id m u b c z s me o a l hv2 lost pars := by
  unfold prefixOf
  rw [rightB2_len hl]
  split
  · exact cntB_mono _ _ fun j _ hj => readB_mono id m u b c z s me o a l hl h lost pars j hj
  · exact Int.le_refl _
theorem rd_set_le (hv : List Int) (j : Nat) (x : Int) (hx : rd hv j ≤ x) (i : Int) : rd hv i ≤ rd (hv.set j x) i := by
  unfold rd at *
  rw [List.getD_eq_getElem?_getD, List.getD_eq_getElem?_getD, List.getElem?_set]
  rw [List.getD_eq_getElem?_getD, Int.toNat_natCast] at hx
  by_cases e : j = i.toNat
  · subst e
    by_cases hlt : i.toNat < hv.length
    · simpa [hlt] using hx
    · simp [hlt]
  · simp [e]
/-- The law: with more. -/
theorem prefixGrows_true (k : Nat) (hk : 1 ≤ k) (hv : List Int) (lost : Int) (pars : List S71) (hb : ∀ x ∈ hv, -9223372036854775808 ≤ x) (mm more : Int) (m0 : 0 ≤ mm) (m1 : mm ≤ 255) (r0 : 0 ≤ more) (r1 : more ≤ 255) : revetmentlaw16_PrefixGrows.f k id m u b c z s me o a l hv lost pars mm more = some true := by
  obtain ⟨k, rfl⟩ : ∃ q, k = q + 1 := ⟨k - 1, by omega⟩
  have key : ∀ bb, (bb = false → hv.length ≤ 20 ∧ hv.length ≠ 0) → revetmentlaw16_PrefixGrows.j0 (k + 1) mm more bb id m u b c z s me o a l hv lost pars = some true := by
    intro bb hbb
    simp only [revetmentlaw16_PrefixGrows.j0]
    cases bb with
    | true => rw [if_pos rfl, live16_eq]; rfl
    | false =>
      obtain ⟨l20, l0⟩ := hbb rfl
      have t1 : Int.tmod mm (hv.length : Int) = mm % (hv.length : Int) := tm m0
      have t2 := Int.emod_nonneg mm (show (hv.length : Int) ≠ 0 by omega)
      have t3 := Int.emod_lt_of_pos mm (show 0 < (hv.length : Int) by omega)
      rw [if_neg (by decide)]
      simp only [Option.bind_some, List.nil_append]
      rw [if_pos (by simp; omega), if_neg (by omega), wr (x := mm) ⟨by omega, by omega⟩, t1, if_pos t2, if_pos t3]
      by_cases c1 : rd hv (mm % (hv.length : Int)) > 1048576
      · rw [if_pos c1, live16_eq]; rfl
      · have hlo : -9223372036854775808 ≤ rd hv (mm % (hv.length : Int)) := by
          refine hb _ ?_
          unfold rd
          rw [List.getD_eq_getElem?_getD, List.getElem?_eq_getElem (by omega)]
          exact List.getElem_mem _
        rw [if_neg c1, wr (x := more) ⟨by omega, by omega⟩, wr (x := rd hv (mm % (hv.length : Int)) + more) ⟨by omega, by omega⟩]
        simp only [prefix_Of.f, Option.bind_some]
        have hm := prefixOf_mono id m u b c z s me o a l (hv := hv) (hv2 := hv.set (mm % (hv.length : Int)).toNat (rd hv (mm % (hv.length : Int)) + more)) (by simp) (fun i => rd_set_le hv _ _ (by rw [Int.toNat_of_nonneg t2]; omega) i) lost pars
        rw [if_pos hm, live16_eq]; rfl
  obtain ⟨r, hr, hp⟩ := much_some id m u b c z s me o a l hv lost pars
  unfold revetmentlaw16_PrefixGrows.f
  rw [hr]
  simp only [Option.bind_some]
  cases r with
  | true => rw [if_pos rfl]; exact key true (by simp)
  | false =>
    rw [if_neg (by decide)]
    refine key _ (fun h => ⟨(hp rfl).2, ?_⟩)
    simp at h; intro h'; exact h (by simpa using h')
end
end Go.Proofs.Ytekihhbihnmakaa.Geo
