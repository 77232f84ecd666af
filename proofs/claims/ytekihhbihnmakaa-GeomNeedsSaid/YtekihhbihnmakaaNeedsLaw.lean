/- Plain laws: how many blocks each member has, of all members, as the reference has it. No program in sight. No condition. -/
import Derived.Test.YtekihhbihnmakaaPGeox22
import Derived.Test.YtekihhbihnmakaaPGeox23
import Derived.Test.YtekihhbihnmakaaPGeox24
import Derived.Test.YtekihhbihnmakaaPGeox25
import Derived.Test.YtekihhbihnmakaaPGeox9
import Derived.Test.YtekihhbihnmakaaNeedLaw
open Go.RowKit Go.Proofs.Ytekihhbihnmakaa Go.Proofs.Ytekihhbihnmakaa.PGeo Go.Proofs.YtekihhbihnmakaaW.PrintWords Go.Proofs.YtekihhbihnmakaaW.PrintLast
set_option linter.unusedVariables false
set_option linter.unusedSimpArgs false
namespace Go.Proofs.Ytekihhbihnmakaa.Geo
section
variable (id m u b c z s me o a l : Int)
def needsP (m u R x : Int) : List Int := (List.range m.toNat).map (fun (i : Nat) => needP m u R i x)
theorem needs_loop (h : checkC id m u b c z s me o a l = 0) (n : Int) (d : Nat) : ∀ (k : Nat) (i : Nat), (i : Int) ≤ m → m - i = d → d < k → geom_Needs.l0 k n ((List.range i).map (fun (j : Nat) => needP m u ((m - 1) * u) j (inP (sizeC m u b c z s me o a l) n))) m i id m u b c z s me o a l = some (needsP m u ((m - 1) * u) (inP (sizeC m u b c z s me o a l) n)) := by
  obtain ⟨⟨m1, m2, u1, u2, c1, c2, S1, S2, R1, R2, uR, hR, Su, Z2, Z1⟩, hr, hs, hd, hz⟩ := good h
  induction d with
  | zero =>
    intro k i i1 hd hk
    obtain ⟨k, rfl⟩ : ∃ j, k = j + 1 := ⟨k - 1, by omega⟩
    simp only [geom_Needs.l0]
    rw [if_neg (by omega), needsP, show m.toNat = i by omega]
  | succ d ih =>
    intro k i i1 hd hk
    obtain ⟨k, rfl⟩ : ∃ j, k = j + 1 := ⟨k - 1, by omega⟩
    simp only [geom_Needs.l0]
    rw [if_pos (by omega), need_ok (h := h) (q := by omega)]
    simp only [Option.bind_some]
    rw [if_pos (by simp; omega), wr (by omega)]
    have := ih k (i + 1) (by omega) (by omega) (by omega)
    rw [List.range_succ, List.map_append] at this
    rw [show (i : Int) + 1 = ((i + 1 : Nat) : Int) by omega]
    exact this
theorem needs_ok (k : Nat) (hk : 40 ≤ k) (n : Int) (h : checkC id m u b c z s me o a l = 0) : geom_Needs.f k id m u b c z s me o a l n = some (needsP m u ((m - 1) * u) (inP (sizeC m u b c z s me o a l) n)) := by
  have g := (good h).1
  have m1 := g.m1
  have m2 := g.m2
  have S1 := g.S1
  unfold geom_Needs.f
  rw [right_t (h := h) (k := by omega)]
  simp only [Option.bind_some, if_true]
  exact needs_loop id m u b c z s me o a l h n m.toNat k 0 (by omega) (by omega) (by omega)
theorem needs_no (k : Nat) (n : Int) (h : ¬ checkC id m u b c z s me o a l = 0) : geom_Needs.f k id m u b c z s me o a l n = some [] := by
  unfold geom_Needs.f
  rw [right_no (h := h)]; rfl
theorem law_loop (h : checkC id m u b c z s me o a l = 0) (n : Int) (d : Nat) : ∀ (k : Nat) (i : Int), 0 ≤ i → i ≤ m → m - i = d → d + 2010 < k → revetmentlaw08_GeomNeeds.l0 k n (needsP m u ((m - 1) * u) (inP (sizeC m u b c z s me o a l) n)) i id m u b c z s me o a l = some true := by
  obtain ⟨⟨m1, m2, u1, u2, c1, c2, S1, S2, R1, R2, uR, hR, Su, Z2, Z1⟩, hr, hs, hd, hz⟩ := good h
  have hl : ((needsP m u ((m - 1) * u) (inP (sizeC m u b c z s me o a l) n)).length : Int) = m := by simp [needsP]; omega
  induction d with
  | zero =>
    intro k i i0 i1 hd hk
    obtain ⟨k, rfl⟩ : ∃ j, k = j + 1 := ⟨k - 1, by omega⟩
    simp only [revetmentlaw08_GeomNeeds.l0]
    rw [if_neg (by omega), if_pos hl, live_eq (hk := by omega)]; rfl
  | succ d ih =>
    intro k i i0 i1 hd hk
    obtain ⟨k, rfl⟩ : ∃ j, k = j + 1 := ⟨k - 1, by omega⟩
    simp only [revetmentlaw08_GeomNeeds.l0]
    rw [if_pos (by omega), if_pos i0, rneed_ok (h := h) (q := by omega) (hk := by omega)]
    simp only [Option.bind_some]
    have e : rd (needsP m u ((m - 1) * u) (inP (sizeC m u b c z s me o a l) n)) i = needP m u ((m - 1) * u) i (inP (sizeC m u b c z s me o a l) n) := by
      unfold rd needsP
      rw [List.getD_eq_getElem?_getD, List.getElem?_map, List.getElem?_range (by omega)]
      simp; rw [show max i 0 = i by omega]
    rw [if_pos e, wr (by omega)]
    exact ih k (i + 1) (by omega) (by omega) (by omega) (by omega)
theorem geomNeeds_true (k : Nat) (hk : 3000 ≤ k) (mm n : Int) : revetmentlaw08_GeomNeeds.f k id m u b c z s me o a l mm n = some true := by
  obtain ⟨k, rfl⟩ : ∃ j, k = j + 1 := ⟨k - 1, by omega⟩
  unfold revetmentlaw08_GeomNeeds.f
  by_cases h : checkC id m u b c z s me o a l = 0
  · obtain ⟨⟨m1, m2, u1, u2, c1, c2, S1, S2, R1, R2, uR, hR, Su, Z2, Z1⟩, hr, hs, hd, hz⟩ := good h
    have e : ∃ x, geom_Need.f id m u b c z s me o a l mm n = some x ∧ revetmentref08_Need.f k id m u b c z s me o a l mm n = some x := by
      by_cases q : 0 ≤ mm ∧ mm < m
      · exact ⟨_, need_ok (h := h) (q := q) .., rneed_ok (h := h) (q := q) (hk := by omega) ..⟩
      · exact ⟨_, need_no (q := fun z => q z.2) .., rneed_no (q := fun z => q z.2) (hk := by omega) ..⟩
    obtain ⟨x, hx1, hx2⟩ := e
    rw [if_neg (by omega)]
    simp only [revetmentlaw08_GeomNeeds.j0]
    rw [decide_eq_false (by omega), if_neg (by decide), hx1, hx2]
    simp only [Option.bind_some, if_true]
    rw [needs_ok (h := h) (hk := by omega)]
    unfold revetmentref07_Check.f
    simp only [Option.bind_some]
    rw [if_pos h]
    exact law_loop id m u b c z s me o a l h n m.toNat k 0 (by omega) (by omega) (by omega) (by omega)
  · have hn := need_no id m u b c z s me o a l mm n (fun z => h z.1)
    have hn2 := rneed_no id m u b c z s me o a l k (by omega) mm n (fun z => h z.1)
    have key : ∀ bb : Bool, revetmentlaw08_GeomNeeds.j0 (k + 1) mm n bb id m u b c z s me o a l = some true := by
      intro bb
      simp only [revetmentlaw08_GeomNeeds.j0]
      rw [hn, hn2, needs_no (h := h)]
      unfold revetmentref07_Check.f
      simp only [Option.bind_some, if_true]
      rw [if_neg h, live_eq (hk := by omega)]
      cases bb <;> simp
    split
    · exact key _
    · exact key _
end
end Go.Proofs.Ytekihhbihnmakaa.Geo
