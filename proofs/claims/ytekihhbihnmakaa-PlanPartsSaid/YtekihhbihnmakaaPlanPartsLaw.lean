/- Plain law: a write in two parts becomes what it becomes in one, and each member has then what it needs, in order. No program in sight. No condition. -/
import Derived.Test.YtekihhbihnmakaaPAx22
import Derived.Test.YtekihhbihnmakaaPAx29
import Derived.Test.YtekihhbihnmakaaPAx9
import Derived.Test.YtekihhbihnmakaaPAx901
import Derived.Test.YtekihhbihnmakaaNextLaw
open Go.RowKit Go.Proofs.Ytekihhbihnmakaa Go.Proofs.Ytekihhbihnmakaa.PA Go.Proofs.YtekihhbihnmakaaW.PrintWords Go.Proofs.YtekihhbihnmakaaW.PrintLast
set_option linter.unusedVariables false
set_option linter.unusedSimpArgs false
namespace Go.Proofs.Ytekihhbihnmakaa.Geo
def haveL (m u R n : Int) : List Int := (List.range m.toNat).map fun (i : Nat) => needP m u R i n
theorem map_set (f : Nat → Int) (M j : Nat) (v : Int) : ((List.range M).map f).set j v = (List.range M).map (fun i => if i = j then v else f i) := by
  apply List.ext_getElem?
  intro i
  rw [List.getElem?_set]
  by_cases hi : i < M
  · by_cases e : j = i
    · subst e; simp [hi]
    · simp [e, hi]; intro h; exact absurd h.symm e
  · by_cases e : j = i
    · subst e; simp [hi]
    · simp [e, hi]
theorem rd_map (f : Nat → Int) (M j : Nat) (hj : j < M) : rd ((List.range M).map f) (j : Int) = f j := by
  unfold rd; rw [Int.toNat_natCast, List.getD_eq_getElem?_getD]; simp [hj]
section
variable (id m u b c z s me o a l : Int)
theorem parts_last (h : checkC id m u b c z s me o a l = 0) (n : Int) (n0 : 0 ≤ n) (n1 : n ≤ sizeC m u b c z s me o a l) (d : Nat) : ∀ (k i : Nat), (i : Int) ≤ m → m - i = d → d + 2001 < k → revetmentlaw09_PlanParts.l1 k n (haveL m u ((m - 1) * u) n) i id m u b c z s me o a l = some true := by
  obtain ⟨g, hr, hs, hd, hz⟩ := good h
  have m1 := g.m1; have m2 := g.m2
  have hin : inP (sizeC m u b c z s me o a l) n = n := by unfold inP; rw [if_neg (by omega), if_pos n1]
  induction d with
  | zero =>
    intro k i hi hd hk
    obtain ⟨k, rfl⟩ : ∃ q, k = q + 1 := ⟨k - 1, by omega⟩
    simp only [revetmentlaw09_PlanParts.l1]
    rw [if_neg (by omega), live9_eq]; rfl
  | succ d ih =>
    intro k i hi hd hk
    obtain ⟨k, rfl⟩ : ∃ q, k = q + 1 := ⟨k - 1, by omega⟩
    have ih' := ih k (i + 1) (by omega) (by omega) (by omega)
    push_cast at ih'
    simp only [revetmentlaw09_PlanParts.l1]
    rw [if_pos (by omega), if_pos (by omega), if_pos (by simp [haveL]; omega), rneed_ok (h := h) (hk := by omega) (q := ⟨by omega, by omega⟩), hin]
    simp only [Option.bind_some]
    rw [if_pos (by unfold haveL; rw [rd_map _ _ _ (by omega)]), wr ⟨by omega, by omega⟩]
    exact ih'
theorem parts_loop (h : checkC id m u b c z s me o a l = 0) (n : Nat) (n1 : (n : Int) ≤ sizeC m u b c z s me o a l) (d : Nat) : ∀ (k j : Nat), j ≤ n → n - j = d → 2 * d + 2040 < k →
    revetmentlaw09_PlanParts.l0 k n (stepsL m u 0 n) (haveL m u ((m - 1) * u) j) ((stepsL m u 0 j).length : Int) id m u b c z s me o a l = some true := by
  obtain ⟨g, hr, hs, hd, hz⟩ := good h
  have g0 := g
  obtain ⟨m1, m2, u1, u2, c1, c2, S1, S2, R1, R2, uR, hR, Su, Z2, Z1⟩ := g
  have hln := stepsL_len m u 0 n
  induction d with
  | zero =>
    intro k j hj hd hk
    obtain ⟨k, rfl⟩ : ∃ q, k = q + 1 := ⟨k - 1, by omega⟩
    obtain rfl : j = n := by omega
    simp only [revetmentlaw09_PlanParts.l0]
    rw [if_neg (by omega)]
    exact parts_last id m u b c z s me o a l h j (by omega) n1 m.toNat k 0 (by omega) (by omega) (by omega)
  | succ d ih =>
    intro k j hj hd hk
    obtain ⟨k, rfl⟩ : ∃ q, k = q + 1 := ⟨k - 1, by omega⟩
    have hjl : (j : Int) < c / u * ((m - 1) * u) := by omega
    have need : ∀ mm : Int, 0 ≤ mm → mm < m → _ := fun mm q0 q1 => need_next (mm := mm) g0 (lb := (j : Int)) (by omega) hjl q0 q1
    have nm := need_member g0 (lb := (j : Int)) (by omega) hjl
    have np := need_parity g0 (lb := (j : Int)) (by omega) hjl
    obtain ⟨p1, p2, p3, p4, p5, p6, p7, p8, p9, p10, p11, p12, p13, p14, p15⟩ := place_bd g0 (lb := (j : Int)) (by omega) hjl
    obtain ⟨b0, b1⟩ : 0 ≤ memberP m (j / ((m - 1) * u)) (j % ((m - 1) * u) / u) ∧ memberP m (j / ((m - 1) * u)) (j % ((m - 1) * u) / u) < m := ⟨Int.emod_nonneg _ (by omega), Int.emod_lt_of_pos _ (by omega)⟩
    obtain ⟨d0, d1⟩ : 0 ≤ (j : Int) / ((m - 1) * u) % m ∧ (j : Int) / ((m - 1) * u) % m < m := ⟨Int.emod_nonneg _ (by omega), Int.emod_lt_of_pos _ (by omega)⟩
    obtain ⟨rest, hrest⟩ := stepsL_pre m u 0 (show j + 1 ≤ n by omega)
    rw [stepsL_succ] at hrest
    rw [Int.zero_add] at hrest
    have hat : stepsAt m u (j : Int) = ⟨false, memberP m (j / ((m - 1) * u)) (j % ((m - 1) * u) / u), j / ((m - 1) * u) * u + j % u, j, 1⟩ :: (if ((j : Int) + 1) % ((m - 1) * u) = 0 then [⟨true, j / ((m - 1) * u) % m, j / ((m - 1) * u) * u, j / ((m - 1) * u) * ((m - 1) * u), u⟩] else []) := rfl
    have hsl : (stepsL m u 0 (j + 1)).length = (stepsL m u 0 j).length + (stepsAt m u (j : Int)).length := by rw [stepsL_succ, List.length_append, Int.zero_add]
    have ihj := fun k hk => ih k (j + 1) (by omega) (by omega) hk
    rw [hsl] at ihj
    have hle : (stepsL m u 0 (j + 1)).length ≤ (stepsL m u 0 n).length := (stepsL_pre m u 0 (show j + 1 ≤ n by omega)).length_le
    rw [hsl] at hle
    rw [hat] at hrest ihj hle
    generalize hR' : (m - 1) * u = R at *
    generalize hst : (j : Int) / R = st at *
    generalize hmb : memberP m st (j % R / u) = mb at *
    have e1 : rd_T53 (stepsL m u 0 n) ((stepsL m u 0 j).length : Int) = ⟨false, mb, st * u + j % u, j, 1⟩ := by
      rw [← hrest, List.append_assoc, List.cons_append]; exact rd53 _ _ _
    have hrd : ∀ mm : Int, 0 ≤ mm → mm < m → rd (haveL m u R j) mm = needP m u R mm j := by
      intro mm q0 q1
      obtain ⟨i, rfl⟩ := Int.eq_ofNat_of_zero_le q0
      unfold haveL; rw [rd_map _ _ _ (by omega)]
    have hnb : 0 ≤ needP m u R mb j ∧ needP m u R mb j ≤ 4096 * 64 + 64 := by rw [nm]; omega
    -- the block itself
    simp only [revetmentlaw09_PlanParts.l0]
    rw [if_pos (by simp only [List.length_cons] at hle; omega), if_pos (by omega), e1]
    simp only []
    rw [if_neg (by omega), if_neg (by omega), if_pos b0, if_pos (by simp [haveL]; omega), if_pos (by rw [hrd mb b0 b1, nm]), hrd mb b0 b1, wr (x := needP m u R mb j + 1) ⟨by omega, by omega⟩, wr (x := ((stepsL m u 0 j).length : Int) + 1) ⟨by omega, by omega⟩]
    have hset : (haveL m u R j).set mb.toNat (needP m u R mb j + 1) = (List.range m.toNat).map fun (i : Nat) => needP m u R i j + (if mb = i then 1 else 0) := by
      unfold haveL; rw [map_set]
      apply List.map_congr_left
      intro i hi
      by_cases e : i = mb.toNat
      · have : (i : Int) = mb := by omega
        rw [if_pos e, if_pos this.symm, this]
      · rw [if_neg e, if_neg (fun z => e (by omega)), Int.add_zero]
    rw [hset]
    by_cases c1' : ((j : Int) + 1) % R = 0
    · rw [if_pos c1'] at hrest ihj hle
      obtain ⟨k, rfl⟩ : ∃ q, k = q + 1 := ⟨k - 1, by omega⟩
      have e2 : rd_T53 (stepsL m u 0 n) (((stepsL m u 0 j).length : Int) + 1) = ⟨true, st % m, st * u, st * R, u⟩ := by
        rw [← hrest, show ((stepsL m u 0 j).length : Int) + 1 = ((stepsL m u 0 j ++ [(⟨false, mb, st * u + j % u, j, 1⟩ : S53)]).length : Int) by simp]
        rw [show stepsL m u 0 j ++ [(⟨false, mb, st * u + j % u, j, 1⟩ : S53), ⟨true, st % m, st * u, st * R, u⟩] ++ rest = (stepsL m u 0 j ++ [⟨false, mb, st * u + j % u, j, 1⟩]) ++ ⟨true, st % m, st * u, st * R, u⟩ :: rest by simp]
        exact rd53 _ _ _
      have hrd2 : rd ((List.range m.toNat).map fun (i : Nat) => needP m u R i j + (if mb = i then 1 else 0)) (st % m) = st * u := by
        obtain ⟨i, hi⟩ := Int.eq_ofNat_of_zero_le d0
        rw [hi, rd_map _ _ _ (by omega), if_neg (fun z => np.2 (by rw [hi]; exact z.symm)), ← hi, np.1]; omega
      simp only [revetmentlaw09_PlanParts.l0]
      rw [if_pos (by simp only [List.length_cons, List.length_nil] at hle; omega), if_pos (by omega), e2]
      simp only []
      rw [if_neg (by omega), if_neg (by omega), if_pos d0, if_pos (by simp; omega), if_pos hrd2, hrd2, wr (x := st * u + u) ⟨by omega, by omega⟩, wr (x := ((stepsL m u 0 j).length : Int) + 1 + 1) ⟨by omega, by omega⟩]
      have hset2 : ((List.range m.toNat).map fun (i : Nat) => needP m u R i j + (if mb = i then 1 else 0)).set (st % m).toNat (st * u + u) = haveL m u R ((j + 1 : Nat) : Int) := by
        unfold haveL; rw [map_set]
        apply List.map_congr_left
        intro i hi
        have hi' := List.mem_range.1 hi
        have hn := need (i : Int) (by omega) (by omega)
        push_cast
        rw [hn]
        by_cases e : i = (st % m).toNat
        · have e' : (i : Int) = st % m := by omega
          rw [if_pos e, e', if_neg (fun z => np.2 z.symm), if_pos ⟨c1', rfl⟩, np.1]; omega
        · rw [if_neg e, if_neg (c := ((j : Int) + 1) % R = 0 ∧ st % m = i) (fun z => e (by have := z.2; omega))]; omega
      rw [hset2]
      have ihk := ihj k (by omega)
      simp only [List.length_cons, List.length_nil] at ihk
      push_cast at ihk ⊢
      exact ihk
    · rw [if_neg c1'] at hrest ihj hle
      have hset2 : ((List.range m.toNat).map fun (i : Nat) => needP m u R i j + (if mb = i then 1 else 0)) = haveL m u R ((j + 1 : Nat) : Int) := by
        unfold haveL
        apply List.map_congr_left
        intro i hi
        have hi' := List.mem_range.1 hi
        have hn := need (i : Int) (by omega) (by omega)
        push_cast
        rw [hn, if_neg (c := ((j : Int) + 1) % R = 0 ∧ st % m = i) (fun z => c1' z.1)]; omega
      rw [hset2]
      have ihk := ihj k (by omega)
      simp only [List.length_cons, List.length_nil] at ihk
      push_cast at ihk ⊢
      exact ihk
theorem small_check (h : revetmentref07_Small.f id m u b c z s me o a l = some true) : checkC id m u b c z s me o a l = 0 := by
  unfold revetmentref07_Small.f revetmentref07_Check.f at h
  simp only [Option.bind_some] at h
  by_cases c1 : checkC id m u b c z s me o a l = 0
  · exact c1
  · rw [if_neg c1] at h; cases h
/-- The law: in two parts. -/
theorem planParts_true (k : Nat) (hk : 5000 ≤ k) (n cut : Int) : revetmentlaw09_PlanParts.f k id m u b c z s me o a l n cut = some true := by
  obtain ⟨k, rfl⟩ : ∃ q, k = q + 1 := ⟨k - 1, by omega⟩
  have hlive : revetmentlaw09_PlanParts.j0 (k + 1) n cut true id m u b c z s me o a l = some true := by
    simp only [revetmentlaw09_PlanParts.j0, if_true]; rw [live9_eq]; rfl
  unfold revetmentlaw09_PlanParts.f
  obtain ⟨r, hr⟩ := small_some id m u b c z s me o a l
  rw [hr]
  simp only [Option.bind_some]
  cases r with
  | false => rw [if_neg (by decide)]; exact hlive
  | true =>
    have h := small_check id m u b c z s me o a l hr
    have hz := small_size h hr
    obtain ⟨s1, s2, s3⟩ := small_bd h hr
    obtain ⟨g, _, _, _, gsz⟩ := good h
    have m1 := g.m1; have m2 := g.m2
    rw [if_pos rfl, rright_eq]
    simp only [Option.bind_some]
    by_cases q : checkC id m u b c z s me o a l = 0 ∧ (0 : Int) ≤ 0 ∧ 0 ≤ n ∧ 0 + n ≤ sizeC m u b c z s me o a l
    · rw [if_pos (decide_eq_true q)]
      by_cases c1 : cut < 0
      · rw [if_pos c1]; exact hlive
      · rw [if_neg c1]
        by_cases c2 : cut > n
        · rw [decide_eq_true c2]; exact hlive
        · rw [decide_eq_false c2]
          simp only [revetmentlaw09_PlanParts.j0, Bool.false_eq_true, if_false, plan_Steps.f, Option.bind_some]
          obtain ⟨N', hN⟩ := Int.eq_ofNat_of_zero_le q.2.2.1
          obtain ⟨C', hC⟩ := Int.eq_ofNat_of_zero_le (show 0 ≤ cut by omega)
          have f1 : stepsF id m u b c z s me o a l 0 n = stepsL m u 0 N' := by unfold stepsF; rw [if_pos q, hN]; rfl
          have f2 : stepsF id m u b c z s me o a l 0 cut = stepsL m u 0 C' := by unfold stepsF; rw [if_pos ⟨h, by omega, by omega, by omega⟩, hC]; rfl
          have f3 : stepsF id m u b c z s me o a l cut (n - cut) = stepsL m u (0 + (C' : Int)) (N' - C') := by
            unfold stepsF; rw [if_pos ⟨h, by omega, by omega, by omega⟩, Int.zero_add, ← hC, show (n - cut).toNat = N' - C' by omega]
          have l1 := stepsL_len m u 0 N'; have l2 := stepsL_len m u 0 C'; have l3 := stepsL_len m u (0 + (C' : Int)) (N' - C')
          rw [wr (x := n - cut) ⟨by omega, by omega⟩, f1, f2, f3]
          rw [if_pos (by simp; omega)]
          simp only [List.nil_append]
          rw [if_pos (by omega), ← stepsL_split, show C' + (N' - C') = N' by omega, same_ok (hx := by omega) (hk := by omega)]
          simp only [Option.bind_some, if_true]
          rw [if_pos (by omega), if_pos (by omega)]
          have hrep : List.replicate m.toNat (0 : Int) = haveL m u ((m - 1) * u) ((0 : Nat) : Int) := by
            unfold haveL
            apply List.ext_getElem
            · simp
            · intro i h1 h2
              have hi : i < m.toNat := by simpa using h1
              simp only [List.getElem_replicate, List.getElem_map, List.getElem_range]
              obtain ⟨p1, p2, p3, p4⟩ := unitP_spec (m := m) (st := 0) (mm := (i : Int)) m1 (by omega) (by omega) (by omega)
              unfold needP
              rw [Int.natCast_zero, Int.zero_ediv, Int.zero_emod, Int.zero_mul]
              split
              · rfl
              · rw [clampP_le]
                · rfl
                · have : 0 ≤ unitP m 0 i * u := Int.mul_nonneg (by omega) (by have := g.u1; omega)
                  omega
          have := parts_loop id m u b c z s me o a l h N' (by omega) N' k 0 (by omega) (by omega) (by omega)
          rw [hN, hrep]
          simpa [stepsL] using this
    · rw [if_neg (by simpa using q)]; exact hlive
end
end Go.Proofs.Ytekihhbihnmakaa.Geo
