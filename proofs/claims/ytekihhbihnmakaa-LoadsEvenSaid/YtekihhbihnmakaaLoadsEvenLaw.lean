/- Plain law: of a whole zone each member has as much, parity is one part of the members; of all first blocks how far loads part. No program in sight. No condition. -/
import Derived.Test.YtekihhbihnmakaaPAx22
import Derived.Test.YtekihhbihnmakaaPAx60
import Derived.Test.YtekihhbihnmakaaPAx9
import Derived.Test.YtekihhbihnmakaaPAx903
import Derived.Test.YtekihhbihnmakaaNextLaw
import Derived.Test.YtekihhbihnmakaaSmall0
import Derived.Test.YtekihhbihnmakaaLive44
open Go.RowKit Go.Proofs.Ytekihhbihnmakaa Go.Proofs.Ytekihhbihnmakaa.PA Go.Proofs.YtekihhbihnmakaaW.PrintWords Go.Proofs.YtekihhbihnmakaaW.PrintLast
set_option linter.unusedVariables false
set_option linter.unusedSimpArgs false
namespace Go.Proofs.Ytekihhbihnmakaa.Geo
def gL (L : List S75) (i : Nat) : S75 := L.getD i ⟨0, 0⟩
theorem gL_set (L : List S75) (j : Nat) (x : S75) (hj : j < L.length) (i : Nat) : gL (L.set j x) i = if i = j then x else gL L i := by
  unfold gL
  rw [List.getD_eq_getElem?_getD, List.getD_eq_getElem?_getD, List.getElem?_set]
  by_cases e : j = i
  · subst e; simp [hj]
  · rw [if_neg e, if_neg (fun z => e z.symm)]
def tD : List S75 → Int
  | [] => 0
  | x :: l => x.f0 + tD l
def tP : List S75 → Int
  | [] => 0
  | x :: l => x.f1 + tP l
theorem t_set (L : List S75) (x : S75) : ∀ j : Nat, j < L.length → tD (L.set j x) = tD L - (gL L j).f0 + x.f0 ∧ tP (L.set j x) = tP L - (gL L j).f1 + x.f1 := by
  induction L with
  | nil => intro j hj; simp at hj
  | cons y L ih =>
    intro j hj
    cases j with
    | zero => simp only [List.set_cons_zero, tD, tP, gL, List.getD_cons_zero]; omega
    | succ j =>
      have := ih j (by simpa using hj)
      simp only [List.set_cons_succ, tD, tP, gL, List.getD_cons_succ] at this ⊢; omega
theorem t_rep (M : Nat) : tD (List.replicate M ⟨0, 0⟩) = 0 ∧ tP (List.replicate M ⟨0, 0⟩) = 0 := by
  induction M with
  | zero => exact ⟨rfl, rfl⟩
  | succ M ih => simp only [List.replicate_succ, tD, tP]; omega
/-- What is known of the loads of the first j blocks. -/
structure LoadsAt (m u R : Int) (j : Nat) (L : List S75) : Prop where
  len : L.length = m.toNat
  sum : ∀ i : Nat, (i : Int) < m → (gL L i).f0 + (gL L i).f1 = needP m u R i j ∧ 0 ≤ (gL L i).f0 ∧ 0 ≤ (gL L i).f1
  tD : tD L = j
  tP : tP L = j / R * u
section
variable (id m u b c z s me o a l : Int)
theorem loads_at (h : checkC id m u b c z s me o a l = 0) (j : Nat) (hj : (j : Int) ≤ sizeC m u b c z s me o a l) : LoadsAt m u ((m - 1) * u) j ((stepsL m u 0 j).foldl addL (List.replicate m.toNat ⟨0, 0⟩)) := by
  obtain ⟨g, hr, hs, hd, hz⟩ := good h
  have g0 := g
  obtain ⟨m1, m2, u1, u2, c1, c2, S1, S2, R1, R2, uR, hR, Su, Z2, Z1⟩ := g
  induction j with
  | zero =>
    refine ⟨by simp [stepsL], fun i hi => ?_, (by simpa [stepsL] using (t_rep m.toNat).1), ?_⟩
    · have e : gL (List.replicate m.toNat (⟨0, 0⟩ : S75)) i = ⟨0, 0⟩ := by
        unfold gL; rw [List.getD_eq_getElem?_getD, List.getElem?_replicate]; split <;> rfl
      have e2 : (stepsL m u 0 0).foldl addL (List.replicate m.toNat (⟨0, 0⟩ : S75)) = List.replicate m.toNat ⟨0, 0⟩ := by simp [stepsL]
      rw [e2, e]
      obtain ⟨p1, p2, p3, p4⟩ := unitP_spec (m := m) (st := 0) (mm := (i : Int)) m1 (by omega) (by omega) hi
      refine ⟨?_, by simp, by simp⟩
      unfold needP
      rw [Int.natCast_zero, Int.zero_ediv, Int.zero_emod, Int.zero_mul]
      split
      · rfl
      · have hq : 0 ≤ unitP m 0 i * u := Int.mul_nonneg (by omega) (by omega)
        rw [clampP_le (by omega)]
    · have e2 : (stepsL m u 0 0).foldl addL (List.replicate m.toNat (⟨0, 0⟩ : S75)) = List.replicate m.toNat ⟨0, 0⟩ := by simp [stepsL]
      rw [e2, (t_rep m.toNat).2]; simp
  | succ j ih =>
    have hjl : (j : Int) < c / u * ((m - 1) * u) := by push_cast at hj; omega
    have ihj := ih (by push_cast at hj; omega)
    have need : ∀ mm : Int, 0 ≤ mm → mm < m → _ := fun mm q0 q1 => need_next (mm := mm) g0 (lb := (j : Int)) (by omega) hjl q0 q1
    have np := need_parity g0 (lb := (j : Int)) (by omega) hjl
    obtain ⟨p1, p2, p3, p4, p5, p6, p7, p8, p9, p10, p11, p12, p13, p14, p15⟩ := place_bd g0 (lb := (j : Int)) (by omega) hjl
    obtain ⟨b0, b1⟩ : 0 ≤ memberP m (j / ((m - 1) * u)) (j % ((m - 1) * u) / u) ∧ memberP m (j / ((m - 1) * u)) (j % ((m - 1) * u) / u) < m := ⟨Int.emod_nonneg _ (by omega), Int.emod_lt_of_pos _ (by omega)⟩
    obtain ⟨d0, d1⟩ : 0 ≤ (j : Int) / ((m - 1) * u) % m ∧ (j : Int) / ((m - 1) * u) % m < m := ⟨Int.emod_nonneg _ (by omega), Int.emod_lt_of_pos _ (by omega)⟩
    obtain ⟨nx1, nx2⟩ := next_row (x := (j : Int)) (R := (m - 1) * u) (by omega) (by omega)
    have hat : stepsAt m u (0 + (j : Int)) = ⟨false, memberP m (j / ((m - 1) * u)) (j % ((m - 1) * u) / u), j / ((m - 1) * u) * u + j % u, j, 1⟩ :: (if ((j : Int) + 1) % ((m - 1) * u) = 0 then [⟨true, j / ((m - 1) * u) % m, j / ((m - 1) * u) * u, j / ((m - 1) * u) * ((m - 1) * u), u⟩] else []) := by rw [Int.zero_add]; rfl
    rw [stepsL_succ, List.foldl_append, hat]
    obtain ⟨L, hL⟩ : ∃ L, L = (stepsL m u 0 j).foldl addL (List.replicate m.toNat (⟨0, 0⟩ : S75)) := ⟨_, rfl⟩
    rw [← hL] at ihj ⊢
    obtain ⟨l1, l2, l3, l4⟩ := ihj
    generalize hR' : (m - 1) * u = R at *
    generalize hst : (j : Int) / R = st at *
    generalize hmb : memberP m st (j % R / u) = mb at *
    obtain ⟨bi, hbi⟩ := Int.eq_ofNat_of_zero_le b0
    obtain ⟨di, hdi⟩ := Int.eq_ofNat_of_zero_le d0
    have hnb : ∀ i : Nat, (i : Int) < m → needP m u R i j ≤ 4096 * 64 + 64 := by
      intro i hi
      unfold needP
      have := clampP_bd (x := (j : Int) % R - unitP m ((j : Int) / R) i * u) (u := u) (by omega)
      rw [hst] at this ⊢
      split <;> omega
    have e1 : addL L ⟨false, mb, st * u + j % u, j, 1⟩ = L.set bi ⟨(gL L bi).f0 + 1, (gL L bi).f1⟩ := by
      unfold addL
      have h1 := l2 bi (by omega); have h2 := hnb bi (by omega)
      rw [hbi]
      simp only [Int.toNat_natCast, Bool.false_eq_true, if_false]
      show L.set bi ⟨wrap64 ((gL L bi).f0 + 1), (gL L bi).f1⟩ = _
      rw [wr ⟨by omega, by omega⟩]
    have t1 := t_set L ⟨(gL L bi).f0 + 1, (gL L bi).f1⟩ bi (by omega)
    have g1 := gL_set L bi ⟨(gL L bi).f0 + 1, (gL L bi).f1⟩ (by omega)
    rw [List.foldl_cons, e1]
    by_cases c1' : ((j : Int) + 1) % R = 0
    · rw [if_pos c1'] at nx1 ⊢
      rw [List.foldl_cons, List.foldl_nil]
      have hne : di ≠ bi := fun z => np.2 (by omega)
      have e2 : addL (L.set bi ⟨(gL L bi).f0 + 1, (gL L bi).f1⟩) ⟨true, st % m, st * u, st * R, u⟩ = (L.set bi ⟨(gL L bi).f0 + 1, (gL L bi).f1⟩).set di ⟨(gL L di).f0, (gL L di).f1 + u⟩ := by
        unfold addL
        have h1 := l2 di (by omega); have h2 := hnb di (by omega)
        rw [hdi]
        simp only [Int.toNat_natCast, if_true]
        show (L.set bi ⟨(gL L bi).f0 + 1, (gL L bi).f1⟩).set di ⟨(gL (L.set bi ⟨(gL L bi).f0 + 1, (gL L bi).f1⟩) di).f0, wrap64 ((gL (L.set bi ⟨(gL L bi).f0 + 1, (gL L bi).f1⟩) di).f1 + u)⟩ = _
        rw [g1, if_neg hne, wr ⟨by omega, by omega⟩]
      rw [e2]
      have t2 := t_set (L.set bi ⟨(gL L bi).f0 + 1, (gL L bi).f1⟩) ⟨(gL L di).f0, (gL L di).f1 + u⟩ di (by simp; omega)
      have g2 := gL_set (L.set bi ⟨(gL L bi).f0 + 1, (gL L bi).f1⟩) di ⟨(gL L di).f0, (gL L di).f1 + u⟩ (by simp; omega)
      have g3 := g1 di
      rw [if_neg hne] at g3
      rw [g3] at t2
      dsimp only at t1 t2
      refine ⟨by simp; omega, fun i hi => ?_, ?_, ?_⟩
      · have hn := need (i : Int) (by omega) hi
        have hl := l2 i hi
        push_cast
        rw [hn, g2 i, g1 i]
        by_cases q1 : i = di
        · rw [if_pos q1, if_neg (fun z => hne (by omega)), if_pos ⟨c1', by omega⟩, q1]
          have hl := l2 di (by omega)
          dsimp only
          omega
        · rw [if_neg q1]
          by_cases q2 : i = bi
          · rw [if_pos q2, if_pos (by omega), if_neg (fun z => q1 (by omega)), q2]
            have hl := l2 bi (by omega)
            dsimp only
            omega
          · rw [if_neg q2, if_neg (fun z => q2 (by omega)), if_neg (fun z => q1 (by omega))]
            omega
      · push_cast; omega
      · push_cast
        rw [nx1, t2.2, t1.2, Int.add_mul, Int.one_mul]; omega
    · rw [if_neg c1'] at nx1 ⊢
      rw [List.foldl_nil]
      dsimp only at t1
      refine ⟨by simp; omega, fun i hi => ?_, ?_, ?_⟩
      · have hn := need (i : Int) (by omega) hi
        have hl := l2 i hi
        push_cast
        rw [hn, g1 i, if_neg (c := ((j : Int) + 1) % R = 0 ∧ st % m = i) (fun z => c1' z.1)]
        by_cases q2 : i = bi
        · rw [if_pos q2, if_pos (by omega), q2]
          have hl := l2 bi (by omega)
          dsimp only
          omega
        · rw [if_neg q2, if_neg (fun z => q2 (by omega))]
          omega
      · push_cast; omega
      · push_cast
        rw [nx1, t1.2, Int.add_zero]; omega
theorem evenP_bd (L : List S75) (a b : Int) (hab : a ≤ b) (h : ∀ x ∈ L, a ≤ wholeP x ∧ wholeP x ≤ b) : 0 ≤ evenP L ∧ evenP L ≤ b - a := by
  have key : ∀ (L : List S75), (∀ x ∈ L, a ≤ wholeP x ∧ wholeP x ≤ b) → ∀ lo hi : Int, a ≤ lo → hi ≤ b → lo ≤ hi → a ≤ loL lo L ∧ hiL hi L ≤ b ∧ loL lo L ≤ hiL hi L := by
    intro L
    induction L with
    | nil => intro _ lo hi h1 h2 h3; exact ⟨h1, h2, h3⟩
    | cons x L ih =>
      intro hx lo hi h1 h2 h3
      have hxx := hx x (List.mem_cons_self ..)
      simp only [loL, hiL]
      have e1 : a ≤ mn lo (wholeP x) ∧ mn lo (wholeP x) ≤ lo := by unfold mn; split <;> omega
      have e2 : mx hi (wholeP x) ≤ b ∧ hi ≤ mx hi (wholeP x) := by unfold mx; split <;> omega
      exact ih (fun y hy => hx y (List.mem_cons_of_mem _ hy)) _ _ e1.1 e2.1 (by omega)
  cases L with
  | nil => simp only [evenP]; omega
  | cons x L =>
    have hx := h x (List.mem_cons_self ..)
    have := key L (fun y hy => h y (List.mem_cons_of_mem _ hy)) (wholeP x) (wholeP x) hx.1 hx.2 (Int.le_refl _)
    simp only [evenP]; omega
theorem need_range {m u c R S n mm : Int} (g : Good m u c S R) (h0 : 0 ≤ n) (q0 : 0 ≤ mm) (q1 : mm < m) : n / R * u ≤ needP m u R mm n ∧ needP m u R mm n ≤ n / R * u + u := by
  have u1 := g.u1
  unfold needP
  have := clampP_bd (x := n % R - unitP m (n / R) mm * u) (u := u) (by omega)
  split <;> omega
theorem need_full {m u c R S mm : Int} (g : Good m u c S R) (q0 : 0 ≤ mm) (q1 : mm < m) : needP m u R mm (S * R) = c := by
  obtain ⟨m1, m2, u1, u2, c1, c2, S1, S2, R1, R2, uR, hR, Su, Z2, Z1⟩ := g
  unfold needP
  rw [Int.mul_ediv_cancel _ (by omega), Int.mul_emod_left, Su]
  split
  · omega
  · have : 0 ≤ unitP m S mm * u := Int.mul_nonneg (by omega) (by omega)
    rw [clampP_le (by omega), Int.add_zero]
/-- Loads of which each number may be: heldP leaves them. -/
theorem held_tot (L : List S75) (h : ∀ x ∈ L, 0 ≤ x.f0 ∧ 0 ≤ x.f1 ∧ x.f0 + x.f1 ≤ 1000000) : sD L = tD L ∧ sP L = tP L ∧ ∀ x ∈ L, wholeP x = x.f0 + x.f1 := by
  have hp : ∀ y : Int, 0 ≤ y → y ≤ 1000000 → heldP y = y := fun y y0 y1 => by unfold heldP; rw [if_neg (by omega), if_neg (by omega)]
  induction L with
  | nil => exact ⟨rfl, rfl, by simp⟩
  | cons x L ih =>
    have hx := h x (List.mem_cons_self ..)
    obtain ⟨i1, i2, i3⟩ := ih (fun y hy => h y (List.mem_cons_of_mem _ hy))
    have e0 := hp x.f0 hx.1 (by omega); have e1 := hp x.f1 hx.2.1 (by omega)
    refine ⟨by simp only [sD, tD, e0, i1], by simp only [sP, tP, e1, i2], fun y hy => ?_⟩
    rcases List.mem_cons.1 hy with rfl | hy
    · unfold wholeP; rw [e0, e1]
    · exact i3 y hy
theorem mem_gL {L : List S75} {x : S75} (h : x ∈ L) : ∃ i : Nat, i < L.length ∧ x = gL L i := by
  obtain ⟨i, hi, rfl⟩ := List.getElem_of_mem h
  exact ⟨i, hi, by unfold gL; rw [List.getD_eq_getElem?_getD, List.getElem?_eq_getElem hi]; rfl⟩
theorem even_loop2 (x1 : Int) (L : List S75) (hl : L.length ≤ 1000) (hc : ∀ i : Nat, i < L.length → (gL L i).f0 + (gL L i).f1 = c) (hcb : 0 ≤ c ∧ c ≤ 1000000) (K0 : Nat) (next : ∀ k, K0 ≤ k → revetmentlaw44_LoadsEven.l0 (k + 1) x1 L (L.length : Int) id m u b c z s me o a l = some true) (d : Nat) : ∀ (k i : Nat), i ≤ L.length → L.length - i = d → d + K0 ≤ k → revetmentlaw44_LoadsEven.l0 (k + 1) x1 L (i : Int) id m u b c z s me o a l = some true := by
  induction d with
  | zero =>
    intro k i hi hd hk
    obtain rfl : i = L.length := by omega
    exact next k (by omega)
  | succ d ih =>
    intro k i hi hd hk
    obtain ⟨k, rfl⟩ : ∃ q, k = q + 1 := ⟨k - 1, by omega⟩
    have ih' := ih k (i + 1) (by omega) (by omega) (by omega)
    push_cast at ih'
    have e : rd_T75 L (i : Int) = gL L i := by unfold rd_T75 gL; rw [Int.toNat_natCast]; rfl
    have hci := hc i (by omega)
    rw [revetmentlaw44_LoadsEven.l0, if_pos (by omega), if_pos (by omega), e, hci, wr ⟨by omega, by omega⟩, if_pos rfl, wr ⟨by omega, by omega⟩]
    exact ih'
/-- The law: of a whole zone. -/
theorem loadsEven_true (k : Nat) (hk : 2000 ≤ k) (n : Int) : revetmentlaw44_LoadsEven.f k id m u b c z s me o a l n = some true := by
  obtain ⟨k, rfl⟩ : ∃ q, k = q + 2 := ⟨k - 2, by omega⟩
  have hlive : revetmentlaw44_LoadsEven.j0 (k + 2) n true id m u b c z s me o a l = some true := by
    simp only [revetmentlaw44_LoadsEven.j0, if_true]; rw [live44_eq]; rfl
  unfold revetmentlaw44_LoadsEven.f
  obtain ⟨r, hr⟩ := small_some id m u b c z s me o a l
  rw [hr]
  simp only [Option.bind_some]
  cases r with
  | false => rw [if_neg (by decide)]; exact hlive
  | true =>
    rw [if_pos rfl]
    have h : checkC id m u b c z s me o a l = 0 := by
      unfold revetmentref07_Small.f revetmentref07_Check.f at hr
      simp only [Option.bind_some] at hr
      by_cases c1 : checkC id m u b c z s me o a l = 0
      · exact c1
      · rw [if_neg c1] at hr; cases hr
    obtain ⟨g, _, _, _, hz⟩ := good h
    have g0 := g
    obtain ⟨m1, m2, u1, u2, c1, c2, S1, S2, R1, R2, uR, hR, Su, Z2, Z1⟩ := g
    by_cases q1 : n < 0
    · rw [if_pos q1]; exact hlive
    · rw [if_neg q1]
      simp only [revetmentref07_Size.f, Option.bind_some]
      by_cases q2 : n > sizeC m u b c z s me o a l
      · rw [decide_eq_true q2]; exact hlive
      · rw [decide_eq_false q2, revetmentlaw44_LoadsEven.j0, if_neg (by decide)]
        simp only [revetmentref07_Size.f, loads_Of.f, Option.bind_some]
        obtain ⟨Z, hZ⟩ := Int.eq_ofNat_of_zero_le (show 0 ≤ sizeC m u b c z s me o a l by omega)
        obtain ⟨N', hN⟩ := Int.eq_ofNat_of_zero_le (show 0 ≤ n by omega)
        have fo : ∀ q : Nat, (q : Int) ≤ sizeC m u b c z s me o a l → loadsOf id m u b c z s me o a l 0 (q : Int) = (stepsL m u 0 q).foldl addL (List.replicate m.toNat ⟨0, 0⟩) := by
          intro q hq
          unfold loadsOf; rw [if_pos h]
          unfold stepsF; rw [if_pos ⟨h, by omega, by omega, by omega⟩, Int.toNat_natCast]
        have aZ := loads_at id m u b c z s me o a l h Z (by omega)
        have aN := loads_at id m u b c z s me o a l h N' (by omega)
        have foN := fo N' (by omega)
        rw [← hN] at foN
        rw [hZ, fo Z (by omega)]
        generalize (stepsL m u 0 Z).foldl addL (List.replicate m.toNat (⟨0, 0⟩ : S75)) = LZ at *
        generalize (stepsL m u 0 N').foldl addL (List.replicate m.toNat (⟨0, 0⟩ : S75)) = LN at *
        have hZS : (Z : Int) = c / u * ((m - 1) * u) := by omega
        have sZ : ∀ i : Nat, i < LZ.length → (gL LZ i).f0 + (gL LZ i).f1 = c ∧ 0 ≤ (gL LZ i).f0 ∧ 0 ≤ (gL LZ i).f1 := by
          intro i hi
          have := aZ.sum i (by have := aZ.len; omega)
          rw [hZS, need_full g0 (by omega) (by have := aZ.len; omega)] at this
          exact this
        have rN : ∀ i : Nat, i < LN.length → (N' : Int) / ((m - 1) * u) * u ≤ (gL LN i).f0 + (gL LN i).f1 ∧ (gL LN i).f0 + (gL LN i).f1 ≤ (N' : Int) / ((m - 1) * u) * u + u ∧ 0 ≤ (gL LN i).f0 ∧ 0 ≤ (gL LN i).f1 := by
          intro i hi
          have h1 := aN.sum i (by have := aN.len; omega)
          have h2 := need_range g0 (n := (N' : Int)) (mm := (i : Int)) (by omega) (by omega) (by have := aN.len; omega)
          omega
        have nb : 0 ≤ (N' : Int) / ((m - 1) * u) * u ∧ (N' : Int) / ((m - 1) * u) * u ≤ 300000 := by
          have d0 : 0 ≤ (N' : Int) / ((m - 1) * u) := Int.ediv_nonneg (by omega) (by omega)
          have d1 : (N' : Int) / ((m - 1) * u) ≤ c / u := by
            rcases Int.lt_or_le (c / u) ((N' : Int) / ((m - 1) * u)) with z | z
            · have a3 := Int.mul_ediv_add_emod (N' : Int) ((m - 1) * u)
              have a2 := Int.emod_nonneg (N' : Int) (show (m - 1) * u ≠ 0 by omega)
              have : (c / u + 1) * ((m - 1) * u) ≤ (N' : Int) / ((m - 1) * u) * ((m - 1) * u) := Int.mul_le_mul_of_nonneg_right (by omega) (by omega)
              rw [Int.add_mul, Int.one_mul] at this
              rw [Int.mul_comm] at a3
              omega
            · exact z
          have d2 : (N' : Int) / ((m - 1) * u) * u ≤ 4096 * 64 := Int.mul_le_mul (by omega) (by omega) (by omega) (by omega)
          exact ⟨Int.mul_nonneg d0 (by omega), by omega⟩
        have hvZ := held_tot LZ (fun x hx => by obtain ⟨i, hi, rfl⟩ := mem_gL hx; have := sZ i hi; omega)
        have hvN := held_tot LN (fun x hx => by obtain ⟨i, hi, rfl⟩ := mem_gL hx; have := rN i hi; omega)
        have evZ := evenP_bd LZ c c (Int.le_refl _) (fun x hx => by obtain ⟨i, hi, rfl⟩ := mem_gL hx; have := sZ i hi; rw [hvZ.2.2 _ hx]; omega)
        have evN := evenP_bd LN _ _ (show (N' : Int) / ((m - 1) * u) * u ≤ (N' : Int) / ((m - 1) * u) * u + u by omega) (fun x hx => by obtain ⟨i, hi, rfl⟩ := mem_gL hx; have := rN i hi; rw [hvN.2.2 _ hx]; omega)
        have lZ := aZ.len; have lN := aN.len
        refine even_loop2 id m u b c z s me o a l _ LZ (by omega) (fun i hi => (sZ i hi).1) ⟨by omega, by omega⟩ 1500 (fun k hk => ?_) LZ.length k 0 (by omega) (by omega) (by omega)
        rw [revetmentlaw44_LoadsEven.l0, if_neg (by omega), sum_ok LZ (by omega) k (by omega)]
        simp only [Option.bind_some]
        obtain ⟨p, w, hp, hw, hpw, hwb, hpart⟩ := part_ok (sD LZ) (sP LZ) k (by omega)
        rw [hpart]
        simp only [Option.bind_some]
        have tp : sP LZ = c := by
          rw [hvZ.2.1, aZ.tP, hZS, Int.mul_ediv_cancel _ (by omega), Su]
        have td' : sD LZ = c / u * ((m - 1) * u) := by rw [hvZ.1, aZ.tD, hZS]
        have hld : ∀ y : Int, 0 ≤ y → y ≤ 4000000 → heldP y = y := fun y y0 y1 => by unfold heldP; rw [if_neg (by omega), if_neg (by omega)]
        rw [tp, hld c (by omega) (by omega)] at hp
        have hwv : (w : Int) = c * m := by
          rw [hw]; show heldP (sD LZ) + heldP (sP LZ) = _
          rw [tp, td', hld c (by omega) (by omega), hld _ (by omega) (by omega)]
          have e3 : c / u * ((m - 1) * u) = c * (m - 1) := by
            rw [Int.mul_comm (m - 1) u, ← Int.mul_assoc, Su]
          rw [e3, Int.mul_sub, Int.mul_one]; omega
        obtain ⟨M, hM⟩ := Int.eq_ofNat_of_zero_le (show 0 ≤ m by omega)
        have hwN : w = p * M := by
          have : (w : Int) = ((p * M : Nat) : Int) := by rw [hwv, ← hp, hM]; push_cast; rfl
          exact Int.ofNat.inj this
        have hp0 : 0 < p := by omega
        have hg : Nat.gcd w p = p := by rw [hwN, Nat.gcd_comm]; exact Nat.gcd_mul_right_right _ _
        have hw0 : ¬ w = 0 := by rw [hwN]; intro z; have := Nat.mul_eq_zero.1 z; omega
        rw [if_neg hw0, hg, Nat.div_self hp0, hwN, Nat.mul_div_cancel_left _ hp0, even_ok LZ (by omega) k (by omega)]
        simp only [Option.bind_some]
        rw [if_pos (by omega), if_pos (by rfl), if_pos (by omega)]
        simp only [loads_Of.f, Option.bind_some]
        rw [foN, even_ok LN (by omega) k (by omega)]
        simp only [Option.bind_some]
        rw [if_pos (by omega), live44_eq]; rfl
end
end Go.Proofs.Ytekihhbihnmakaa.Geo
