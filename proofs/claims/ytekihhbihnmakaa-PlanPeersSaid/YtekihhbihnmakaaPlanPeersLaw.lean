/- Plain law: of which other blocks a block is made, as the reference has it. No program in sight. No condition. -/
import Derived.Test.YtekihhbihnmakaaPAx22
import Derived.Test.YtekihhbihnmakaaPAx33
import Derived.Test.YtekihhbihnmakaaPAx34
import Derived.Test.YtekihhbihnmakaaPAx35
import Derived.Test.YtekihhbihnmakaaPAx5
import Derived.Test.YtekihhbihnmakaaPAx6
import Derived.Test.YtekihhbihnmakaaPAx9
import Derived.Test.YtekihhbihnmakaaSmallLaw
open Go.RowKit Go.Proofs.Ytekihhbihnmakaa Go.Proofs.Ytekihhbihnmakaa.PA Go.Proofs.YtekihhbihnmakaaW.PrintWords Go.Proofs.YtekihhbihnmakaaW.PrintLast
set_option linter.unusedVariables false
set_option linter.unusedSimpArgs false
namespace Go.Proofs.Ytekihhbihnmakaa.Geo
def pl25 (m u R lb : Int) : S25 := ⟨lb / R, lb % R / u, lb % u, memberP m (lb / R) (lb % R / u), lb / R * u + lb % u⟩
/-- What unit v gives. -/
def peerAt (m u R st un pin n v : Int) : List S25 := if v ≠ un ∧ st * R + v * u + pin < n then [pl25 m u R (st * R + v * u + pin)] else []
def peersTo (m u R st un pin n : Int) (v : Nat) : List S25 := (List.range v).flatMap (fun (i : Nat) => peerAt m u R st un pin n i)
theorem peersTo_succ (m u R st un pin n : Int) (v : Nat) : peersTo m u R st un pin n (v + 1) = peersTo m u R st un pin n v ++ peerAt m u R st un pin n v := by
  simp [peersTo, List.range_succ, List.flatMap_append]
theorem peersTo_len (m u R st un pin n : Int) (v : Nat) : (peersTo m u R st un pin n v).length ≤ v := by
  induction v with
  | zero => simp [peersTo]
  | succ v ih =>
    rw [peersTo_succ, List.length_append]
    have : (peerAt m u R st un pin n v).length ≤ 1 := by unfold peerAt; split <;> simp
    omega
/-- What block i of the row gives. -/
def rowAt (m u R st un pin n i : Int) : List S25 := if st * R + i < n ∧ i % u = pin ∧ i / u ≠ un then [pl25 m u R (st * R + i)] else []
def rowTo (m u R st un pin n : Int) (i : Nat) : List S25 := (List.range i).flatMap (fun (i : Nat) => rowAt m u R st un pin n i)
theorem rowTo_succ (m u R st un pin n : Int) (v : Nat) : rowTo m u R st un pin n (v + 1) = rowTo m u R st un pin n v ++ rowAt m u R st un pin n v := by
  simp [rowTo, List.range_succ, List.flatMap_append]
theorem rowTo_len (m u R st un pin n : Int) (v : Nat) : (rowTo m u R st un pin n v).length ≤ v := by
  induction v with
  | zero => simp [rowTo]
  | succ v ih =>
    rw [rowTo_succ, List.length_append]
    have : (rowAt m u R st un pin n v).length ≤ 1 := by unfold rowAt; split <;> simp
    omega
theorem rowTo_in (m R st un pin n : Int) (u : Nat) (hu : 1 ≤ u) (h0 : 0 ≤ pin) (v : Nat) (hv : rowTo m u R st un pin n (v * u) = peersTo m u R st un pin n v) :
    ∀ t : Nat, t ≤ u → rowTo m u R st un pin n (v * u + t) = peersTo m u R st un pin n v ++ (if pin < t then peerAt m u R st un pin n v else []) := by
  intro t
  induction t with
  | zero => intro _; rw [if_neg (by omega)]; simpa using hv
  | succ t ih =>
    intro ht
    rw [← Nat.add_assoc, rowTo_succ, ih (by omega)]
    have e1 : ((v * u + t : Nat) : Int) % (u : Int) = t := by
      rw [← Int.natCast_emod, Nat.mul_comm, Nat.mul_add_mod, Nat.mod_eq_of_lt (by omega)]
    have e2 : ((v * u + t : Nat) : Int) / (u : Int) = v := by
      rw [← Int.natCast_ediv, Nat.mul_comm, Nat.mul_add_div (by omega), Nat.div_eq_of_lt (by omega)]; simp
    unfold rowAt
    rw [e1, e2]
    push_cast
    by_cases hp : pin = t
    · subst hp
      rw [if_neg (show ¬ (t : Int) < t by omega), if_pos (show (t : Int) < t + 1 by omega), List.append_nil]
      congr 1
      unfold peerAt
      rw [← Int.add_assoc]
      by_cases c1 : (v : Int) ≠ un ∧ st * R + v * u + t < n
      · rw [if_pos c1, if_pos ⟨c1.2, rfl, c1.1⟩]
      · rw [if_neg c1, if_neg (fun h => c1 ⟨h.2.2, h.1⟩)]
    · have hq : ∀ p q : Prop, ¬ (p ∧ (t : Int) = pin ∧ q) := fun p q h => hp h.2.1.symm
      by_cases c1 : pin < t
      · rw [if_pos c1, if_pos (show pin < (t : Int) + 1 by omega), if_neg (hq _ _), List.append_nil]
      · rw [if_neg c1, if_neg (show ¬ pin < (t : Int) + 1 by omega), if_neg (hq _ _), List.append_nil]
theorem rowTo_eq (m R st un pin n : Int) (u : Nat) (hu : 1 ≤ u) (h0 : 0 ≤ pin) (h1 : pin < u) (v : Nat) : rowTo m u R st un pin n (v * u) = peersTo m u R st un pin n v := by
  induction v with
  | zero => simp [rowTo, peersTo]
  | succ v ih =>
    have := rowTo_in m R st un pin n u hu h0 v ih u (Nat.le_refl _)
    rw [if_pos h1] at this
    rw [Nat.succ_mul, this, peersTo_succ]
theorem at_row {R st i u : Int} (hR : 0 < R) (h0 : 0 ≤ i) (h1 : i < R) (hd : u ∣ R) : (st * R + i) / R = st ∧ (st * R + i) % R = i ∧ (st * R + i) % u = i % u := by
  have e : st * R + i = i + R * st := by rw [Int.mul_comm]; omega
  refine ⟨?_, ?_, ?_⟩
  · rw [e, Int.add_mul_ediv_left _ _ (by omega), Int.ediv_eq_zero_of_lt h0 h1]; omega
  · rw [e, Int.add_mul_emod_self_left]; exact Int.emod_eq_of_lt h0 h1
  · obtain ⟨q, rfl⟩ := hd; rw [e, Int.mul_assoc, Int.add_mul_emod_self_left]
section
variable (id m u b c z s me o a l : Int)
theorem peers_loop (h : checkC id m u b c z s me o a l = 0) (st un pin n w3 w4 : Int) (s0 : 0 ≤ st) (s1 : st < c / u) (p0 : 0 ≤ pin) (p1 : pin < u) (n1 : n ≤ sizeC m u b c z s me o a l) (d : Nat) : ∀ (k v : Nat), (v : Int) ≤ m - 1 → m - 1 - v = d → d + 5 ≤ k →
    plan_Peers.l0 k n (peersTo m u ((m - 1) * u) st un pin n v) (st * ((m - 1) * u)) (m - 1) v id m u b c z s me o a l st un pin w3 w4 = some (peersTo m u ((m - 1) * u) st un pin n (m - 1).toNat, decide (st * ((m - 1) * u) + (m - 1) * u ≤ n)) := by
  obtain ⟨g, hrow, _, hdat, gsz⟩ := good h
  have hZ := g.Z2
  have g1 := g.m1; have g2 := g.m2; have g3 := g.u1; have g4 := g.u2; have g5 := g.R1; have g6 := g.R2
  have t1 : (st + 1) * ((m - 1) * u) ≤ c / u * ((m - 1) * u) := Int.mul_le_mul_of_nonneg_right (by omega) (by omega)
  have t2 : 0 ≤ st * ((m - 1) * u) := Int.mul_nonneg s0 (by omega)
  rw [Int.add_mul, Int.one_mul] at t1
  rw [gsz] at n1
  induction d with
  | zero =>
    intro k v hv hd hk
    obtain ⟨k, rfl⟩ : ∃ q, k = q + 1 := ⟨k - 1, by omega⟩
    simp only [plan_Peers.l0]
    rw [if_neg (by omega)]
    simp only [conf_Row.f, Option.bind_some, hrow]
    rw [wr ⟨by omega, by omega⟩, show (m - 1).toNat = v by omega]
  | succ d ih =>
    intro k v hv hd hk
    obtain ⟨k, rfl⟩ : ∃ q, k = q + 1 := ⟨k - 1, by omega⟩
    have hlen := peersTo_len m u ((m - 1) * u) st un pin n v
    have v1 : ((v : Int) + 1) * u ≤ (m - 1) * u := Int.mul_le_mul_of_nonneg_right (by omega) (by omega)
    have v0 : 0 ≤ (v : Int) * u := Int.mul_nonneg (by omega) (by omega)
    rw [Int.add_mul, Int.one_mul] at v1
    have ih' := ih k (v + 1) (by omega) (by omega) (by omega)
    rw [peersTo_succ] at ih'
    unfold peerAt at ih'
    push_cast at ih'
    simp only [plan_Peers.l0]
    rw [if_pos (by omega), wr (x := (v : Int) + 1) ⟨by omega, by omega⟩, wr (x := (v : Int) * u) ⟨by omega, by omega⟩, wr (x := st * ((m - 1) * u) + v * u) ⟨by omega, by omega⟩, wr ⟨by omega, by omega⟩]
    by_cases c1 : (v : Int) = un
    · rw [if_pos c1]
      rw [if_neg (fun hh => hh.1 c1), List.append_nil] at ih'
      exact ih'
    · rw [if_neg c1]
      by_cases c2 : st * ((m - 1) * u) + v * u + pin < n
      · rw [if_pos c2, of_ok (h := h) (hk := by omega) (q := ⟨by omega, by rw [gsz]; omega⟩)]
        rw [if_pos ⟨c1, c2⟩] at ih'
        simp only [Option.bind_some, placeP]
        rw [if_pos (by omega)]
        exact ih'
      · rw [if_neg c2]
        rw [if_neg (fun hh => c2 hh.2), List.append_nil] at ih'
        exact ih'
theorem rpeers_loop (h : checkC id m u b c z s me o a l = 0) (st un pin n w3 w4 : Int) (s0 : 0 ≤ st) (s1 : st < c / u) (p0 : 0 ≤ pin) (p1 : pin < u) (n0 : st * ((m - 1) * u) ≤ n) (n1 : n ≤ sizeC m u b c z s me o a l) (d : Nat) : ∀ (k i : Nat), (i : Int) ≤ (m - 1) * u → (m - 1) * u - i = d → d + 25 ≤ k →
    revetmentref09_Peers.l0 k n (rowTo m u ((m - 1) * u) st un pin n i) (decide (st * ((m - 1) * u) + i ≤ n)) i id m u b c z s me o a l st un pin w3 w4 = some (rowTo m u ((m - 1) * u) st un pin n ((m - 1) * u).toNat, decide (st * ((m - 1) * u) + (m - 1) * u ≤ n)) := by
  obtain ⟨g, hrow, _, hdat, gsz⟩ := good h
  have hZ := g.Z2
  have g1 := g.m1; have g2 := g.m2; have g3 := g.u1; have g4 := g.u2; have g5 := g.R1; have g6 := g.R2
  have t1 : (st + 1) * ((m - 1) * u) ≤ c / u * ((m - 1) * u) := Int.mul_le_mul_of_nonneg_right (by omega) (by omega)
  have t2 : 0 ≤ st * ((m - 1) * u) := Int.mul_nonneg s0 (by omega)
  rw [Int.add_mul, Int.one_mul] at t1
  rw [gsz] at n1
  induction d with
  | zero =>
    intro k i hi hd hk
    obtain ⟨k, rfl⟩ : ∃ q, k = q + 1 := ⟨k - 1, by omega⟩
    simp only [revetmentref09_Peers.l0, revetmentref07_Row.f, Option.bind_some, hrow]
    rw [if_neg (by omega), show ((m - 1) * u).toNat = i by omega, show (m - 1) * u = (i : Int) by omega]
  | succ d ih =>
    intro k i hi hd hk
    obtain ⟨k, rfl⟩ : ∃ q, k = q + 1 := ⟨k - 1, by omega⟩
    have hlen := rowTo_len m u ((m - 1) * u) st un pin n i
    obtain ⟨r1, r2, r3⟩ := at_row (R := (m - 1) * u) (st := st) (i := i) (u := u) (by omega) (by omega) (by omega) ⟨m - 1, Int.mul_comm _ _⟩
    have ih' := ih k (i + 1) (by omega) (by omega) (by omega)
    rw [rowTo_succ] at ih'
    unfold rowAt at ih'
    push_cast at ih'
    simp only [revetmentref09_Peers.l0, revetmentref07_Row.f, Option.bind_some, hrow]
    rw [if_pos (by omega), wr (x := (i : Int) + 1) ⟨by omega, by omega⟩, wr (x := st * ((m - 1) * u)) ⟨by omega, by omega⟩, wr ⟨by omega, by omega⟩, rof_ok (h := h) (hk := by omega) (q := ⟨by omega, by rw [gsz]; omega⟩)]
    simp only [Option.bind_some, placeP, r1, r2, r3]
    by_cases c1 : st * ((m - 1) * u) + i ≥ n
    · rw [if_pos c1]
      rw [if_neg (fun hh => by have := hh.1; omega), List.append_nil, show decide (st * ((m - 1) * u) + ((i : Int) + 1) ≤ n) = false from decide_eq_false (by omega)] at ih'
      exact ih'
    · rw [if_neg c1]
      rw [show decide (st * ((m - 1) * u) + (i : Int) ≤ n) = true from decide_eq_true (by omega)]
      rw [show decide (st * ((m - 1) * u) + ((i : Int) + 1) ≤ n) = true from decide_eq_true (by omega)] at ih'
      by_cases c2 : (i : Int) % u = pin
      · rw [if_pos c2]
        by_cases c3 : (i : Int) / u = un
        · rw [if_pos c3]
          rw [if_neg (fun hh => hh.2.2 c3), List.append_nil] at ih'
          exact ih'
        · rw [if_neg c3, if_pos (by omega)]
          rw [if_pos ⟨by omega, c2, c3⟩] at ih'
          unfold pl25 at ih'
          rw [r1, r2, r3] at ih'
          exact ih'
      · rw [if_neg c2]
        rw [if_neg (fun hh => c2 hh.2.1), List.append_nil] at ih'
        exact ih'
theorem peers_both (hs : checkC id m u b c z s me o a l = 0 → revetmentref07_Small.f id m u b c z s me o a l = some true) (lb n1 : Int) (k : Nat) (hk : 500 ≤ k) : ∃ p : List S25 × Bool, p.1.length ≤ 100 ∧ plan_Peers.f k id m u b c z s me o a l lb n1 = some p ∧ revetmentref09_Peers.f k id m u b c z s me o a l lb n1 = some p := by
  obtain ⟨k, rfl⟩ : ∃ j, k = j + 1 := ⟨k - 1, by omega⟩
  unfold plan_Peers.f revetmentref09_Peers.f
  rw [right_steps, rright_eq]
  simp only [Option.bind_some]
  by_cases q : checkC id m u b c z s me o a l = 0 ∧ (0 : Int) ≤ 0 ∧ 0 ≤ n1 ∧ 0 + n1 ≤ sizeC m u b c z s me o a l
  · rw [if_pos (decide_eq_true q), if_pos (decide_eq_true q)]
    by_cases c1 : lb < 0
    · rw [if_pos c1, if_pos c1]; exact ⟨([], false), by simp, rfl, rfl⟩
    · rw [if_neg c1, if_neg c1]
      by_cases c2 : lb ≥ n1
      · rw [decide_eq_true c2]; exact ⟨([], false), by simp, rfl, rfl⟩
      · rw [decide_eq_false c2]
        have h := q.1
        obtain ⟨g, hrow, _, hdat, gsz⟩ := good h
        have g1 := g.m1; have g2 := g.m2; have g3 := g.u1; have g4 := g.u2; have g5 := g.R1; have g6 := g.R2; have g7 := g.Z2
        have hn := q.2.2.2
        have hb := place_bd g (lb := lb) (by omega) (by rw [← gsz]; omega)
        simp only [plan_Peers.j0, revetmentref09_Peers.j0, Bool.false_eq_true, if_false]
        rw [of_ok (h := h) (hk := by omega) (q := ⟨by omega, by omega⟩), rof_ok (h := h) (hk := by omega) (q := ⟨by omega, by omega⟩)]
        simp only [Option.bind_some, placeP, conf_Row.f, conf_Data.f, hrow, hdat]
        rw [wr (x := lb / ((m - 1) * u) * ((m - 1) * u)) ⟨by have := hb.2.2.2.2.2.2.2.2.2.2.2.2.2.1; omega, by have := hb.2.2.2.2.2.2.2.2.2.2.2.2.2.2; rw [gsz] at hn; omega⟩]
        have e1 := peers_loop id m u b c z s me o a l h (lb / ((m - 1) * u)) (lb % ((m - 1) * u) / u) (lb % u) n1 (memberP m (lb / ((m - 1) * u)) (lb % ((m - 1) * u) / u)) (lb / ((m - 1) * u) * u + lb % u) hb.1 hb.2.1 hb.2.2.2.2.2.2.1 hb.2.2.2.2.2.2.2.1 (by omega) (m - 1).toNat k 0 (by omega) (by omega) (by omega)
        have e2 := rpeers_loop id m u b c z s me o a l h (lb / ((m - 1) * u)) (lb % ((m - 1) * u) / u) (lb % u) n1 (memberP m (lb / ((m - 1) * u)) (lb % ((m - 1) * u) / u)) (lb / ((m - 1) * u) * u + lb % u) hb.1 hb.2.1 hb.2.2.2.2.2.2.1 hb.2.2.2.2.2.2.2.1 (by have := hb.2.2.2.2.2.2.2.2.2.2.2.2.2.2; omega) (by omega) ((m - 1) * u).toNat k 0 (by omega) (by omega) (by
          obtain ⟨z1, z2, z3⟩ := small_bd h (hs h)
          have : (m - 1) * u ≤ 4 * 3 := Int.mul_le_mul (by omega) (by omega) (by omega) (by omega)
          omega)
        have e3 : rowTo m u ((m - 1) * u) (lb / ((m - 1) * u)) (lb % ((m - 1) * u) / u) (lb % u) n1 ((m - 1) * u).toNat = peersTo m u ((m - 1) * u) (lb / ((m - 1) * u)) (lb % ((m - 1) * u) / u) (lb % u) n1 (m - 1).toNat := by
          have hu : ((u.toNat : Nat) : Int) = u := Int.toNat_of_nonneg (by omega)
          have hm : ((m - 1).toNat : Int) = m - 1 := Int.toNat_of_nonneg (by omega)
          have := rowTo_eq m ((m - 1) * u) (lb / ((m - 1) * u)) (lb % ((m - 1) * u) / u) (lb % u) n1 u.toNat (by omega) hb.2.2.2.2.2.2.1 (by rw [hu]; exact hb.2.2.2.2.2.2.2.1) (m - 1).toNat
          rw [hu] at this
          rw [← this]
          congr 1
          apply Int.ofNat.inj
          show (((m - 1) * u).toNat : Int) = (((m - 1).toNat * u.toNat : Nat) : Int)
          rw [Int.toNat_of_nonneg (by omega)]
          push_cast
          rw [hu, hm]
        rw [e3] at e2
        have e4 : (decide (lb / ((m - 1) * u) * ((m - 1) * u) + ((0 : Nat) : Int) ≤ n1)) = true := decide_eq_true (by have := hb.2.2.2.2.2.2.2.2.2.2.2.2.2.2; omega)
        rw [e4] at e2
        refine ⟨_, ?_, e1, e2⟩
        have := peersTo_len m u ((m - 1) * u) (lb / ((m - 1) * u)) (lb % ((m - 1) * u) / u) (lb % u) n1 (m - 1).toNat
        simp only
        omega
  · rw [if_neg (by simpa using q), if_neg (by simpa using q)]
    exact ⟨([], false), by simp, rfl, rfl⟩
theorem peers_same (x : List S25) (hx : (x.length : Int) ≤ 100000) (d : Nat) : ∀ (k j : Nat), j ≤ x.length → x.length - j = d → d < k → revetmentlaw09_PlanPeers.l0 k x x j = some true := by
  induction d with
  | zero =>
    intro k j hj hd hk
    obtain ⟨k, rfl⟩ : ∃ q, k = q + 1 := ⟨k - 1, by omega⟩
    simp only [revetmentlaw09_PlanPeers.l0]
    rw [if_neg (by omega), live9_eq]; rfl
  | succ d ih =>
    intro k j hj hd hk
    obtain ⟨k, rfl⟩ : ∃ q, k = q + 1 := ⟨k - 1, by omega⟩
    simp only [revetmentlaw09_PlanPeers.l0]
    rw [if_pos (by omega), if_pos (by omega), if_pos (by omega), wr ⟨by omega, by omega⟩]
    simp only [beq_self_eq_true, Bool.not_true, Bool.or_self, Bool.false_eq_true, if_false]
    have := ih k (j + 1) (by omega) (by omega) (by omega)
    push_cast at this
    exact this
/-- The law: of which other blocks a block is made. -/
theorem planPeers_true (k : Nat) (hk : 1000 ≤ k) (lb n1 : Int) : revetmentlaw09_PlanPeers.f k id m u b c z s me o a l lb n1 = some true := by
  obtain ⟨k, rfl⟩ : ∃ j, k = j + 2 := ⟨k - 2, by omega⟩
  have main : (checkC id m u b c z s me o a l = 0 → revetmentref07_Small.f id m u b c z s me o a l = some true) → revetmentlaw09_PlanPeers.j0 (k + 2) lb n1 false id m u b c z s me o a l = some true := by
    intro hs
    obtain ⟨p, hp, h1, h2⟩ := peers_both id m u b c z s me o a l hs lb n1 (k + 1) (by omega)
    simp only [revetmentlaw09_PlanPeers.j0]
    rw [if_neg (by decide), h1, h2]
    simp only [Option.bind_some, if_true, bne_self_eq_false, revetmentlaw09_PlanPeers.j1, Bool.false_eq_true, if_false]
    exact peers_same p.1 (by omega) p.1.length k 0 (by omega) (by omega) (by omega)
  unfold revetmentlaw09_PlanPeers.f
  simp only [revetmentref07_Check.f, Option.bind_some]
  by_cases h : checkC id m u b c z s me o a l = 0
  · rw [if_pos h]
    obtain ⟨r, hr⟩ := small_some id m u b c z s me o a l
    rw [hr]
    simp only [Option.bind_some]
    cases r with
    | true => exact main (fun _ => hr)
    | false =>
      simp only [revetmentlaw09_PlanPeers.j0, Bool.not_false, if_true]
      rw [live9_eq]; rfl
  · rw [if_neg h]; exact main (fun h' => absurd h' h)
end
end Go.Proofs.Ytekihhbihnmakaa.Geo
