/- Plain laws: loads together, how far they part, the part of parity in its least numbers. No program in sight. Conditions: as each says. -/
import Derived.Test.YtekihhbihnmakaaPAx54
import Derived.Test.YtekihhbihnmakaaPAx55
import Derived.Test.YtekihhbihnmakaaPAx56
import Derived.Test.YtekihhbihnmakaaPAx57
import Derived.Test.YtekihhbihnmakaaPAx58
import Derived.Test.YtekihhbihnmakaaPAx59
import Derived.Test.YtekihhbihnmakaaPAx61
import Derived.Test.YtekihhbihnmakaaGeoLaw
open Go.RowKit Go.Proofs.Ytekihhbihnmakaa Go.Proofs.Ytekihhbihnmakaa.PA Go.Proofs.YtekihhbihnmakaaW.PrintWords Go.Proofs.YtekihhbihnmakaaW.PrintLast
set_option linter.unusedVariables false
set_option linter.unusedSimpArgs false
namespace Go.Proofs.Ytekihhbihnmakaa.Geo
def heldP (n : Int) : Int := if n < 0 then 0 else if n > 1099511627776 then 1099511627776 else n
theorem heldP_bd (n : Int) : 0 ≤ heldP n ∧ heldP n ≤ 1099511627776 := by
  unfold heldP; split
  · omega
  · split <;> omega
theorem held_ok (n : Int) : loads_held.f n = some (heldP n) := by
  unfold loads_held.f heldP mn mx
  congr 1
  split <;> split <;> (try split) <;> omega
theorem rheld_ok (n : Int) : revetmentlaw44_held.f n = some (heldP n) := by
  unfold revetmentlaw44_held.f heldP
  split
  · rfl
  · split <;> rfl
def wholeP (x : S75) : Int := heldP x.f0 + heldP x.f1
theorem wholeP_bd (x : S75) : 0 ≤ wholeP x ∧ wholeP x ≤ 2199023255552 := by
  have := heldP_bd x.f0; have := heldP_bd x.f1; unfold wholeP; omega
theorem wholeL_ok (x y : Int) : loads_whole.f x y = some (wholeP ⟨x, y⟩) := by
  unfold loads_whole.f wholeP
  rw [held_ok, held_ok]
  have := heldP_bd x; have := heldP_bd y
  simp only [Option.bind_some]
  rw [wr ⟨by omega, by omega⟩]
def sD : List S75 → Int
  | [] => 0
  | x :: l => heldP x.f0 + sD l
def sP : List S75 → Int
  | [] => 0
  | x :: l => heldP x.f1 + sP l
theorem sDP_bd (l : List S75) : 0 ≤ sD l ∧ sD l ≤ l.length * 1099511627776 ∧ 0 ≤ sP l ∧ sP l ≤ l.length * 1099511627776 := by
  induction l with
  | nil => simp [sD, sP]
  | cons x l ih =>
    have := heldP_bd x.f0; have := heldP_bd x.f1
    simp only [sD, sP, List.length_cons]; push_cast; omega
theorem rd75 (pre : List S75) (x : S75) (l : List S75) : rd_T75 (pre ++ x :: l) (pre.length : Int) = x := by
  unfold rd_T75; rw [Int.toNat_natCast, List.getD_eq_getElem?_getD]; simp
theorem sum_loop (l : List S75) : ∀ (pre : List S75) (a b : Int) (k : Nat), (pre ++ l).length ≤ 1000 → 0 ≤ a → a ≤ pre.length * 1099511627776 → 0 ≤ b → b ≤ pre.length * 1099511627776 → l.length < k →
    loads_Sum.l0 k (pre ++ l) ((pre ++ l).length : Int) (pre.length : Int) a b = some (a + sD l, b + sP l) := by
  induction l with
  | nil =>
    intro pre a b k hl a0 a1 b0 b1 hk
    obtain ⟨k, rfl⟩ : ∃ q, k = q + 1 := ⟨k - 1, by omega⟩
    simp only [loads_Sum.l0, List.append_nil]
    rw [if_neg (by omega)]; simp [sD, sP]
  | cons x l ih =>
    intro pre a b k hl a0 a1 b0 b1 hk
    obtain ⟨k, rfl⟩ : ∃ q, k = q + 1 := ⟨k - 1, by omega⟩
    have h1 := heldP_bd x.f0; have h2 := heldP_bd x.f1
    have hln : (pre ++ x :: l).length = pre.length + l.length + 1 := by simp; omega
    have ih' := ih (pre ++ [x]) (a + heldP x.f0) (b + heldP x.f1) k (by simp at hl ⊢; omega) (by omega) (by simp; omega) (by omega) (by simp; omega) (by simp at hk; omega)
    rw [show (pre ++ [x]) ++ l = pre ++ x :: l by simp, show (pre ++ [x]).length = pre.length + 1 by simp] at ih'
    push_cast at ih'
    simp only [loads_Sum.l0]
    rw [if_pos (by omega), if_pos (by omega), if_pos (by omega), rd75, held_ok, held_ok]
    simp only [Option.bind_some]
    rw [wr (x := (pre.length : Int) + 1) ⟨by omega, by omega⟩, wr (x := a + heldP x.f0) ⟨by omega, by omega⟩, wr (x := b + heldP x.f1) ⟨by omega, by omega⟩, ih']
    simp only [sD, sP, Int.add_assoc]
theorem sum_ok (l : List S75) (hl : l.length ≤ 1000) (k : Nat) (hk : l.length < k) : loads_Sum.f k l = some (sD l, sP l) := by
  have := sum_loop l [] 0 0 k (by simpa using hl) (by omega) (by simp) (by omega) (by simp) hk
  simpa [loads_Sum.f] using this
def loL : Int → List S75 → Int
  | a, [] => a
  | a, x :: l => loL (mn a (wholeP x)) l
def hiL : Int → List S75 → Int
  | a, [] => a
  | a, x :: l => hiL (mx a (wholeP x)) l
/-- The greatest one less the least one. -/
def evenP : List S75 → Int
  | [] => 0
  | x :: l => hiL (wholeP x) l - loL (wholeP x) l
theorem loL_bd (l : List S75) : ∀ a, 0 ≤ a → a ≤ 2199023255552 → 0 ≤ loL a l ∧ loL a l ≤ 2199023255552 ∧ loL a l ≤ a := by
  induction l with
  | nil => intro a h0 h1; exact ⟨h0, h1, Int.le_refl _⟩
  | cons x l ih =>
    intro a h0 h1
    have := wholeP_bd x
    have e : 0 ≤ mn a (wholeP x) ∧ mn a (wholeP x) ≤ a := by unfold mn; split <;> omega
    have := ih (mn a (wholeP x)) e.1 (by omega)
    simp only [loL]; omega
theorem hiL_bd (l : List S75) : ∀ a, 0 ≤ a → a ≤ 2199023255552 → 0 ≤ hiL a l ∧ hiL a l ≤ 2199023255552 ∧ a ≤ hiL a l := by
  induction l with
  | nil => intro a h0 h1; exact ⟨h0, h1, Int.le_refl _⟩
  | cons x l ih =>
    intro a h0 h1
    have := wholeP_bd x
    have e : a ≤ mx a (wholeP x) ∧ mx a (wholeP x) ≤ 2199023255552 := by unfold mx; split <;> omega
    have := ih (mx a (wholeP x)) (by omega) e.2
    simp only [hiL]; omega
theorem even_loop (l : List S75) : ∀ (pre : List S75) (a b : Int) (k : Nat), (pre ++ l).length ≤ 1000 → 0 ≤ a → a ≤ 2199023255552 → 0 ≤ b → b ≤ 2199023255552 → l.length < k →
    loads_Even.l0 k a b (pre ++ l) ((pre ++ l).length : Int) (pre.length : Int) = some (hiL b l - loL a l) := by
  induction l with
  | nil =>
    intro pre a b k hl a0 a1 b0 b1 hk
    obtain ⟨k, rfl⟩ : ∃ q, k = q + 1 := ⟨k - 1, by omega⟩
    simp only [loads_Even.l0, List.append_nil]
    rw [if_neg (by omega), wr ⟨by omega, by omega⟩]; rfl
  | cons x l ih =>
    intro pre a b k hl a0 a1 b0 b1 hk
    obtain ⟨k, rfl⟩ : ∃ q, k = q + 1 := ⟨k - 1, by omega⟩
    have h1 := wholeP_bd x
    have hln : (pre ++ x :: l).length = pre.length + l.length + 1 := by simp; omega
    have e1 : 0 ≤ mn a (wholeP x) ∧ mn a (wholeP x) ≤ 2199023255552 := by unfold mn; split <;> omega
    have e2 : 0 ≤ mx b (wholeP x) ∧ mx b (wholeP x) ≤ 2199023255552 := by unfold mx; split <;> omega
    have ih' := ih (pre ++ [x]) (mn a (wholeP x)) (mx b (wholeP x)) k (by simp at hl ⊢; omega) e1.1 e1.2 e2.1 e2.2 (by simp at hk; omega)
    rw [show (pre ++ [x]) ++ l = pre ++ x :: l by simp, show (pre ++ [x]).length = pre.length + 1 by simp] at ih'
    push_cast at ih'
    simp only [loads_Even.l0]
    rw [if_pos (by omega), if_pos (by omega), if_pos (by omega), rd75, wholeL_ok]
    simp only [Option.bind_some]
    rw [wr (x := (pre.length : Int) + 1) ⟨by omega, by omega⟩]
    exact ih'
theorem even_ok (l : List S75) (hl : l.length ≤ 1000) (k : Nat) (hk : l.length < k) : loads_Even.f k l = some (evenP l) := by
  unfold loads_Even.f
  cases l with
  | nil => rfl
  | cons x l =>
    have h1 := wholeP_bd x
    have e : rd_T75 (x :: l) 0 = x := rfl
    rw [if_neg (by simp only [List.length_cons]; omega), if_pos (by simp only [List.length_cons]; omega), e, wholeL_ok]
    simp only [Option.bind_some]
    have := even_loop (x :: l) [] (wholeP x) (wholeP x) k (by simpa using hl) (by omega) (by omega) (by omega) (by omega) hk
    have e2 : mn (wholeP x) (wholeP x) = wholeP x := by unfold mn; split <;> rfl
    have e3 : mx (wholeP x) (wholeP x) = wholeP x := by unfold mx; split <;> rfl
    simpa [loL, hiL, evenP, e2, e3] using this
theorem tmodN (a b : Nat) : Int.tmod (a : Int) (b : Int) = ((a % b : Nat) : Int) := by rw [tm (by omega)]; omega
theorem half_mod {r b j : Nat} (h0 : 0 < r) (h1 : r < b) (h2 : b < 2 ^ (j + 1)) : b % r < 2 ^ j := by
  have e1 := Nat.mod_lt b h0
  have e2 := Nat.div_add_mod b r
  have e3 : 1 ≤ b / r := Nat.div_pos (Nat.le_of_lt h1) h0
  have e4 : r * 1 ≤ r * (b / r) := Nat.mul_le_mul_left _ e3
  rw [Nat.pow_succ] at h2
  omega
theorem divisor_ok (j : Nat) : ∀ (a b k : Nat), b < 2 ^ j → 2 * j + 1 ≤ k → loads_divisor.l0 k (a : Int) (b : Int) = some ((Nat.gcd a b : Nat) : Int) := by
  induction j with
  | zero =>
    intro a b k hb hk
    obtain ⟨k, rfl⟩ : ∃ q, k = q + 1 := ⟨k - 1, by omega⟩
    obtain rfl : b = 0 := by simpa using hb
    simp [loads_divisor.l0]
  | succ j ih =>
    intro a b k hb hk
    obtain ⟨k, rfl⟩ : ∃ q, k = q + 2 := ⟨k - 2, by omega⟩
    by_cases e : b = 0
    · subst e; simp [loads_divisor.l0]
    · have r0 : a % b < b := Nat.mod_lt _ (by omega)
      simp only [loads_divisor.l0]
      rw [if_pos (by omega), if_neg (by omega), tmodN]
      by_cases e2 : a % b = 0
      · rw [e2, if_neg (by omega)]
        rw [Nat.gcd_comm, Nat.gcd_rec, e2, Nat.gcd_zero_left]
      · rw [if_pos (by omega), if_neg (by omega), tmodN, ih (a % b) (b % (a % b)) k (half_mod (by omega) r0 hb) (by omega)]
        rw [Nat.gcd_comm a b, Nat.gcd_rec b a, Nat.gcd_rec (a % b) b, Nat.gcd_comm]
theorem common_ok (j : Nat) : ∀ (a b k c : Nat), b < 2 ^ j → 2 * j + 1 ≤ k → c + 2 * j + 1 ≤ 200 → revetmentlaw44_common.l0 k (a : Int) (b : Int) (c : Int) = some ((Nat.gcd a b : Nat) : Int) := by
  induction j with
  | zero =>
    intro a b k c hb hk hc
    obtain ⟨k, rfl⟩ : ∃ q, k = q + 1 := ⟨k - 1, by omega⟩
    obtain rfl : b = 0 := by simpa using hb
    simp only [revetmentlaw44_common.l0]
    rw [if_pos (by omega)]; simp
  | succ j ih =>
    intro a b k c hb hk hc
    obtain ⟨k, rfl⟩ : ∃ q, k = q + 2 := ⟨k - 2, by omega⟩
    by_cases e : b = 0
    · subst e
      simp only [revetmentlaw44_common.l0]
      rw [if_pos (by omega)]; simp
    · have r0 : a % b < b := Nat.mod_lt _ (by omega)
      simp only [revetmentlaw44_common.l0]
      rw [if_pos (by omega), if_pos (by omega), if_neg (by omega), tmodN, wr (x := (c : Int) + 1) ⟨by omega, by omega⟩]
      by_cases e2 : a % b = 0
      · rw [e2, if_pos (by omega), if_neg (by omega)]
        rw [Nat.gcd_comm, Nat.gcd_rec, e2, Nat.gcd_zero_left]
      · rw [if_pos (by omega), if_pos (by omega), if_neg (by omega), tmodN, wr (x := (c : Int) + 1 + 1) ⟨by omega, by omega⟩, show (c : Int) + 1 + 1 = ((c + 2 : Nat) : Int) by omega, ih (a % b) (b % (a % b)) k (c + 2) (half_mod (by omega) r0 hb) (by omega) (by omega)]
        rw [Nat.gcd_comm a b, Nat.gcd_rec b a, Nat.gcd_rec (a % b) b, Nat.gcd_comm]
/-- What loads.Part answers: p of w, in its least numbers. -/
theorem part_ok (x y : Int) (k : Nat) (hk : 100 ≤ k) : ∃ p w : Nat, (p : Int) = heldP y ∧ (w : Int) = wholeP ⟨x, y⟩ ∧ p ≤ w ∧ w ≤ 2199023255552 ∧ loads_Part.f k x y = some (if w = 0 then (0, 1) else (((p / Nat.gcd w p : Nat) : Int), ((w / Nat.gcd w p : Nat) : Int))) := by
  have h1 := heldP_bd x; have h2 := heldP_bd y; have h3 := wholeP_bd ⟨x, y⟩
  obtain ⟨p, hp⟩ := Int.eq_ofNat_of_zero_le h2.1
  obtain ⟨w, hw⟩ := Int.eq_ofNat_of_zero_le h3.1
  have hpw : (p : Int) ≤ w := by rw [← hp, ← hw]; show heldP y ≤ heldP x + heldP y; omega
  refine ⟨p, w, hp.symm, hw.symm, by omega, by omega, ?_⟩
  unfold loads_Part.f
  rw [held_ok, wholeL_ok, hp, hw]
  simp only [Option.bind_some]
  by_cases e : w = 0
  · rw [if_pos e, if_pos (by omega)]
  · have g0 : 0 < Nat.gcd w p := Nat.gcd_pos_of_pos_left _ (by omega)
    rw [if_neg e, if_neg (by omega), loads_divisor.f, divisor_ok 41 w p k (by omega) (by omega)]
    simp only [Option.bind_some]
    generalize Nat.gcd w p = g at *
    have q1 : 0 ≤ (p : Int) / (g : Int) := Int.ediv_nonneg (by omega) (by omega)
    have q2 : (p : Int) / (g : Int) ≤ p := Int.ediv_le_self _ (by omega)
    have q3 : 0 ≤ (w : Int) / (g : Int) := Int.ediv_nonneg (by omega) (by omega)
    have q4 : (w : Int) / (g : Int) ≤ w := Int.ediv_le_self _ (by omega)
    rw [if_neg (by omega), td (by omega), td (by omega), wr ⟨by omega, by omega⟩, wr ⟨by omega, by omega⟩, Int.natCast_ediv, Int.natCast_ediv]
end Go.Proofs.Ytekihhbihnmakaa.Geo
