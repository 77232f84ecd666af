/- Plain law: any loads together, how far they part, the part of parity. No program in sight. No condition. -/
import Derived.Test.YtekihhbihnmakaaPAx61
import Derived.Test.YtekihhbihnmakaaPAx62
import Derived.Test.YtekihhbihnmakaaLive44
open Go.RowKit Go.Proofs.Ytekihhbihnmakaa Go.Proofs.Ytekihhbihnmakaa.PA Go.Proofs.YtekihhbihnmakaaW.PrintWords Go.Proofs.YtekihhbihnmakaaW.PrintLast
set_option linter.unusedVariables false
set_option linter.unusedSimpArgs false
namespace Go.Proofs.Ytekihhbihnmakaa.Geo
theorem sums_last (p w k : Nat) (hk : 201 ≤ k) (hpw : p ≤ w) (hw : w ≤ 2199023255552) (num den : Int) (h : (num, den) = if w = 0 then (0, 1) else (((p / Nat.gcd w p : Nat) : Int), ((w / Nat.gcd w p : Nat) : Int))) :
    num ≥ 0 ∧ den ≥ 1 ∧ num ≤ den ∧ revetmentlaw44_LoadsSums.j2 k num den (p : Int) (w : Int) false = some true := by
  obtain ⟨k, rfl⟩ : ∃ q, k = q + 1 := ⟨k - 1, by omega⟩
  by_cases e : w = 0
  · rw [if_pos e] at h
    injection h with h1 h2
    subst h1; subst h2; subst e
    refine ⟨by omega, by omega, by omega, ?_⟩
    simp only [revetmentlaw44_LoadsSums.j2]
    rw [if_neg (by decide), if_pos (by rfl), if_pos trivial, if_pos trivial, live44_eq]; rfl
  · rw [if_neg e] at h
    injection h with h1 h2
    subst h1; subst h2
    have g0 : 0 < Nat.gcd w p := Nat.gcd_pos_of_pos_left _ (by omega)
    obtain ⟨a, ha⟩ := Nat.gcd_dvd_left w p
    obtain ⟨b, hb⟩ := Nat.gcd_dvd_right w p
    have hco := Nat.coprime_div_gcd_div_gcd (m := w) (n := p) g0
    generalize hg : Nat.gcd w p = g at *
    have ea : w / g = a := by rw [ha, Nat.mul_div_cancel_left _ g0]
    have eb : p / g = b := by rw [hb, Nat.mul_div_cancel_left _ g0]
    rw [ea, eb] at hco ⊢
    have hba : b ≤ a := by rw [← ea, ← eb]; exact Nat.div_le_div_right hpw
    have ha0 : 0 < a := by
      rcases Nat.eq_zero_or_pos a with z | z
      · rw [z] at ha; omega
      · exact z
    have haw : a ≤ w := by rw [← ea]; exact Nat.div_le_self _ _
    have hgw : g ≤ w := by rw [← hg]; exact Nat.le_of_dvd (by omega) (Nat.gcd_dvd_left _ _)
    refine ⟨by omega, by omega, by omega, ?_⟩
    simp only [revetmentlaw44_LoadsSums.j2]
    have t1 : Int.tmod (w : Int) (a : Int) = 0 := by rw [tmodN, ha, Nat.mul_mod_left]; rfl
    have t2 : Int.tdiv (w : Int) (a : Int) = (g : Int) := by
      rw [td (by omega), ← Int.natCast_ediv, ha, Nat.mul_div_cancel _ ha0]
    have t3 : (g : Int) * (b : Int) = (p : Int) := by rw [hb]; push_cast; rfl
    have p0 : (p : Int) ≤ 2199023255552 := by omega
    have w0 : ¬ (w : Int) = 0 := by omega
    have g1 : (g : Int) ≤ 2199023255552 := by omega
    clear ha hb ea eb
    rw [if_neg (by decide), if_neg w0, if_neg (by omega), if_pos t1, t2, wr (x := (g : Int)) ⟨by omega, by omega⟩, t3, wr ⟨by omega, by omega⟩, if_pos rfl, revetmentlaw44_common.f]
    have hc := common_ok 42 b a k 0 (by omega) (by omega) (by omega)
    rw [Int.natCast_zero] at hc
    rw [hc]
    have hg1 : Nat.gcd b a = 1 := by rw [Nat.gcd_comm]; exact hco
    rw [hg1]
    simp only [Option.bind_some]
    rw [if_pos (by rfl), live44_eq]; rfl
def loX : List S75 → Int
  | [] => 0
  | x :: l => loL (wholeP x) l
def hiX : List S75 → Int
  | [] => 0
  | x :: l => hiL (wholeP x) l
theorem loL_snoc (l : List S75) (x : S75) : ∀ a, loL a (l ++ [x]) = mn (loL a l) (wholeP x) := by
  induction l with
  | nil => intro a; rfl
  | cons y l ih => intro a; simp only [List.cons_append, loL, ih]
theorem hiL_snoc (l : List S75) (x : S75) : ∀ a, hiL a (l ++ [x]) = mx (hiL a l) (wholeP x) := by
  induction l with
  | nil => intro a; rfl
  | cons y l ih => intro a; simp only [List.cons_append, hiL, ih]
theorem loX_snoc (l : List S75) (x : S75) : loX (l ++ [x]) = if l = [] then wholeP x else mn (loX l) (wholeP x) := by
  cases l with
  | nil => rfl
  | cons y l => simp only [List.cons_append, loX, loL_snoc, reduceCtorEq, if_false]
theorem hiX_snoc (l : List S75) (x : S75) : hiX (l ++ [x]) = if l = [] then wholeP x else mx (hiX l) (wholeP x) := by
  cases l with
  | nil => rfl
  | cons y l => simp only [List.cons_append, hiX, hiL_snoc, reduceCtorEq, if_false]
theorem evenP_X (l : List S75) : evenP l = hiX l - loX l := by cases l <;> rfl
theorem X_bd (l : List S75) : 0 ≤ loX l ∧ loX l ≤ 2199023255552 ∧ 0 ≤ hiX l ∧ hiX l ≤ 2199023255552 := by
  cases l with
  | nil => simp [loX, hiX]
  | cons x l =>
    have h := wholeP_bd x
    have h1 := loL_bd l (wholeP x) h.1 h.2
    have h2 := hiL_bd l (wholeP x) h.1 h.2
    exact ⟨h1.1, h1.2.1, h2.1, h2.2.1⟩
theorem sDP_snoc (l : List S75) (x : S75) : sD (l ++ [x]) = sD l + heldP x.f0 ∧ sP (l ++ [x]) = sP l + heldP x.f1 := by
  induction l with
  | nil => simp [sD, sP]
  | cons y l ih => simp only [List.cons_append, sD, sP, ih]; omega
theorem sums_loop (xd xp : Int) (l : List S75) : ∀ (pre : List S75) (k : Nat), (pre ++ l).length ≤ 40 → 2 * l.length + 400 < k →
    revetmentlaw44_LoadsSums.l0 k (pre ++ l) (loX pre) (hiX pre) (pre.length : Int) xd xp (sD pre) (sP pre) = some true := by
  induction l with
  | nil =>
    intro pre k hl hk
    obtain ⟨k, rfl⟩ : ∃ q, k = q + 1 := ⟨k - 1, by omega⟩
    rw [List.append_nil] at hl ⊢
    simp only [revetmentlaw44_LoadsSums.l0]
    obtain ⟨p, w, hp, hw, hpw, hwb, hpart⟩ := part_ok xd xp k (by omega)
    obtain ⟨num, den, hnd⟩ : ∃ num den : Int, (num, den) = if w = 0 then (0, 1) else (((p / Nat.gcd w p : Nat) : Int), ((w / Nat.gcd w p : Nat) : Int)) := ⟨_, _, rfl⟩
    rw [← hnd] at hpart
    obtain ⟨n0, d1, nd, hlast⟩ := sums_last p w k (by omega) hpw hwb num den hnd
    have xb := X_bd pre
    have e1 : wrap64 (heldP xd + heldP xp) = (w : Int) := by
      rw [hw, wr ⟨by have := heldP_bd xd; have := heldP_bd xp; omega, by have := heldP_bd xd; have := heldP_bd xp; omega⟩]; rfl
    rw [if_neg (by omega), hpart, rheld_ok, rheld_ok, sum_ok (hl := by omega) (hk := by omega), even_ok (hl := by omega) (hk := by omega)]
    simp only [Option.bind_some, beq_self_eq_true, Bool.not_true, Bool.or_self]
    rw [if_neg (by decide), evenP_X, wr (x := hiX pre - loX pre) ⟨by omega, by omega⟩, if_pos rfl, if_neg (by omega), if_neg (by omega), decide_eq_false (by omega), e1, ← hp]
    exact hlast
  | cons x l ih =>
    intro pre k hl hk
    obtain ⟨k, rfl⟩ : ∃ q, k = q + 2 := ⟨k - 2, by omega⟩
    have h1 := heldP_bd x.f0; have h2 := heldP_bd x.f1
    have hb := sDP_bd pre
    have hln : (pre ++ x :: l).length = pre.length + l.length + 1 := by simp; omega
    have ih' := ih (pre ++ [x]) k (by simp at hl ⊢; omega) (by simp at hk; omega)
    rw [show (pre ++ [x]) ++ l = pre ++ x :: l by simp, show (pre ++ [x]).length = pre.length + 1 by simp, loX_snoc, hiX_snoc, (sDP_snoc pre x).1, (sDP_snoc pre x).2] at ih'
    push_cast at ih'
    have hw : wrap64 (heldP x.f0 + heldP x.f1) = wholeP x := wr ⟨by omega, by omega⟩
    have hpl : (pre.length : Int) ≤ 40 := by omega
    simp only [revetmentlaw44_LoadsSums.l0]
    rw [if_pos (by omega), if_pos (by omega), rd75, rheld_ok, rheld_ok]
    simp only [Option.bind_some]
    rw [wr (x := sD pre + heldP x.f0) ⟨by omega, by omega⟩, wr (x := sP pre + heldP x.f1) ⟨by omega, by omega⟩]
    by_cases c0 : pre = []
    · subst c0
      simp only [List.length_nil, Int.natCast_zero, if_true, List.nil_append] at ih' ⊢
      simp only [revetmentlaw44_LoadsSums.j1, if_true, hw]
      rw [wr (x := 0 + 1) ⟨by omega, by omega⟩]
      exact ih'
    · have c1 : ¬ (pre.length : Int) = 0 := by
        intro z; exact c0 (List.eq_nil_of_length_eq_zero (by omega))
      rw [if_neg c1]
      rw [if_neg c0, if_neg c0] at ih'
      simp only [revetmentlaw44_LoadsSums.j1]
      rw [if_neg c1, if_neg c1, hw, wr (x := (pre.length : Int) + 1) ⟨by omega, by omega⟩]
      unfold mn mx at ih'
      by_cases c2 : wholeP x < loX pre
      · rw [decide_eq_true c2, if_pos rfl]
        rw [if_pos c2] at ih'
        by_cases c3 : wholeP x > hiX pre
        · rw [if_pos c3]; rw [if_pos c3] at ih'; exact ih'
        · rw [if_neg c3]; rw [if_neg c3] at ih'; exact ih'
      · rw [decide_eq_false c2, if_neg (by decide)]
        rw [if_neg c2] at ih'
        by_cases c3 : wholeP x > hiX pre
        · rw [if_pos c3]; rw [if_pos c3] at ih'; exact ih'
        · rw [if_neg c3]; rw [if_neg c3] at ih'; exact ih'
/-- The law: together. -/
theorem loadsSums_true (k : Nat) (hk : 500 ≤ k) (l : List S75) (xd xp : Int) : revetmentlaw44_LoadsSums.f k l xd xp = some true := by
  unfold revetmentlaw44_LoadsSums.f
  by_cases h : (l.length : Int) > 40
  · rw [if_pos h, live44_eq]; rfl
  · rw [if_neg h]
    exact sums_loop xd xp l [] k (by simp; omega) (by omega)
end Go.Proofs.Ytekihhbihnmakaa.Geo
