/- Printed by the kit's print over stand-ins for some functions (xprint.py), with contracts of my own in their place. -/
import Derived.Test.YtekihhbihnmakaaPAx0
import Derived.Test.YtekihhbihnmakaaPAx9
import Derived.Test.YtekihhbihnmakaaPAx10
import Derived.Test.YtekihhbihnmakaaPAx36
import Derived.Test.YtekihhbihnmakaaPAx37
namespace Go.Proofs.Ytekihhbihnmakaa.PA
open Go.RowKit Go.Proofs.YtekihhbihnmakaaW.PrintWords Go.Proofs.YtekihhbihnmakaaW.PrintLast
set_option linter.unusedVariables false
set_option linter.unusedSimpArgs false

/-! ### revetmentref16_How: function 53 -/
mutual
def revetmentref16_How.j0 : Nat → List Int → Int → List (S71) → Int → Bool → Int → Int → Int → Int → Int → Int → Int → Int → Int → Int → Int → Option (Int × Int)
  | 0, _, _, _, _, _, _, _, _, _, _, _, _, _, _, _, _ => none
  | k + 1, x1, x2, x3, x4, x31, x507000, x507001, x507002, x507003, x507004, x507005, x507006, x507007, x507008, x507009, x507010 => if x31 = true then (some (0, 0)) else ((revetmentref08_Of.f k x507000 x507001 x507002 x507003 x507004 x507005 x507006 x507007 x507008 x507009 x507010 x4).bind fun bt509 => (if bt509.2.2.2.1 = x2 then (revetmentref16_How.j1 k x1 x2 x3 x4 false x507000 x507001 x507002 x507003 x507004 x507005 x507006 x507007 x507008 x507009 x507010 bt509.1 bt509.2.1 bt509.2.2.1 bt509.2.2.2.1 bt509.2.2.2.2.1) else (if 0 ≤ bt509.2.2.2.1 then (if bt509.2.2.2.1 < (x1.length : Int) then (revetmentref16_How.j1 k x1 x2 x3 x4 (decide ((rd x1 bt509.2.2.2.1) > bt509.2.2.2.2.1)) x507000 x507001 x507002 x507003 x507004 x507005 x507006 x507007 x507008 x507009 x507010 bt509.1 bt509.2.1 bt509.2.2.1 bt509.2.2.2.1 bt509.2.2.2.2.1) else (none)) else (none))))
def revetmentref16_How.j1 : Nat → List Int → Int → List (S71) → Int → Bool → Int → Int → Int → Int → Int → Int → Int → Int → Int → Int → Int → Int → Int → Int → Int → Int → Option (Int × Int)
  | 0, _, _, _, _, _, _, _, _, _, _, _, _, _, _, _, _, _, _, _, _, _ => none
  | k + 1, x1, x2, x3, x4, x51, x507000, x507001, x507002, x507003, x507004, x507005, x507006, x507007, x507008, x507009, x507010, x516000, x516001, x516002, x516003, x516004 => if x51 = true then (some (1, 0)) else (if x516003 = x2 then ((revetmentref07_Size.f x507000 x507001 x507002 x507003 x507004 x507005 x507006 x507007 x507008 x507009 x507010).bind fun t517 => ((revetmentref16_others.f k x507000 x507001 x507002 x507003 x507004 x507005 x507006 x507007 x507008 x507009 x507010 x1 x4 t517).bind fun t518 => (if t518 = true then (if x507001 = 0 then (none) else (if 0 ≤ (Int.tmod x516000 x507001) then (if (Int.tmod x516000 x507001) < (x1.length : Int) then (revetmentref16_How.j2 k x1 x3 x4 (decide ((rd x1 (Int.tmod x516000 x507001)) > x516004)) x507000 x507001 x507002 x507003 x507004 x507005 x507006 x507007 x507008 x507009 x507010 x516000 x516001 x516002 x516003 x516004) else (none)) else (none))) else (revetmentref16_How.j2 k x1 x3 x4 false x507000 x507001 x507002 x507003 x507004 x507005 x507006 x507007 x507008 x507009 x507010 x516000 x516001 x516002 x516003 x516004)))) else (some (0, 0)))
def revetmentref16_How.j2 : Nat → List Int → List (S71) → Int → Bool → Int → Int → Int → Int → Int → Int → Int → Int → Int → Int → Int → Int → Int → Int → Int → Int → Option (Int × Int)
  | 0, _, _, _, _, _, _, _, _, _, _, _, _, _, _, _, _, _, _, _, _ => none
  | k + 1, x1, x3, x4, x74, x507000, x507001, x507002, x507003, x507004, x507005, x507006, x507007, x507008, x507009, x507010, x516000, x516001, x516002, x516003, x516004 => if x74 = true then (some (2, 0)) else (revetmentref16_How.l0 k x1 x3 x4 0 0 0 x507000 x507001 x507002 x507003 x507004 x507005 x507006 x507007 x507008 x507009 x507010 x516000 x516001 x516002 x516003 x516004)
def revetmentref16_How.l0 : Nat → List Int → List (S71) → Int → Int → Int → Int → Int → Int → Int → Int → Int → Int → Int → Int → Int → Int → Int → Int → Int → Int → Int → Int → Option (Int × Int)
  | 0, _, _, _, _, _, _, _, _, _, _, _, _, _, _, _, _, _, _, _, _, _, _ => none
  | k + 1, x1, x3, x4, x14, x15, x16, x507000, x507001, x507002, x507003, x507004, x507005, x507006, x507007, x507008, x507009, x507010, x516000, x516001, x516002, x516003, x516004 => if x16 < (x3.length : Int) then (if 0 ≤ x16 then (if ((rd_T71 x3 x16).f0) > x4 then ((revetmentref07_Row.f x507000 x507001 x507002 x507003 x507004 x507005 x507006 x507007 x507008 x507009 x507010).bind fun t521 => (if ((rd_T71 x3 x16).f0) > (wrap64 (x516000 * t521)) then ((revetmentref07_Row.f x507000 x507001 x507002 x507003 x507004 x507005 x507006 x507007 x507008 x507009 x507010).bind fun t522 => (if ((rd_T71 x3 x16).f0) ≤ (wrap64 ((wrap64 (x516000 + 1)) * t522)) then ((revetmentref16_others.f k x507000 x507001 x507002 x507003 x507004 x507005 x507006 x507007 x507008 x507009 x507010 x1 x4 ((rd_T71 x3 x16).f0)).bind fun t523 => (if t523 = true then (revetmentref16_How.l0 k x1 x3 x4 3 x16 (wrap64 (x16 + 1)) x507000 x507001 x507002 x507003 x507004 x507005 x507006 x507007 x507008 x507009 x507010 x516000 x516001 x516002 x516003 x516004) else (revetmentref16_How.l0 k x1 x3 x4 x14 x15 (wrap64 (x16 + 1)) x507000 x507001 x507002 x507003 x507004 x507005 x507006 x507007 x507008 x507009 x507010 x516000 x516001 x516002 x516003 x516004))) else (revetmentref16_How.l0 k x1 x3 x4 x14 x15 (wrap64 (x16 + 1)) x507000 x507001 x507002 x507003 x507004 x507005 x507006 x507007 x507008 x507009 x507010 x516000 x516001 x516002 x516003 x516004))) else (revetmentref16_How.l0 k x1 x3 x4 x14 x15 (wrap64 (x16 + 1)) x507000 x507001 x507002 x507003 x507004 x507005 x507006 x507007 x507008 x507009 x507010 x516000 x516001 x516002 x516003 x516004))) else (revetmentref16_How.l0 k x1 x3 x4 x14 x15 (wrap64 (x16 + 1)) x507000 x507001 x507002 x507003 x507004 x507005 x507006 x507007 x507008 x507009 x507010 x516000 x516001 x516002 x516003 x516004)) else (none)) else (some (x14, x15))
end
def revetmentref16_How.f (k : Nat) (a0_0 : Int) (a0_1 : Int) (a0_2 : Int) (a0_3 : Int) (a0_4 : Int) (a0_5 : Int) (a0_6 : Int) (a0_7 : Int) (a0_8 : Int) (a0_9 : Int) (a0_10 : Int) (l1 : List Int) (a2 : Int) (l3 : List (S71)) (a4 : Int) : Option (Int × Int) := (revetmentref16_Right.f a0_0 a0_1 a0_2 a0_3 a0_4 a0_5 a0_6 a0_7 a0_8 a0_9 a0_10 l1).bind fun t507 => (if t507 = true then (if a4 < 0 then (revetmentref16_How.j0 k l1 a2 l3 a4 true a0_0 a0_1 a0_2 a0_3 a0_4 a0_5 a0_6 a0_7 a0_8 a0_9 a0_10) else ((revetmentref07_Size.f a0_0 a0_1 a0_2 a0_3 a0_4 a0_5 a0_6 a0_7 a0_8 a0_9 a0_10).bind fun t508 => (revetmentref16_How.j0 k l1 a2 l3 a4 (decide (a4 ≥ t508)) a0_0 a0_1 a0_2 a0_3 a0_4 a0_5 a0_6 a0_7 a0_8 a0_9 a0_10))) else (revetmentref16_How.j0 k l1 a2 l3 a4 true a0_0 a0_1 a0_2 a0_3 a0_4 a0_5 a0_6 a0_7 a0_8 a0_9 a0_10))
theorem revetmentref16_How.mono_l : ∀ k, (∀ y0 y1 y2 y3 y4 y5 y6 y7 y8 y9 y10 y11 y12 y13 y14 y15, LeO (revetmentref16_How.j0 k y0 y1 y2 y3 y4 y5 y6 y7 y8 y9 y10 y11 y12 y13 y14 y15) (revetmentref16_How.j0 (k + 1) y0 y1 y2 y3 y4 y5 y6 y7 y8 y9 y10 y11 y12 y13 y14 y15)) ∧ (∀ y0 y1 y2 y3 y4 y5 y6 y7 y8 y9 y10 y11 y12 y13 y14 y15 y16 y17 y18 y19 y20, LeO (revetmentref16_How.j1 k y0 y1 y2 y3 y4 y5 y6 y7 y8 y9 y10 y11 y12 y13 y14 y15 y16 y17 y18 y19 y20) (revetmentref16_How.j1 (k + 1) y0 y1 y2 y3 y4 y5 y6 y7 y8 y9 y10 y11 y12 y13 y14 y15 y16 y17 y18 y19 y20)) ∧ (∀ y0 y1 y2 y3 y4 y5 y6 y7 y8 y9 y10 y11 y12 y13 y14 y15 y16 y17 y18 y19, LeO (revetmentref16_How.j2 k y0 y1 y2 y3 y4 y5 y6 y7 y8 y9 y10 y11 y12 y13 y14 y15 y16 y17 y18 y19) (revetmentref16_How.j2 (k + 1) y0 y1 y2 y3 y4 y5 y6 y7 y8 y9 y10 y11 y12 y13 y14 y15 y16 y17 y18 y19)) ∧ (∀ y0 y1 y2 y3 y4 y5 y6 y7 y8 y9 y10 y11 y12 y13 y14 y15 y16 y17 y18 y19 y20 y21, LeO (revetmentref16_How.l0 k y0 y1 y2 y3 y4 y5 y6 y7 y8 y9 y10 y11 y12 y13 y14 y15 y16 y17 y18 y19 y20 y21) (revetmentref16_How.l0 (k + 1) y0 y1 y2 y3 y4 y5 y6 y7 y8 y9 y10 y11 y12 y13 y14 y15 y16 y17 y18 y19 y20 y21))
 | 0 => ⟨fun _ _ _ _ _ _ _ _ _ _ _ _ _ _ _ _ r h => by simp [revetmentref16_How.j0] at h, fun _ _ _ _ _ _ _ _ _ _ _ _ _ _ _ _ _ _ _ _ _ r h => by simp [revetmentref16_How.j1] at h, fun _ _ _ _ _ _ _ _ _ _ _ _ _ _ _ _ _ _ _ _ r h => by simp [revetmentref16_How.j2] at h, fun _ _ _ _ _ _ _ _ _ _ _ _ _ _ _ _ _ _ _ _ _ _ r h => by simp [revetmentref16_How.l0] at h⟩
 | k + 1 => by
  obtain ⟨ih0, ih1, ih2, ih3⟩ := revetmentref16_How.mono_l k
  refine ⟨?_, ?_, ?_, ?_⟩
  ·intro y0 y1 y2 y3 y4 y5 y6 y7 y8 y9 y10 y11 y12 y13 y14 y15
   unfold revetmentref16_How.j0
   repeat' first
   | (with_reducible exact ih0 _ _ _ _ _ _ _ _ _ _ _ _ _ _ _ _)
   | (with_reducible exact ih1 _ _ _ _ _ _ _ _ _ _ _ _ _ _ _ _ _ _ _ _ _)
   | (with_reducible exact ih2 _ _ _ _ _ _ _ _ _ _ _ _ _ _ _ _ _ _ _ _)
   | (with_reducible exact ih3 _ _ _ _ _ _ _ _ _ _ _ _ _ _ _ _ _ _ _ _ _ _)
   | (with_reducible exact revetmentref08_Of.mono _ _ _ _ _ _ _ _ _ _ _ _ _)
   | (with_reducible exact revetmentref16_others.mono _ _ _ _ _ _ _ _ _ _ _ _ _ _ _)
   | (with_reducible exact LeO.refl _)
   | (with_reducible exact LeO.none _)
   | (with_reducible refine LeO.ite ?_ ?_)
   | (with_reducible refine LeO.bind ?_ (fun _ => ?_))
   | exact ih0 _ _ _ _ _ _ _ _ _ _ _ _ _ _ _ _
   | exact ih1 _ _ _ _ _ _ _ _ _ _ _ _ _ _ _ _ _ _ _ _ _
   | exact ih2 _ _ _ _ _ _ _ _ _ _ _ _ _ _ _ _ _ _ _ _
   | exact ih3 _ _ _ _ _ _ _ _ _ _ _ _ _ _ _ _ _ _ _ _ _ _
   | exact revetmentref08_Of.mono _ _ _ _ _ _ _ _ _ _ _ _ _
   | exact revetmentref16_others.mono _ _ _ _ _ _ _ _ _ _ _ _ _ _ _
   | exact LeO.none _
   | refine LeO.ite ?_ ?_
   | refine LeO.bind ?_ (fun _ => ?_)
  ·intro y0 y1 y2 y3 y4 y5 y6 y7 y8 y9 y10 y11 y12 y13 y14 y15 y16 y17 y18 y19 y20
   unfold revetmentref16_How.j1
   repeat' first
   | (with_reducible exact ih0 _ _ _ _ _ _ _ _ _ _ _ _ _ _ _ _)
   | (with_reducible exact ih1 _ _ _ _ _ _ _ _ _ _ _ _ _ _ _ _ _ _ _ _ _)
   | (with_reducible exact ih2 _ _ _ _ _ _ _ _ _ _ _ _ _ _ _ _ _ _ _ _)
   | (with_reducible exact ih3 _ _ _ _ _ _ _ _ _ _ _ _ _ _ _ _ _ _ _ _ _ _)
   | (with_reducible exact revetmentref08_Of.mono _ _ _ _ _ _ _ _ _ _ _ _ _)
   | (with_reducible exact revetmentref16_others.mono _ _ _ _ _ _ _ _ _ _ _ _ _ _ _)
   | (with_reducible exact LeO.refl _)
   | (with_reducible exact LeO.none _)
   | (with_reducible refine LeO.ite ?_ ?_)
   | (with_reducible refine LeO.bind ?_ (fun _ => ?_))
   | exact ih0 _ _ _ _ _ _ _ _ _ _ _ _ _ _ _ _
   | exact ih1 _ _ _ _ _ _ _ _ _ _ _ _ _ _ _ _ _ _ _ _ _
   | exact ih2 _ _ _ _ _ _ _ _ _ _ _ _ _ _ _ _ _ _ _ _
   | exact ih3 _ _ _ _ _ _ _ _ _ _ _ _ _ _ _ _ _ _ _ _ _ _
   | exact revetmentref08_Of.mono _ _ _ _ _ _ _ _ _ _ _ _ _
   | exact revetmentref16_others.mono _ _ _ _ _ _ _ _ _ _ _ _ _ _ _
   | exact LeO.none _
   | refine LeO.ite ?_ ?_
   | refine LeO.bind ?_ (fun _ => ?_)
  ·intro y0 y1 y2 y3 y4 y5 y6 y7 y8 y9 y10 y11 y12 y13 y14 y15 y16 y17 y18 y19
   unfold revetmentref16_How.j2
   repeat' first
   | (with_reducible exact ih0 _ _ _ _ _ _ _ _ _ _ _ _ _ _ _ _)
   | (with_reducible exact ih1 _ _ _ _ _ _ _ _ _ _ _ _ _ _ _ _ _ _ _ _ _)
   | (with_reducible exact ih2 _ _ _ _ _ _ _ _ _ _ _ _ _ _ _ _ _ _ _ _)
   | (with_reducible exact ih3 _ _ _ _ _ _ _ _ _ _ _ _ _ _ _ _ _ _ _ _ _ _)
   | (with_reducible exact revetmentref08_Of.mono _ _ _ _ _ _ _ _ _ _ _ _ _)
   | (with_reducible exact revetmentref16_others.mono _ _ _ _ _ _ _ _ _ _ _ _ _ _ _)
   | (with_reducible exact LeO.refl _)
   | (with_reducible exact LeO.none _)
   | (with_reducible refine LeO.ite ?_ ?_)
   | (with_reducible refine LeO.bind ?_ (fun _ => ?_))
   | exact ih0 _ _ _ _ _ _ _ _ _ _ _ _ _ _ _ _
   | exact ih1 _ _ _ _ _ _ _ _ _ _ _ _ _ _ _ _ _ _ _ _ _
   | exact ih2 _ _ _ _ _ _ _ _ _ _ _ _ _ _ _ _ _ _ _ _
   | exact ih3 _ _ _ _ _ _ _ _ _ _ _ _ _ _ _ _ _ _ _ _ _ _
   | exact revetmentref08_Of.mono _ _ _ _ _ _ _ _ _ _ _ _ _
   | exact revetmentref16_others.mono _ _ _ _ _ _ _ _ _ _ _ _ _ _ _
   | exact LeO.none _
   | refine LeO.ite ?_ ?_
   | refine LeO.bind ?_ (fun _ => ?_)
  ·intro y0 y1 y2 y3 y4 y5 y6 y7 y8 y9 y10 y11 y12 y13 y14 y15 y16 y17 y18 y19 y20 y21
   unfold revetmentref16_How.l0
   repeat' first
   | (with_reducible exact ih0 _ _ _ _ _ _ _ _ _ _ _ _ _ _ _ _)
   | (with_reducible exact ih1 _ _ _ _ _ _ _ _ _ _ _ _ _ _ _ _ _ _ _ _ _)
   | (with_reducible exact ih2 _ _ _ _ _ _ _ _ _ _ _ _ _ _ _ _ _ _ _ _)
   | (with_reducible exact ih3 _ _ _ _ _ _ _ _ _ _ _ _ _ _ _ _ _ _ _ _ _ _)
   | (with_reducible exact revetmentref08_Of.mono _ _ _ _ _ _ _ _ _ _ _ _ _)
   | (with_reducible exact revetmentref16_others.mono _ _ _ _ _ _ _ _ _ _ _ _ _ _ _)
   | (with_reducible exact LeO.refl _)
   | (with_reducible exact LeO.none _)
   | (with_reducible refine LeO.ite ?_ ?_)
   | (with_reducible refine LeO.bind ?_ (fun _ => ?_))
   | exact ih0 _ _ _ _ _ _ _ _ _ _ _ _ _ _ _ _
   | exact ih1 _ _ _ _ _ _ _ _ _ _ _ _ _ _ _ _ _ _ _ _ _
   | exact ih2 _ _ _ _ _ _ _ _ _ _ _ _ _ _ _ _ _ _ _ _
   | exact ih3 _ _ _ _ _ _ _ _ _ _ _ _ _ _ _ _ _ _ _ _ _ _
   | exact revetmentref08_Of.mono _ _ _ _ _ _ _ _ _ _ _ _ _
   | exact revetmentref16_others.mono _ _ _ _ _ _ _ _ _ _ _ _ _ _ _
   | exact LeO.none _
   | refine LeO.ite ?_ ?_
   | refine LeO.bind ?_ (fun _ => ?_)
theorem revetmentref16_How.mono : ∀ a0 a1 a2 a3 a4 a5 a6 a7 a8 a9 a10 a11 a12 a13 a14 k, LeO (revetmentref16_How.f k a0 a1 a2 a3 a4 a5 a6 a7 a8 a9 a10 a11 a12 a13 a14) (revetmentref16_How.f (k + 1) a0 a1 a2 a3 a4 a5 a6 a7 a8 a9 a10 a11 a12 a13 a14) := by
 intro a0 a1 a2 a3 a4 a5 a6 a7 a8 a9 a10 a11 a12 a13 a14 k
 obtain ⟨ih0, ih1, ih2, ih3⟩ := revetmentref16_How.mono_l k
 unfold revetmentref16_How.f
 repeat' first
   | (with_reducible exact ih0 _ _ _ _ _ _ _ _ _ _ _ _ _ _ _ _)
   | (with_reducible exact ih1 _ _ _ _ _ _ _ _ _ _ _ _ _ _ _ _ _ _ _ _ _)
   | (with_reducible exact ih2 _ _ _ _ _ _ _ _ _ _ _ _ _ _ _ _ _ _ _ _)
   | (with_reducible exact ih3 _ _ _ _ _ _ _ _ _ _ _ _ _ _ _ _ _ _ _ _ _ _)
   | (with_reducible exact revetmentref08_Of.mono _ _ _ _ _ _ _ _ _ _ _ _ _)
   | (with_reducible exact revetmentref16_others.mono _ _ _ _ _ _ _ _ _ _ _ _ _ _ _)
   | (with_reducible exact LeO.refl _)
   | (with_reducible exact LeO.none _)
   | (with_reducible refine LeO.ite ?_ ?_)
   | (with_reducible refine LeO.bind ?_ (fun _ => ?_))
   | exact ih0 _ _ _ _ _ _ _ _ _ _ _ _ _ _ _ _
   | exact ih1 _ _ _ _ _ _ _ _ _ _ _ _ _ _ _ _ _ _ _ _ _
   | exact ih2 _ _ _ _ _ _ _ _ _ _ _ _ _ _ _ _ _ _ _ _
   | exact ih3 _ _ _ _ _ _ _ _ _ _ _ _ _ _ _ _ _ _ _ _ _ _
   | exact revetmentref08_Of.mono _ _ _ _ _ _ _ _ _ _ _ _ _
   | exact revetmentref16_others.mono _ _ _ _ _ _ _ _ _ _ _ _ _ _ _
   | exact LeO.none _
   | refine LeO.ite ?_ ?_
   | refine LeO.bind ?_ (fun _ => ?_)
def revetmentref16_How.T4 : Bool × List (List Nat × List Nat) := (true, [([], []), ([0], [0]), ([], []), ([1, 2], [1, 2]), ([3], [3]), ([4], [4]), ([4], [4]), ([6, 4], [4, 6]), ([5, 7, 4], [4, 5, 7]), ([8, 4], [4, 8]), ([4], [4]), ([10, 4], [4, 10]), ([9, 11, 4], [4, 9, 11]), ([4, 12], [4, 12])])
def revetmentref16_How.B4 : List Nat := [0, 1, 0, 7, 15, 31, 31, 95, 255, 511, 31, 1055, 4095, 8191]
theorem revetmentref16_How.tab4 : rtab .any (opsOf Try.f53 4) = revetmentref16_How.T4 := by kernel_rfl
theorem revetmentref16_How.bits4 : waitsOk revetmentref16_How.T4.2 revetmentref16_How.B4 = true := by kernel_rfl
def revetmentref16_How.T8 : Bool × List (List Nat × List Nat) := (true, [([], []), ([], []), ([], []), ([], []), ([3], [3]), ([0, 1, 2, 4, 4], [0, 1, 2, 4]), ([5, 5], [5]), ([6], [6]), ([6], [6]), ([8, 6], [6, 8]), ([6], [6]), ([10, 6], [6, 10]), ([9, 11, 6], [6, 9, 11]), ([7, 12, 6], [6, 7, 12]), ([13, 6], [6, 13]), ([6], [6]), ([15, 6], [6, 15]), ([14, 16, 6], [6, 14, 16]), ([6, 17], [6, 17])])
def revetmentref16_How.B8 : List Nat := [0, 0, 0, 0, 8, 31, 63, 127, 127, 383, 127, 1151, 3967, 8191, 16383, 127, 32895, 131071, 262143]
theorem revetmentref16_How.tab8 : rtab .any (opsOf Try.f53 8) = revetmentref16_How.T8 := by kernel_rfl
theorem revetmentref16_How.bits8 : waitsOk revetmentref16_How.T8.2 revetmentref16_How.B8 = true := by kernel_rfl
def revetmentref16_How.T15 : Bool × List (List Nat × List Nat) := (true, [([], []), ([], []), ([0, 1], [0, 1]), ([2], [2]), ([3], [3]), ([3], [3]), ([5, 3], [3, 5]), ([3], [3]), ([7, 3, 3], [3, 7]), ([6, 8, 3], [3, 6, 8]), ([4, 9, 3], [3, 4, 9]), ([3, 10], [3, 10]), ([11, 8], [11]), ([12], [12]), ([12], [12]), ([14, 12], [12, 14]), ([15, 12], [12, 15]), ([12], [12]), ([17, 12, 12], [12, 17]), ([16, 18, 12], [12, 16, 18]), ([13, 19, 12], [12, 13, 19]), ([12, 20], [12, 20]), ([21, 18], [21]), ([22], [22]), ([22], [22]), ([22], [22]), ([22], [22]), ([23, 24, 25, 26, 22, 22], [22, 23, 24, 25, 26]), ([22, 27], [22, 27])])
def revetmentref16_How.B15 : List Nat := [0, 0, 3, 7, 15, 15, 47, 15, 143, 495, 1023, 2047, 4095, 8191, 8191, 24575, 57343, 8191, 139263, 516095, 1048575, 2097151, 4194303, 8388607, 8388607, 8388607, 8388607, 134217727, 268435455]
theorem revetmentref16_How.tab15 : rtab .any (opsOf Try.f53 15) = revetmentref16_How.T15 := by kernel_rfl
theorem revetmentref16_How.bits15 : waitsOk revetmentref16_How.T15.2 revetmentref16_How.B15 = true := by kernel_rfl
set_option maxHeartbeats 8000000 in
set_option maxRecDepth 100000 in
theorem revetmentref16_How.calls (k : Nat) (a0_0 : Int) (a0_1 : Int) (a0_2 : Int) (a0_3 : Int) (a0_4 : Int) (a0_5 : Int) (a0_6 : Int) (a0_7 : Int) (a0_8 : Int) (a0_9 : Int) (a0_10 : Int) (A1 : Option Addr) (c1 : Nat) (l1 : List Int) (a2 : Int) (A3 : Option Addr) (c3 : Nat) (l3 : List (S71)) (a4 : Int) (r1 : Int) (r2 : Int) (w : World) (hr1 : Kd.C (Kd.int .i64) w A1 l1.length l1) (hc1 : l1.length ≤ c1) (hr3 : Kd.C k71 w A3 l3.length l3) (hc3 : l3.length ≤ c3) (h : revetmentref16_How.f k a0_0 a0_1 a0_2 a0_3 a0_4 a0_5 a0_6 a0_7 a0_8 a0_9 a0_10 l1 a2 l3 a4 = some (r1, r2)) :
  Calls Try.prog 53 #[.agg #[.int .i64 a0_0, .int .i64 a0_1, .int .i64 a0_2, .int .i64 a0_3, .int .i64 a0_4, .int .i64 a0_5, .int .i64 a0_6, .int .i64 a0_7, .int .i64 a0_8, .int .i64 a0_9, .int .i64 a0_10], .slice A1 l1.length c1, .int .i64 a2, .slice A3 l3.length c3, .int .i64 a4] w fun e w' => e = .returned (.tuple #[.int .i64 r1, .int .i64 r2]) ∧ Below w.heap.size w w' := by
 have hu23 := Try.underlying23
 have hu25 := Try.underlying25
 have HR1 := Aside0.mk hr1
 have HC1 := Aside0.mk hc1
 clear hr1 hc1
 have HR3 := Aside0.mk hr3
 have HC3 := Aside0.mk hc3
 clear hr3 hc3
 have HB := Aside0.mk (Below.refl w.heap.size w)
 have H : ((revetmentref16_Right.f a0_0 a0_1 a0_2 a0_3 a0_4 a0_5 a0_6 a0_7 a0_8 a0_9 a0_10 l1).bind fun t507 => (if t507 = true then (if a4 < 0 then (revetmentref16_How.j0 k l1 a2 l3 a4 true a0_0 a0_1 a0_2 a0_3 a0_4 a0_5 a0_6 a0_7 a0_8 a0_9 a0_10) else ((revetmentref07_Size.f a0_0 a0_1 a0_2 a0_3 a0_4 a0_5 a0_6 a0_7 a0_8 a0_9 a0_10).bind fun t508 => (revetmentref16_How.j0 k l1 a2 l3 a4 (decide (a4 ≥ t508)) a0_0 a0_1 a0_2 a0_3 a0_4 a0_5 a0_6 a0_7 a0_8 a0_9 a0_10))) else (revetmentref16_How.j0 k l1 a2 l3 a4 true a0_0 a0_1 a0_2 a0_3 a0_4 a0_5 a0_6 a0_7 a0_8 a0_9 a0_10))) = some (r1, r2) := h
 clear h
 have HC6 := Aside0.mk H
 clear H
 go_enter Try.func53, Try.ntmps53
 go_upto_region 1 with (first | ((with_reducible refine gate_dst (N := 5) rfl ?_); refine box_event ?hg (N := 5) ?hd (cs := #[.int .i64 a0_0, .int .i64 a0_1, .int .i64 a0_2, .int .i64 a0_3, .int .i64 a0_4, .int .i64 a0_5, .int .i64 a0_6, .int .i64 a0_7, .int .i64 a0_8, .int .i64 a0_9, .int .i64 a0_10]) (t := 23) ?hr ?_; (case hd => rfl); (case hg => rfl); (case hr => first | (go_simp; done) | (go_simp; rfl)); intro gb506 hg w7 hbox hb; have n0_ := bst HB hb; have n1_ := Aside0.mk (hbox); have n2_ := Aside0.mk ((by rw [hg]; exact (below_size (bl HB)) : w.heap.size ≤ gb506)); have n3_ := Aside0.mk ((by rw [hg]; exact (below_size (bl HB)) : w.heap.size ≤ gb506)); clear HB; have HB := n0_; have BK506 := n1_; have GW506 := n2_; have GE506 := n3_; clear n0_ n1_ n2_ n3_; clear hb hbox hg))
 (try simp only [Act.put, List.setIfInBounds_toArray, List.set_cons_zero, List.set_cons_succ])
 go_cut [31] (fun v31 wc => ∃ (kq : Nat) (x31_5 : Bool), v31 = .bool x31_5 ∧ Aside0 (revetmentref16_How.j0 kq l1 a2 l3 a4 x31_5 a0_0 a0_1 a0_2 a0_3 a0_4 a0_5 a0_6 a0_7 a0_8 a0_9 a0_10 = some (r1, r2)) ∧ Aside0 (kq ≤ k) ∧ Aside0 (wc.heap[gb506]? = some (.cells #[.int .i64 a0_0, .int .i64 a0_1, .int .i64 a0_2, .int .i64 a0_3, .int .i64 a0_4, .int .i64 a0_5, .int .i64 a0_6, .int .i64 a0_7, .int .i64 a0_8, .int .i64 a0_9, .int .i64 a0_10] 23 (0, 0))) ∧ Aside0 (Below w.heap.size w wc))
 case first =>
  have H := HC6.out
  clear HC6
  replace H := Option.bind_eq_some_iff.mp H
  obtain ⟨t507, A80, H⟩ := H
  replace H : (if t507 = true then (if a4 < 0 then (revetmentref16_How.j0 k l1 a2 l3 a4 true a0_0 a0_1 a0_2 a0_3 a0_4 a0_5 a0_6 a0_7 a0_8 a0_9 a0_10) else ((revetmentref07_Size.f a0_0 a0_1 a0_2 a0_3 a0_4 a0_5 a0_6 a0_7 a0_8 a0_9 a0_10).bind fun t508 => (revetmentref16_How.j0 k l1 a2 l3 a4 (decide (a4 ≥ t508)) a0_0 a0_1 a0_2 a0_3 a0_4 a0_5 a0_6 a0_7 a0_8 a0_9 a0_10))) else (revetmentref16_How.j0 k l1 a2 l3 a4 true a0_0 a0_1 a0_2 a0_3 a0_4 a0_5 a0_6 a0_7 a0_8 a0_9 a0_10)) = some (r1, r2) := H
  have A8 := Aside0.mk A80
  clear A80
  by_cases c9 : t507 = true
  ·subst c9
   have H1 : (if a4 < 0 then (revetmentref16_How.j0 k l1 a2 l3 a4 true a0_0 a0_1 a0_2 a0_3 a0_4 a0_5 a0_6 a0_7 a0_8 a0_9 a0_10) else ((revetmentref07_Size.f a0_0 a0_1 a0_2 a0_3 a0_4 a0_5 a0_6 a0_7 a0_8 a0_9 a0_10).bind fun t508 => (revetmentref16_How.j0 k l1 a2 l3 a4 (decide (a4 ≥ t508)) a0_0 a0_1 a0_2 a0_3 a0_4 a0_5 a0_6 a0_7 a0_8 a0_9 a0_10))) = some (r1, r2) := by rw [if_pos rfl] at H; exact H
   clear H
   have H := H1
   clear H1
   by_cases c10 : a4 < 0
   ·rw [if_pos c10] at H
    have c10b0 : decide (a4 < 0) = true := decide_eq_true c10
    clear c10
    (first | rw [c10b0] | (simp only [i64_w, i32_w]; rw [c10b0]) | skip)
    have H' := Aside0.mk H
    clear H
    obtain ⟨hcz11_0, hcz11_1, hcz11_2, hcz11_3, hcz11_4, hcz11_5, hcz11_6, hcz11_7, hcz11_8, hcz11_9, hcz11_10⟩ := cz11 BK506.out
    go_wp2_with (first | ((with_reducible refine gate_callee (f := 84) rfl ?_); refine goesL_ (some 20) rfl rfl Try.func84 (by kernel_rfl) rfl #[.agg #[.int .i64 a0_0, .int .i64 a0_1, .int .i64 a0_2, .int .i64 a0_3, .int .i64 a0_4, .int .i64 a0_5, .int .i64 a0_6, .int .i64 a0_7, .int .i64 a0_8, .int .i64 a0_9, .int .i64 a0_10], .slice A1 l1.length c1] rfl (by (try simp only [List.map_toArray, List.map_cons, List.map_nil]); first | done | rfl | (simp only [List.length_drop, List.length_take]; rfl)) ?_; (with_reducible refine (revetmentref16_Right.calls a0_0 a0_1 a0_2 a0_3 a0_4 a0_5 a0_6 a0_7 a0_8 a0_9 a0_10 _ _ l1 true _ ?side1 ?side2 A8.out).mono ?_); (case side1 => repeat (first | exact (Kd.C_below HR1.out HB.out) | (with_reducible refine Kd.C_alloc ?_ _) | (with_reducible refine Kd.C_drewN ?_ _) | (with_reducible refine Kd.C_drew ?_))); (case side2 => exact HC1.out); rintro e w12 ⟨rfl, hb⟩; refine ⟨_, rfl, ?_⟩; have n0_ := bkb BK506 hb; have n1_ := bst HB hb; clear BK506; clear HB; have BK506 := n0_; have HB := n1_; clear n0_ n1_; (try clear hb); (try clear hb2); (try clear hk); (try clear hi)))
    go_meet
    case rel => exact ⟨_, (true), (by first | rfl | (simp; done) | (simp [*]; done)), H', ⟨by first | omega | exact Nat.le_refl _⟩, ⟨by (with_reducible repeat (first | refine blk_drewN ?_ _ | refine blk_drew ?_ | refine blk_alloc ?_ _)); exact BK506.out⟩, ⟨bl HB⟩⟩
   ·rw [if_neg c10] at H
    have c10b0 : decide (a4 < 0) = false := decide_eq_false c10
    clear c10
    (first | rw [c10b0] | (simp only [i64_w, i32_w]; rw [c10b0]) | skip)
    replace H := Option.bind_eq_some_iff.mp H
    obtain ⟨t508, A130, H⟩ := H
    replace H : (revetmentref16_How.j0 k l1 a2 l3 a4 (decide (a4 ≥ t508)) a0_0 a0_1 a0_2 a0_3 a0_4 a0_5 a0_6 a0_7 a0_8 a0_9 a0_10) = some (r1, r2) := H
    have A13 := Aside0.mk A130
    clear A130
    have H' := Aside0.mk H
    clear H
    obtain ⟨hcz14_0, hcz14_1, hcz14_2, hcz14_3, hcz14_4, hcz14_5, hcz14_6, hcz14_7, hcz14_8, hcz14_9, hcz14_10⟩ := cz11 BK506.out
    go_wp2_with (first | ((with_reducible refine gate_callee (f := 84) rfl ?_); refine goesL_ (some 20) rfl rfl Try.func84 (by kernel_rfl) rfl #[.agg #[.int .i64 a0_0, .int .i64 a0_1, .int .i64 a0_2, .int .i64 a0_3, .int .i64 a0_4, .int .i64 a0_5, .int .i64 a0_6, .int .i64 a0_7, .int .i64 a0_8, .int .i64 a0_9, .int .i64 a0_10], .slice A1 l1.length c1] rfl (by (try simp only [List.map_toArray, List.map_cons, List.map_nil]); first | done | rfl | (simp only [List.length_drop, List.length_take]; rfl)) ?_; (with_reducible refine (revetmentref16_Right.calls a0_0 a0_1 a0_2 a0_3 a0_4 a0_5 a0_6 a0_7 a0_8 a0_9 a0_10 _ _ l1 true _ ?side1 ?side2 A8.out).mono ?_); (case side1 => repeat (first | exact (Kd.C_below HR1.out HB.out) | (with_reducible refine Kd.C_alloc ?_ _) | (with_reducible refine Kd.C_drewN ?_ _) | (with_reducible refine Kd.C_drew ?_))); (case side2 => exact HC1.out); rintro e w15 ⟨rfl, hb⟩; refine ⟨_, rfl, ?_⟩; have n0_ := bkb BK506 hb; have n1_ := bst HB hb; clear BK506; clear HB; have BK506 := n0_; have HB := n1_; clear n0_ n1_; (try clear hb); (try clear hb2); (try clear hk); (try clear hi); obtain ⟨hcz16_0, hcz16_1, hcz16_2, hcz16_3, hcz16_4, hcz16_5, hcz16_6, hcz16_7, hcz16_8, hcz16_9, hcz16_10⟩ := cz11 BK506.out) | (go_at_call 58; (with_reducible refine (revetmentref07_Size.calls a0_0 a0_1 a0_2 a0_3 a0_4 a0_5 a0_6 a0_7 a0_8 a0_9 a0_10 t508 _ A13.out).mono ?_); rintro e w17 ⟨rfl, hb⟩; have n0_ := bkb BK506 hb; have n1_ := bst HB hb; clear BK506; clear HB; have BK506 := n0_; have HB := n1_; clear n0_ n1_; (try clear hb); (try clear hb2); (try clear hk); (try clear hi)))
    go_meet
    case rel => exact ⟨_, (decide (a4 ≥ t508)), (by first | rfl | (simp; done) | (simp [*]; done)), H', ⟨by first | omega | exact Nat.le_refl _⟩, ⟨by (with_reducible repeat (first | refine blk_drewN ?_ _ | refine blk_drew ?_ | refine blk_alloc ?_ _)); exact BK506.out⟩, ⟨bl HB⟩⟩
  ·replace c9 := Bool.eq_false_iff.mpr c9
   subst c9
   have H1 : (revetmentref16_How.j0 k l1 a2 l3 a4 true a0_0 a0_1 a0_2 a0_3 a0_4 a0_5 a0_6 a0_7 a0_8 a0_9 a0_10) = some (r1, r2) := by rw [if_neg (show ¬ (false = true) by decide)] at H; exact H
   clear H
   have H := H1
   clear H1
   have H' := Aside0.mk H
   clear H
   obtain ⟨hcz18_0, hcz18_1, hcz18_2, hcz18_3, hcz18_4, hcz18_5, hcz18_6, hcz18_7, hcz18_8, hcz18_9, hcz18_10⟩ := cz11 BK506.out
   go_wp2_with (first | ((with_reducible refine gate_callee (f := 84) rfl ?_); refine goesL_ (some 20) rfl rfl Try.func84 (by kernel_rfl) rfl #[.agg #[.int .i64 a0_0, .int .i64 a0_1, .int .i64 a0_2, .int .i64 a0_3, .int .i64 a0_4, .int .i64 a0_5, .int .i64 a0_6, .int .i64 a0_7, .int .i64 a0_8, .int .i64 a0_9, .int .i64 a0_10], .slice A1 l1.length c1] rfl (by (try simp only [List.map_toArray, List.map_cons, List.map_nil]); first | done | rfl | (simp only [List.length_drop, List.length_take]; rfl)) ?_; (with_reducible refine (revetmentref16_Right.calls a0_0 a0_1 a0_2 a0_3 a0_4 a0_5 a0_6 a0_7 a0_8 a0_9 a0_10 _ _ l1 false _ ?side1 ?side2 A8.out).mono ?_); (case side1 => repeat (first | exact (Kd.C_below HR1.out HB.out) | (with_reducible refine Kd.C_alloc ?_ _) | (with_reducible refine Kd.C_drewN ?_ _) | (with_reducible refine Kd.C_drew ?_))); (case side2 => exact HC1.out); rintro e w19 ⟨rfl, hb⟩; refine ⟨_, rfl, ?_⟩; have n0_ := bkb BK506 hb; have n1_ := bst HB hb; clear BK506; clear HB; have BK506 := n0_; have HB := n1_; clear n0_ n1_; (try clear hb); (try clear hb2); (try clear hk); (try clear hi)))
   go_meet
   case rel => exact ⟨_, (true), (by first | rfl | (simp; done) | (simp [*]; done)), H', ⟨by first | omega | exact Nat.le_refl _⟩, ⟨by (with_reducible repeat (first | refine blk_drewN ?_ _ | refine blk_drew ?_ | refine blk_alloc ?_ _)); exact BK506.out⟩, ⟨bl HB⟩⟩
 case rest =>
  clear HC6
  try clear c1
  try clear p2
  try clear c3
  try clear c5
  try clear c8
  try clear c9
  try clear c10
  try clear c10b0
  (try clear hcz11_0 hcz11_1)
  (try clear hcz11_10)
  (try clear hcz11_2 hcz11_3 hcz11_4 hcz11_5 hcz11_6 hcz11_7 hcz11_8 hcz11_9)
  (try clear hcz14_0 hcz14_1)
  (try clear hcz14_10)
  (try clear hcz14_2 hcz14_3 hcz14_4 hcz14_5 hcz14_6 hcz14_7 hcz14_8 hcz14_9)
  (try clear hcz16_0 hcz16_1)
  (try clear hcz16_10)
  (try clear hcz16_2 hcz16_3 hcz16_4 hcz16_5 hcz16_6 hcz16_7 hcz16_8 hcz16_9)
  (try clear hcz18_0 hcz18_1)
  (try clear hcz18_10)
  (try clear hcz18_2 hcz18_3 hcz18_4 hcz18_5 hcz18_6 hcz18_7 hcz18_8 hcz18_9)
  (try clear hfz11_0 hfz11_1)
  (try clear hfz11_10)
  (try clear hfz11_2 hfz11_3 hfz11_4 hfz11_5 hfz11_6 hfz11_7 hfz11_8 hfz11_9)
  (try clear hfz14_0 hfz14_1)
  (try clear hfz14_10)
  (try clear hfz14_2 hfz14_3 hfz14_4 hfz14_5 hfz14_6 hfz14_7 hfz14_8 hfz14_9)
  (try clear hfz16_0 hfz16_1)
  (try clear hfz16_10)
  (try clear hfz16_2 hfz16_3 hfz16_4 hfz16_5 hfz16_6 hfz16_7 hfz16_8 hfz16_9)
  (try clear hfz18_0 hfz18_1)
  (try clear hfz18_10)
  (try clear hfz18_2 hfz18_3 hfz18_4 hfz18_5 hfz18_6 hfz18_7 hfz18_8 hfz18_9)
  obtain ⟨kq, x31_5, rfl, HA, HJ5, BK506, HB⟩ := hcut
  cases kq with
  | zero => exact absurd HA.out (by simp [revetmentref16_How.j0])
  | succ kj5 =>
   have H := HA.out
   clear HA
   simp only [revetmentref16_How.j0] at H
   by_cases c20 : x31_5 = true
   ·subst c20
    have H1 : (some (0, 0)) = some (r1, r2) := by rw [if_pos rfl] at H; exact H
    clear H
    have H := H1
    clear H1
    simp only [Option.some.injEq, Prod.mk.injEq] at H
    obtain ⟨rfl, rfl⟩ := H
    go_wp2
    go_ret2
    exact ⟨by first | rfl | (simp [errW_none, errW_some] <;> rfl) | (simp [*, errW_none, errW_some] <;> rfl), bl HB⟩
   ·replace c20 := Bool.eq_false_iff.mpr c20
    subst c20
    have H1 : ((revetmentref08_Of.f kj5 a0_0 a0_1 a0_2 a0_3 a0_4 a0_5 a0_6 a0_7 a0_8 a0_9 a0_10 a4).bind fun bt509 => (if bt509.2.2.2.1 = a2 then (revetmentref16_How.j1 kj5 l1 a2 l3 a4 false a0_0 a0_1 a0_2 a0_3 a0_4 a0_5 a0_6 a0_7 a0_8 a0_9 a0_10 bt509.1 bt509.2.1 bt509.2.2.1 bt509.2.2.2.1 bt509.2.2.2.2.1) else (if 0 ≤ bt509.2.2.2.1 then (if bt509.2.2.2.1 < (l1.length : Int) then (revetmentref16_How.j1 kj5 l1 a2 l3 a4 (decide ((rd l1 bt509.2.2.2.1) > bt509.2.2.2.2.1)) a0_0 a0_1 a0_2 a0_3 a0_4 a0_5 a0_6 a0_7 a0_8 a0_9 a0_10 bt509.1 bt509.2.1 bt509.2.2.1 bt509.2.2.2.1 bt509.2.2.2.2.1) else (none)) else (none)))) = some (r1, r2) := by rw [if_neg (show ¬ (false = true) by decide)] at H; exact H
    clear H
    have H := H1
    clear H1
    replace H := Option.bind_eq_some_iff.mp H
    obtain ⟨⟨t509, t510, t511, t512, t513, t514⟩, A210, H⟩ := H
    replace H : (if t512 = a2 then (revetmentref16_How.j1 kj5 l1 a2 l3 a4 false a0_0 a0_1 a0_2 a0_3 a0_4 a0_5 a0_6 a0_7 a0_8 a0_9 a0_10 t509 t510 t511 t512 t513) else (if 0 ≤ t512 then (if t512 < (l1.length : Int) then (revetmentref16_How.j1 kj5 l1 a2 l3 a4 (decide ((rd l1 t512) > t513)) a0_0 a0_1 a0_2 a0_3 a0_4 a0_5 a0_6 a0_7 a0_8 a0_9 a0_10 t509 t510 t511 t512 t513) else (none)) else (none))) = some (r1, r2) := H
    have A21 := Aside0.mk A210
    clear A210
    have HC22 := Aside0.mk H
    clear H
    obtain ⟨hcz23_0, hcz23_1, hcz23_2, hcz23_3, hcz23_4, hcz23_5, hcz23_6, hcz23_7, hcz23_8, hcz23_9, hcz23_10⟩ := cz11 BK506.out
    go_upto_region 4 with (first | ((with_reducible refine gate_callee (f := 18) rfl ?_); refine goesL_ (some 35) rfl rfl Try.func18 (by kernel_rfl) rfl #[.agg #[.int .i64 a0_0, .int .i64 a0_1, .int .i64 a0_2, .int .i64 a0_3, .int .i64 a0_4, .int .i64 a0_5, .int .i64 a0_6, .int .i64 a0_7, .int .i64 a0_8, .int .i64 a0_9, .int .i64 a0_10], .int .i64 a4] rfl (by (try simp only [List.map_toArray, List.map_cons, List.map_nil]); first | done | rfl | (simp only [List.length_drop, List.length_take]; rfl)) ?_; (with_reducible refine (revetmentref08_Of.calls kj5 a0_0 a0_1 a0_2 a0_3 a0_4 a0_5 a0_6 a0_7 a0_8 a0_9 a0_10 a4 t509 t510 t511 t512 t513 t514 _ A21.out).mono ?_); rintro e w24 ⟨rfl, hb⟩; refine ⟨_, rfl, ?_⟩; have n0_ := bkb BK506 hb; have n1_ := bst HB hb; clear BK506; clear HB; have BK506 := n0_; have HB := n1_; clear n0_ n1_; (try clear hb); (try clear hb2); (try clear hk); (try clear hi)) | ((with_reducible refine gate_dst (N := 12) rfl ?_); refine box_event ?hg (N := 12) ?hd (cs := #[.int .i64 0, .int .i64 0, .int .i64 0, .int .i64 0, .int .i64 0]) (t := 25) ?hr ?_; (case hd => rfl); (case hg => rfl); (case hr => first | (go_simp; done) | (go_simp; rfl)); intro gb515 hg w25 hbox hb; have n0_ := bkb BK506 hb; have n1_ := bst HB hb; have n2_ := Aside0.mk (hbox); have n3_ := Aside0.mk ((by rw [hg]; exact (below_size (bl HB)) : w.heap.size ≤ gb515)); have n4_ := Aside0.mk ((by rw [hg]; exact (below_size (bl HB)) : w.heap.size ≤ gb515)); have n5_ := Aside0.mk ((by rw [hg]; exact Nat.ne_of_lt (blk_lt (g := gb506) (o := .cells #[.int .i64 a0_0, .int .i64 a0_1, .int .i64 a0_2, .int .i64 a0_3, .int .i64 a0_4, .int .i64 a0_5, .int .i64 a0_6, .int .i64 a0_7, .int .i64 a0_8, .int .i64 a0_9, .int .i64 a0_10] 23 (0, 0)) (by (with_reducible repeat (first | refine blk_drewN ?_ _ | refine blk_drew ?_ | refine blk_alloc ?_ _)); exact BK506.out)) : gb506 ≠ gb515)); have n6_ := Aside0.mk ((by rw [hg]; exact Nat.ne_of_gt (blk_lt (g := gb506) (o := .cells #[.int .i64 a0_0, .int .i64 a0_1, .int .i64 a0_2, .int .i64 a0_3, .int .i64 a0_4, .int .i64 a0_5, .int .i64 a0_6, .int .i64 a0_7, .int .i64 a0_8, .int .i64 a0_9, .int .i64 a0_10] 23 (0, 0)) (by (with_reducible repeat (first | refine blk_drewN ?_ _ | refine blk_drew ?_ | refine blk_alloc ?_ _)); exact BK506.out)) : gb515 ≠ gb506)); clear BK506; clear HB; have BK506 := n0_; have HB := n1_; have BK515 := n2_; have GW515 := n3_; have GE515 := n4_; have NB506_515 := n5_; have NB515_506 := n6_; clear n0_ n1_ n2_ n3_ n4_ n5_ n6_; clear hb hbox hg; have hnb26 := NB515_506.out; have hnc26 := NB506_515.out; obtain ⟨hcz27_0, hcz27_1, hcz27_2, hcz27_3, hcz27_4⟩ := cz5 BK515.out; obtain ⟨hfz27_0, hfz27_1, hfz27_2, hfz27_3, hfz27_4⟩ := fz5 BK515.out))
    (try simp only [Act.put, List.setIfInBounds_toArray, List.set_cons_zero, List.set_cons_succ])
    go_cut [51] (fun v51 wc => ∃ (kq : Nat) (x51_21 : Bool), v51 = .bool x51_21 ∧ Aside0 (revetmentref16_How.j1 kq l1 a2 l3 a4 x51_21 a0_0 a0_1 a0_2 a0_3 a0_4 a0_5 a0_6 a0_7 a0_8 a0_9 a0_10 t509 t510 t511 t512 t513 = some (r1, r2)) ∧ Aside0 (kq ≤ kj5) ∧ Aside0 (wc.heap[gb506]? = some (.cells #[.int .i64 a0_0, .int .i64 a0_1, .int .i64 a0_2, .int .i64 a0_3, .int .i64 a0_4, .int .i64 a0_5, .int .i64 a0_6, .int .i64 a0_7, .int .i64 a0_8, .int .i64 a0_9, .int .i64 a0_10] 23 (0, 0))) ∧ Aside0 (wc.heap[gb515]? = some (.cells #[.int .i64 t509, .int .i64 t510, .int .i64 t511, .int .i64 t512, .int .i64 t513] 25 (0, 0))) ∧ Aside0 (Below w.heap.size w wc))
    case first =>
     have H := HC22.out
     clear HC22
     by_cases c28 : t512 = a2
     ·rw [if_pos c28] at H
      have c28b0 : (t512 == a2) = true := beq_iff_eq.mpr c28
      have c28b1 : (t512 != a2) = false := bne_eq_false_iff_eq.mpr c28
      clear c28
      (first | rw [c28b0] | (simp only [i64_w, i32_w]; rw [c28b0]) | skip)
      have H' := Aside0.mk H
      clear H
      try go_wp2
      have n0_ : Aside0 ((((((w25.setCell ⟨gb515, 0, none⟩ (.int .i64 t509)).setCell ⟨gb515, 1, none⟩ (.int .i64 t510)).setCell ⟨gb515, 2, none⟩ (.int .i64 t511)).setCell ⟨gb515, 3, none⟩ (.int .i64 t512)).setCell ⟨gb515, 4, none⟩ (.int .i64 t513)).heap[gb506]? = some (.cells #[.int .i64 a0_0, .int .i64 a0_1, .int .i64 a0_2, .int .i64 a0_3, .int .i64 a0_4, .int .i64 a0_5, .int .i64 a0_6, .int .i64 a0_7, .int .i64 a0_8, .int .i64 a0_9, .int .i64 a0_10] 23 (0, 0))) := ⟨by (with_reducible repeat (first | refine blk_drewN ?_ _ | refine blk_drew ?_ | refine blk_alloc ?_ _)); refine blk_far ?_ NB506_515.out _; (with_reducible repeat (first | refine blk_drewN ?_ _ | refine blk_drew ?_ | refine blk_alloc ?_ _)); refine blk_far ?_ NB506_515.out _; (with_reducible repeat (first | refine blk_drewN ?_ _ | refine blk_drew ?_ | refine blk_alloc ?_ _)); refine blk_far ?_ NB506_515.out _; (with_reducible repeat (first | refine blk_drewN ?_ _ | refine blk_drew ?_ | refine blk_alloc ?_ _)); refine blk_far ?_ NB506_515.out _; (with_reducible repeat (first | refine blk_drewN ?_ _ | refine blk_drew ?_ | refine blk_alloc ?_ _)); refine blk_far ?_ NB506_515.out _; (with_reducible repeat (first | refine blk_drewN ?_ _ | refine blk_drew ?_ | refine blk_alloc ?_ _)); exact BK506.out⟩
      have n1_ : Aside0 ((((((w25.setCell ⟨gb515, 0, none⟩ (.int .i64 t509)).setCell ⟨gb515, 1, none⟩ (.int .i64 t510)).setCell ⟨gb515, 2, none⟩ (.int .i64 t511)).setCell ⟨gb515, 3, none⟩ (.int .i64 t512)).setCell ⟨gb515, 4, none⟩ (.int .i64 t513)).heap[gb515]? = some (.cells #[.int .i64 t509, .int .i64 t510, .int .i64 t511, .int .i64 t512, .int .i64 t513] 25 (0, 0))) := ⟨by (with_reducible repeat (first | refine blk_drewN ?_ _ | refine blk_drew ?_ | refine blk_alloc ?_ _)); refine blk_put (cs := #[.int .i64 t509, .int .i64 t510, .int .i64 t511, .int .i64 t512, .int .i64 0]) ?_ 4 _ rfl; (with_reducible repeat (first | refine blk_drewN ?_ _ | refine blk_drew ?_ | refine blk_alloc ?_ _)); refine blk_put (cs := #[.int .i64 t509, .int .i64 t510, .int .i64 t511, .int .i64 0, .int .i64 0]) ?_ 3 _ rfl; (with_reducible repeat (first | refine blk_drewN ?_ _ | refine blk_drew ?_ | refine blk_alloc ?_ _)); refine blk_put (cs := #[.int .i64 t509, .int .i64 t510, .int .i64 0, .int .i64 0, .int .i64 0]) ?_ 2 _ rfl; (with_reducible repeat (first | refine blk_drewN ?_ _ | refine blk_drew ?_ | refine blk_alloc ?_ _)); refine blk_put (cs := #[.int .i64 t509, .int .i64 0, .int .i64 0, .int .i64 0, .int .i64 0]) ?_ 1 _ rfl; (with_reducible repeat (first | refine blk_drewN ?_ _ | refine blk_drew ?_ | refine blk_alloc ?_ _)); refine blk_put (cs := #[.int .i64 0, .int .i64 0, .int .i64 0, .int .i64 0, .int .i64 0]) ?_ 0 _ rfl; (with_reducible repeat (first | refine blk_drewN ?_ _ | refine blk_drew ?_ | refine blk_alloc ?_ _)); exact BK515.out⟩
      have n2_ : Aside0 (Below w.heap.size w (((((w25.setCell ⟨gb515, 0, none⟩ (.int .i64 t509)).setCell ⟨gb515, 1, none⟩ (.int .i64 t510)).setCell ⟨gb515, 2, none⟩ (.int .i64 t511)).setCell ⟨gb515, 3, none⟩ (.int .i64 t512)).setCell ⟨gb515, 4, none⟩ (.int .i64 t513))) := ⟨bl HB⟩
      (try clear BK506)
      (try clear BK515)
      (try clear HB)
      generalize (((((w25.setCell ⟨gb515, 0, none⟩ (.int .i64 t509)).setCell ⟨gb515, 1, none⟩ (.int .i64 t510)).setCell ⟨gb515, 2, none⟩ (.int .i64 t511)).setCell ⟨gb515, 3, none⟩ (.int .i64 t512)).setCell ⟨gb515, 4, none⟩ (.int .i64 t513)) = w29 at n0_ n1_ n2_ ⊢
      have BK506 := n0_
      have BK515 := n1_
      have HB := n2_
      clear n0_ n1_ n2_
      replace BK506 := Aside0.mk (blk_drew BK506.out)
      replace BK515 := Aside0.mk (blk_drew BK515.out)
      replace HB := Aside0.mk (below_drew1 HB.out)
      refine start_ (n := 14) (S := fun w' => w'.cell? ⟨gb515, 0, none⟩ = some (.int .i64 t509) ∧ w'.cell? ⟨gb515, 1, none⟩ = some (.int .i64 t510) ∧ w'.cell? ⟨gb515, 2, none⟩ = some (.int .i64 t511) ∧ w'.cell? ⟨gb515, 3, none⟩ = some (.int .i64 t512) ∧ w'.cell? ⟨gb515, 4, none⟩ = some (.int .i64 t513)) (ds := []) (bq 14 0) (by kernel_rfl) rfl rfl (cz5 BK515.out) (fun hHeld => ?_); refine with_tabW revetmentref16_How.tab4 revetmentref16_How.bits4 (fun HT_ HW_ => ?_)
      generalize w29.drew = w30 at BK506 BK515 HB hHeld ⊢
      apply pu 0 38 (bq 14 1) HT_
      apply pu 2 40 (bq 14 5) HT_
      apply tu 1 39 (bq 14 7) HT_ HW_ hHeld
      apply pu 3 41 (bq 14 15) HT_
      apply pu 4 42 (bq 14 31) HT_
      apply po 5 43 (bq 14 63) HT_
      apply po 6 44 (bq 14 127) HT_
      apply po 7 45 (bq 14 255) HT_
      apply po 8 46 (bq 14 511) HT_
      apply po 9 47 (bq 14 1023) HT_
      apply po 10 48 (bq 14 2047) HT_
      apply po 11 49 (bq 14 4095) HT_
      apply po 12 50 (bq 14 8191) HT_
      apply pu 13 51 (bq 14 16383) HT_
      refine done_ (done_of HT_.out (by kernel_rfl)) ?_
      try go_wp2
      go_meet
      case rel => exact ⟨_, (false), (by first | rfl | (simp; done) | (simp [*]; done)), H', ⟨by have := HJ5.out; first | omega | exact Nat.le_refl _⟩, ⟨by (with_reducible repeat (first | refine blk_drewN ?_ _ | refine blk_drew ?_ | refine blk_alloc ?_ _)); exact BK506.out⟩, ⟨by (with_reducible repeat (first | refine blk_drewN ?_ _ | refine blk_drew ?_ | refine blk_alloc ?_ _)); exact BK515.out⟩, ⟨bl HB⟩⟩
     ·rw [if_neg c28] at H
      have c28b0 : (t512 == a2) = false := beq_eq_false_iff_ne.mpr c28
      have c28b1 : (t512 != a2) = true := bne_iff_ne.mpr c28
      (first | rw [c28b0] | (simp only [i64_w, i32_w]; rw [c28b0]) | skip)
      by_cases c31 : 0 ≤ t512
      ·rw [if_pos c31] at H
       have c31b0 : decide (0 ≤ t512) = true := decide_eq_true c31
       clear c31
       by_cases c32 : t512 < (l1.length : Int)
       ·rw [if_pos c32] at H
        have c32b0 : decide (t512 < (l1.length : Int)) = true := decide_eq_true c32
        clear c32
        have H' := Aside0.mk H
        clear H
        try go_wp2
        have n0_ : Aside0 ((((((w25.setCell ⟨gb515, 0, none⟩ (.int .i64 t509)).setCell ⟨gb515, 1, none⟩ (.int .i64 t510)).setCell ⟨gb515, 2, none⟩ (.int .i64 t511)).setCell ⟨gb515, 3, none⟩ (.int .i64 t512)).setCell ⟨gb515, 4, none⟩ (.int .i64 t513)).heap[gb506]? = some (.cells #[.int .i64 a0_0, .int .i64 a0_1, .int .i64 a0_2, .int .i64 a0_3, .int .i64 a0_4, .int .i64 a0_5, .int .i64 a0_6, .int .i64 a0_7, .int .i64 a0_8, .int .i64 a0_9, .int .i64 a0_10] 23 (0, 0))) := ⟨by (with_reducible repeat (first | refine blk_drewN ?_ _ | refine blk_drew ?_ | refine blk_alloc ?_ _)); refine blk_far ?_ NB506_515.out _; (with_reducible repeat (first | refine blk_drewN ?_ _ | refine blk_drew ?_ | refine blk_alloc ?_ _)); refine blk_far ?_ NB506_515.out _; (with_reducible repeat (first | refine blk_drewN ?_ _ | refine blk_drew ?_ | refine blk_alloc ?_ _)); refine blk_far ?_ NB506_515.out _; (with_reducible repeat (first | refine blk_drewN ?_ _ | refine blk_drew ?_ | refine blk_alloc ?_ _)); refine blk_far ?_ NB506_515.out _; (with_reducible repeat (first | refine blk_drewN ?_ _ | refine blk_drew ?_ | refine blk_alloc ?_ _)); refine blk_far ?_ NB506_515.out _; (with_reducible repeat (first | refine blk_drewN ?_ _ | refine blk_drew ?_ | refine blk_alloc ?_ _)); exact BK506.out⟩
        have n1_ : Aside0 ((((((w25.setCell ⟨gb515, 0, none⟩ (.int .i64 t509)).setCell ⟨gb515, 1, none⟩ (.int .i64 t510)).setCell ⟨gb515, 2, none⟩ (.int .i64 t511)).setCell ⟨gb515, 3, none⟩ (.int .i64 t512)).setCell ⟨gb515, 4, none⟩ (.int .i64 t513)).heap[gb515]? = some (.cells #[.int .i64 t509, .int .i64 t510, .int .i64 t511, .int .i64 t512, .int .i64 t513] 25 (0, 0))) := ⟨by (with_reducible repeat (first | refine blk_drewN ?_ _ | refine blk_drew ?_ | refine blk_alloc ?_ _)); refine blk_put (cs := #[.int .i64 t509, .int .i64 t510, .int .i64 t511, .int .i64 t512, .int .i64 0]) ?_ 4 _ rfl; (with_reducible repeat (first | refine blk_drewN ?_ _ | refine blk_drew ?_ | refine blk_alloc ?_ _)); refine blk_put (cs := #[.int .i64 t509, .int .i64 t510, .int .i64 t511, .int .i64 0, .int .i64 0]) ?_ 3 _ rfl; (with_reducible repeat (first | refine blk_drewN ?_ _ | refine blk_drew ?_ | refine blk_alloc ?_ _)); refine blk_put (cs := #[.int .i64 t509, .int .i64 t510, .int .i64 0, .int .i64 0, .int .i64 0]) ?_ 2 _ rfl; (with_reducible repeat (first | refine blk_drewN ?_ _ | refine blk_drew ?_ | refine blk_alloc ?_ _)); refine blk_put (cs := #[.int .i64 t509, .int .i64 0, .int .i64 0, .int .i64 0, .int .i64 0]) ?_ 1 _ rfl; (with_reducible repeat (first | refine blk_drewN ?_ _ | refine blk_drew ?_ | refine blk_alloc ?_ _)); refine blk_put (cs := #[.int .i64 0, .int .i64 0, .int .i64 0, .int .i64 0, .int .i64 0]) ?_ 0 _ rfl; (with_reducible repeat (first | refine blk_drewN ?_ _ | refine blk_drew ?_ | refine blk_alloc ?_ _)); exact BK515.out⟩
        have n2_ : Aside0 (Below w.heap.size w (((((w25.setCell ⟨gb515, 0, none⟩ (.int .i64 t509)).setCell ⟨gb515, 1, none⟩ (.int .i64 t510)).setCell ⟨gb515, 2, none⟩ (.int .i64 t511)).setCell ⟨gb515, 3, none⟩ (.int .i64 t512)).setCell ⟨gb515, 4, none⟩ (.int .i64 t513))) := ⟨bl HB⟩
        (try clear BK506)
        (try clear BK515)
        (try clear HB)
        generalize (((((w25.setCell ⟨gb515, 0, none⟩ (.int .i64 t509)).setCell ⟨gb515, 1, none⟩ (.int .i64 t510)).setCell ⟨gb515, 2, none⟩ (.int .i64 t511)).setCell ⟨gb515, 3, none⟩ (.int .i64 t512)).setCell ⟨gb515, 4, none⟩ (.int .i64 t513)) = w33 at n0_ n1_ n2_ ⊢
        have BK506 := n0_
        have BK515 := n1_
        have HB := n2_
        clear n0_ n1_ n2_
        replace BK506 := Aside0.mk (blk_drew BK506.out)
        replace BK515 := Aside0.mk (blk_drew BK515.out)
        replace HB := Aside0.mk (below_drew1 HB.out)
        have p516 : 0 ≤ (t512 : Int) := of_decide_eq_true (by first | (with_reducible assumption) | assumption)
        have q516 : t512 < (l1.length : Int) := of_decide_eq_true (by first | (with_reducible assumption) | assumption)
        obtain ⟨ad516, e516, hx516_0⟩ := Kd.at_int HR1.out t512 p516 q516
        have hw516_0 := hx516_0
        cases e516
        replace hx516_0 := (HB.out.cell (World.block_lt_of_cell? w _ hx516_0)).trans hx516_0
        replace p516 := eq_true p516
        replace q516 := eq_true q516
        refine start_ (n := 14) (S := fun w' => w'.cell? ⟨gb515, 0, none⟩ = some (.int .i64 t509) ∧ w'.cell? ⟨gb515, 1, none⟩ = some (.int .i64 t510) ∧ w'.cell? ⟨gb515, 2, none⟩ = some (.int .i64 t511) ∧ w'.cell? ⟨gb515, 3, none⟩ = some (.int .i64 t512) ∧ w'.cell? ⟨gb515, 4, none⟩ = some (.int .i64 t513) ∧ w'.cell? (ad516.add (t512).toNat) = some (.int .i64 (rd l1 t512))) (ds := []) (bq 14 0) (by kernel_rfl) rfl rfl ⟨(blk_cell BK515.out 0).trans rfl, (blk_cell BK515.out 1).trans rfl, (blk_cell BK515.out 2).trans rfl, (blk_cell BK515.out 3).trans rfl, (blk_cell BK515.out 4).trans rfl, ((HB.out.cell (World.block_lt_of_cell? w _ hw516_0)).trans hw516_0)⟩ (fun hHeld => ?_); refine with_tabW revetmentref16_How.tab4 revetmentref16_How.bits4 (fun HT_ HW_ => ?_)
        generalize w33.drew = w34 at BK506 BK515 HB hx516_0 hHeld ⊢
        apply pu 0 38 (bq 14 1) HT_
        apply pu 2 40 (bq 14 5) HT_
        apply tu 1 39 (bq 14 7) HT_ HW_ hHeld
        apply pu 3 41 (bq 14 15) HT_
        apply pu 4 42 (bq 14 31) HT_
        apply pu 5 43 (bq 14 63) HT_
        apply pu 6 44 (bq 14 127) HT_
        apply pu 10 48 (bq 14 1151) HT_
        apply tu 7 45 (bq 14 1279) HT_ HW_ hHeld
        apply pu 8 46 (bq 14 1535) HT_
        apply tu 9 47 (bq 14 2047) HT_ HW_ hHeld
        apply tu 11 49 (bq 14 4095) HT_ HW_ hHeld
        apply pu 12 50 (bq 14 8191) HT_
        apply pu 13 51 (bq 14 16383) HT_
        refine done_ (done_of HT_.out (by kernel_rfl)) ?_
        try go_wp2
        go_meet
        case rel => exact ⟨_, (decide ((rd l1 t512) > t513)), (by first | rfl | (simp; done) | (simp [*]; done)), H', ⟨by have := HJ5.out; first | omega | exact Nat.le_refl _⟩, ⟨by (with_reducible repeat (first | refine blk_drewN ?_ _ | refine blk_drew ?_ | refine blk_alloc ?_ _)); exact BK506.out⟩, ⟨by (with_reducible repeat (first | refine blk_drewN ?_ _ | refine blk_drew ?_ | refine blk_alloc ?_ _)); exact BK515.out⟩, ⟨bl HB⟩⟩
       ·rw [if_neg c32] at H
        exact absurd H (by simp)
      ·rw [if_neg c31] at H
       exact absurd H (by simp)
    case rest =>
     clear HC22
     try clear c1
     try clear c2
     try clear p2
     try clear c3
     try clear c5
     try clear p5
     try clear q5
     try clear hx5
     try clear c8
     try clear c9
     try clear c10
     try clear c10b0
     try clear c18
     try clear c20
     try clear c26
     try clear c28
     try clear c28b0
     try clear c28b1
     try clear c31
     try clear c31b0
     try clear c32
     try clear c32b0
     (try clear hcz11_0 hcz11_1)
     (try clear hcz11_10)
     (try clear hcz11_2 hcz11_3 hcz11_4 hcz11_5 hcz11_6 hcz11_7 hcz11_8 hcz11_9)
     (try clear hcz14_0 hcz14_1)
     (try clear hcz14_10)
     (try clear hcz14_2 hcz14_3 hcz14_4 hcz14_5 hcz14_6 hcz14_7 hcz14_8 hcz14_9)
     (try clear hcz16_0 hcz16_1)
     (try clear hcz16_10)
     (try clear hcz16_2 hcz16_3 hcz16_4 hcz16_5 hcz16_6 hcz16_7 hcz16_8 hcz16_9)
     (try clear hcz18_0 hcz18_1)
     (try clear hcz18_10)
     (try clear hcz18_2 hcz18_3 hcz18_4 hcz18_5 hcz18_6 hcz18_7 hcz18_8 hcz18_9)
     (try clear hcz23_0 hcz23_1)
     (try clear hcz23_10)
     (try clear hcz23_2 hcz23_3 hcz23_4 hcz23_5 hcz23_6 hcz23_7 hcz23_8 hcz23_9)
     (try clear hcz27_0 hcz27_1 hcz27_2 hcz27_3 hcz27_4)
     (try clear hfz11_0 hfz11_1)
     (try clear hfz11_10)
     (try clear hfz11_2 hfz11_3 hfz11_4 hfz11_5 hfz11_6 hfz11_7 hfz11_8 hfz11_9)
     (try clear hfz14_0 hfz14_1)
     (try clear hfz14_10)
     (try clear hfz14_2 hfz14_3 hfz14_4 hfz14_5 hfz14_6 hfz14_7 hfz14_8 hfz14_9)
     (try clear hfz16_0 hfz16_1)
     (try clear hfz16_10)
     (try clear hfz16_2 hfz16_3 hfz16_4 hfz16_5 hfz16_6 hfz16_7 hfz16_8 hfz16_9)
     (try clear hfz18_0 hfz18_1)
     (try clear hfz18_10)
     (try clear hfz18_2 hfz18_3 hfz18_4 hfz18_5 hfz18_6 hfz18_7 hfz18_8 hfz18_9)
     (try clear hfz23_0 hfz23_1)
     (try clear hfz23_10)
     (try clear hfz23_2 hfz23_3 hfz23_4 hfz23_5 hfz23_6 hfz23_7 hfz23_8 hfz23_9)
     (try clear hfz27_0 hfz27_1 hfz27_2 hfz27_3 hfz27_4)
     try clear hx516_0
     try clear p2
     try clear p516
     try clear q516
     obtain ⟨kq, x51_21, rfl, HA, HJ21, BK506, BK515, HB⟩ := hcut
     cases kq with
     | zero => exact absurd HA.out (by simp [revetmentref16_How.j1])
     | succ kj21 =>
      have H := HA.out
      clear HA
      simp only [revetmentref16_How.j1] at H
      by_cases c35 : x51_21 = true
      ·subst c35
       have H1 : (some (1, 0)) = some (r1, r2) := by rw [if_pos rfl] at H; exact H
       clear H
       have H := H1
       clear H1
       simp only [Option.some.injEq, Prod.mk.injEq] at H
       obtain ⟨rfl, rfl⟩ := H
       go_wp2
       go_ret2
       exact ⟨by first | rfl | (simp [errW_none, errW_some] <;> rfl) | (simp [*, errW_none, errW_some] <;> rfl), bl HB⟩
      ·replace c35 := Bool.eq_false_iff.mpr c35
       subst c35
       have H1 : (if t512 = a2 then ((revetmentref07_Size.f a0_0 a0_1 a0_2 a0_3 a0_4 a0_5 a0_6 a0_7 a0_8 a0_9 a0_10).bind fun t517 => ((revetmentref16_others.f kj21 a0_0 a0_1 a0_2 a0_3 a0_4 a0_5 a0_6 a0_7 a0_8 a0_9 a0_10 l1 a4 t517).bind fun t518 => (if t518 = true then (if a0_1 = 0 then (none) else (if 0 ≤ (Int.tmod t509 a0_1) then (if (Int.tmod t509 a0_1) < (l1.length : Int) then (revetmentref16_How.j2 kj21 l1 l3 a4 (decide ((rd l1 (Int.tmod t509 a0_1)) > t513)) a0_0 a0_1 a0_2 a0_3 a0_4 a0_5 a0_6 a0_7 a0_8 a0_9 a0_10 t509 t510 t511 t512 t513) else (none)) else (none))) else (revetmentref16_How.j2 kj21 l1 l3 a4 false a0_0 a0_1 a0_2 a0_3 a0_4 a0_5 a0_6 a0_7 a0_8 a0_9 a0_10 t509 t510 t511 t512 t513)))) else (some (0, 0))) = some (r1, r2) := by rw [if_neg (show ¬ (false = true) by decide)] at H; exact H
       clear H
       have H := H1
       clear H1
       by_cases c36 : t512 = a2
       ·rw [if_pos c36] at H
        have c36b0 : (t512 == a2) = true := beq_iff_eq.mpr c36
        have c36b1 : (t512 != a2) = false := bne_eq_false_iff_eq.mpr c36
        clear c36
        have HC37 := Aside0.mk H
        clear H
        have hnb38 := NB515_506.out
        have hnc38 := NB506_515.out
        obtain ⟨hcz39_0, hcz39_1, hcz39_2, hcz39_3, hcz39_4⟩ := cz5 BK515.out
        obtain ⟨hfz39_0, hfz39_1, hfz39_2, hfz39_3, hfz39_4⟩ := fz5 BK515.out
        go_upto_region 8 with (fail)
        go_cut [74] (fun v74 wc => ∃ (kq : Nat) (x74_36 : Bool), v74 = .bool x74_36 ∧ Aside0 (revetmentref16_How.j2 kq l1 l3 a4 x74_36 a0_0 a0_1 a0_2 a0_3 a0_4 a0_5 a0_6 a0_7 a0_8 a0_9 a0_10 t509 t510 t511 t512 t513 = some (r1, r2)) ∧ Aside0 (kq ≤ kj21) ∧ Aside0 (wc.heap[gb506]? = some (.cells #[.int .i64 a0_0, .int .i64 a0_1, .int .i64 a0_2, .int .i64 a0_3, .int .i64 a0_4, .int .i64 a0_5, .int .i64 a0_6, .int .i64 a0_7, .int .i64 a0_8, .int .i64 a0_9, .int .i64 a0_10] 23 (0, 0))) ∧ Aside0 (wc.heap[gb515]? = some (.cells #[.int .i64 t509, .int .i64 t510, .int .i64 t511, .int .i64 t512, .int .i64 t513] 25 (0, 0))) ∧ Aside0 (Below w.heap.size w wc))
        case first =>
         have H := HC37.out
         clear HC37
         replace H := Option.bind_eq_some_iff.mp H
         obtain ⟨t517, A400, H⟩ := H
         replace H : ((revetmentref16_others.f kj21 a0_0 a0_1 a0_2 a0_3 a0_4 a0_5 a0_6 a0_7 a0_8 a0_9 a0_10 l1 a4 t517).bind fun t518 => (if t518 = true then (if a0_1 = 0 then (none) else (if 0 ≤ (Int.tmod t509 a0_1) then (if (Int.tmod t509 a0_1) < (l1.length : Int) then (revetmentref16_How.j2 kj21 l1 l3 a4 (decide ((rd l1 (Int.tmod t509 a0_1)) > t513)) a0_0 a0_1 a0_2 a0_3 a0_4 a0_5 a0_6 a0_7 a0_8 a0_9 a0_10 t509 t510 t511 t512 t513) else (none)) else (none))) else (revetmentref16_How.j2 kj21 l1 l3 a4 false a0_0 a0_1 a0_2 a0_3 a0_4 a0_5 a0_6 a0_7 a0_8 a0_9 a0_10 t509 t510 t511 t512 t513))) = some (r1, r2) := H
         have A40 := Aside0.mk A400
         clear A400
         replace H := Option.bind_eq_some_iff.mp H
         obtain ⟨t518, A410, H⟩ := H
         replace H : (if t518 = true then (if a0_1 = 0 then (none) else (if 0 ≤ (Int.tmod t509 a0_1) then (if (Int.tmod t509 a0_1) < (l1.length : Int) then (revetmentref16_How.j2 kj21 l1 l3 a4 (decide ((rd l1 (Int.tmod t509 a0_1)) > t513)) a0_0 a0_1 a0_2 a0_3 a0_4 a0_5 a0_6 a0_7 a0_8 a0_9 a0_10 t509 t510 t511 t512 t513) else (none)) else (none))) else (revetmentref16_How.j2 kj21 l1 l3 a4 false a0_0 a0_1 a0_2 a0_3 a0_4 a0_5 a0_6 a0_7 a0_8 a0_9 a0_10 t509 t510 t511 t512 t513)) = some (r1, r2) := H
         have A41 := Aside0.mk A410
         clear A410
         by_cases c42 : t518 = true
         ·subst c42
          have H1 : (if a0_1 = 0 then (none) else (if 0 ≤ (Int.tmod t509 a0_1) then (if (Int.tmod t509 a0_1) < (l1.length : Int) then (revetmentref16_How.j2 kj21 l1 l3 a4 (decide ((rd l1 (Int.tmod t509 a0_1)) > t513)) a0_0 a0_1 a0_2 a0_3 a0_4 a0_5 a0_6 a0_7 a0_8 a0_9 a0_10 t509 t510 t511 t512 t513) else (none)) else (none))) = some (r1, r2) := by rw [if_pos rfl] at H; exact H
          clear H
          have H := H1
          clear H1
          by_cases c43 : a0_1 = 0
          ·rw [if_pos c43] at H
           exact absurd H (by simp)
          ·rw [if_neg c43] at H
           have c43b0 : (a0_1 == 0) = false := beq_eq_false_iff_ne.mpr c43
           have c43b1 : (a0_1 != 0) = true := bne_iff_ne.mpr c43
           (first | rw [c43b0] | (simp only [i64_w, i32_w]; rw [c43b0]) | skip)
           obtain ⟨ji44, hji44⟩ : ∃ j_ : Int, (Int.tmod t509 a0_1) = j_ := ⟨_, rfl⟩
           replace H : (if 0 ≤ (ji44) then (if (ji44) < (l1.length : Int) then (revetmentref16_How.j2 kj21 l1 l3 a4 (decide ((rd l1 (ji44)) > t513)) a0_0 a0_1 a0_2 a0_3 a0_4 a0_5 a0_6 a0_7 a0_8 a0_9 a0_10 t509 t510 t511 t512 t513) else (none)) else (none)) = some (r1, r2) := by first | (rw [hji44] at H; exact H) | (simp only [hji44] at H ⊢; exact H)
           (try rw [hji44] at A40)
           (try rw [hji44] at A41)
           by_cases c45 : 0 ≤ (ji44)
           ·rw [if_pos c45] at H
            have c45b0 : decide (0 ≤ (ji44)) = true := decide_eq_true c45
            clear c45
            by_cases c46 : (ji44) < (l1.length : Int)
            ·rw [if_pos c46] at H
             have c46b0 : decide ((ji44) < (l1.length : Int)) = true := decide_eq_true c46
             clear c46
             have H' := Aside0.mk H
             clear H
             try go_wp2
             replace BK506 := Aside0.mk (blk_drew BK506.out)
             replace BK515 := Aside0.mk (blk_drew BK515.out)
             replace HB := Aside0.mk (below_drew1 HB.out)
             have p519 : 0 ≤ ((ji44) : Int) := of_decide_eq_true (by first | (with_reducible assumption) | assumption)
             have q519 : (ji44) < (l1.length : Int) := of_decide_eq_true (by first | (with_reducible assumption) | assumption)
             obtain ⟨ad519, e519, hx519_0⟩ := Kd.at_int HR1.out (ji44) p519 q519
             have hw519_0 := hx519_0
             cases e519
             replace hx519_0 := (HB.out.cell (World.block_lt_of_cell? w _ hx519_0)).trans hx519_0
             replace p519 := eq_true p519
             replace q519 := eq_true q519
             refine start_ (n := 19) (S := fun w' => w'.cell? ⟨gb506, 0, none⟩ = some (.int .i64 a0_0) ∧ w'.cell? ⟨gb506, 1, none⟩ = some (.int .i64 a0_1) ∧ w'.cell? ⟨gb506, 2, none⟩ = some (.int .i64 a0_2) ∧ w'.cell? ⟨gb506, 3, none⟩ = some (.int .i64 a0_3) ∧ w'.cell? ⟨gb506, 4, none⟩ = some (.int .i64 a0_4) ∧ w'.cell? ⟨gb506, 5, none⟩ = some (.int .i64 a0_5) ∧ w'.cell? ⟨gb506, 6, none⟩ = some (.int .i64 a0_6) ∧ w'.cell? ⟨gb506, 7, none⟩ = some (.int .i64 a0_7) ∧ w'.cell? ⟨gb506, 8, none⟩ = some (.int .i64 a0_8) ∧ w'.cell? ⟨gb506, 9, none⟩ = some (.int .i64 a0_9) ∧ w'.cell? ⟨gb506, 10, none⟩ = some (.int .i64 a0_10) ∧ w'.cell? ⟨gb515, 0, none⟩ = some (.int .i64 t509) ∧ w'.cell? ⟨gb515, 1, none⟩ = some (.int .i64 t510) ∧ w'.cell? ⟨gb515, 2, none⟩ = some (.int .i64 t511) ∧ w'.cell? ⟨gb515, 3, none⟩ = some (.int .i64 t512) ∧ w'.cell? ⟨gb515, 4, none⟩ = some (.int .i64 t513) ∧ w'.cell? (ad519.add ((ji44)).toNat) = some (.int .i64 (rd l1 (ji44)))) (ds := []) (bq 19 0) (by kernel_rfl) rfl rfl ⟨(blk_cell BK506.out 0).trans rfl, (blk_cell BK506.out 1).trans rfl, (blk_cell BK506.out 2).trans rfl, (blk_cell BK506.out 3).trans rfl, (blk_cell BK506.out 4).trans rfl, (blk_cell BK506.out 5).trans rfl, (blk_cell BK506.out 6).trans rfl, (blk_cell BK506.out 7).trans rfl, (blk_cell BK506.out 8).trans rfl, (blk_cell BK506.out 9).trans rfl, (blk_cell BK506.out 10).trans rfl, (blk_cell BK515.out 0).trans rfl, (blk_cell BK515.out 1).trans rfl, (blk_cell BK515.out 2).trans rfl, (blk_cell BK515.out 3).trans rfl, (blk_cell BK515.out 4).trans rfl, ((HB.out.cell (World.block_lt_of_cell? w _ hw519_0)).trans hw519_0)⟩ (fun hHeld => ?_); refine with_tabW revetmentref16_How.tab8 revetmentref16_How.bits8 (fun HT_ HW_ => ?_)
             generalize wc.drew = w47 at BK506 BK515 HB hx519_0 hHeld ⊢
             apply pu 1 57 (bq 19 2) HT_
             apply pu 2 58 (bq 19 6) HT_
             apply tu 0 56 (bq 19 7) HT_ HW_ hHeld
             apply tu 3 59 (bq 19 15) HT_ HW_ hHeld
             refine one_ (i := 4) (N := some 60) (bq 19 31) rfl rfl (one_of HT_.out (by kernel_rfl)) (by decide) (fun K hK => ?_)
             refine gs Try.func58 #[.agg #[.int .i64 a0_0, .int .i64 a0_1, .int .i64 a0_2, .int .i64 a0_3, .int .i64 a0_4, .int .i64 a0_5, .int .i64 a0_6, .int .i64 a0_7, .int .i64 a0_8, .int .i64 a0_9, .int .i64 a0_10]] ?_
             with_reducible refine (revetmentref07_Size.calls a0_0 a0_1 a0_2 a0_3 a0_4 a0_5 a0_6 a0_7 a0_8 a0_9 a0_10 t517 _ A40.out).mono ?_
             rintro e w48 ⟨rfl, hb⟩
             refine ⟨_, rfl, ?_⟩
             replace BK506 := bkb BK506 hb
             replace BK515 := bkb BK515 hb
             replace HB := bst HB hb
             try clear hb; try clear hb2; try clear hk; try clear hi
             refine hK.out _ _ ⟨(blk_cell BK506.out 0).trans rfl, (blk_cell BK506.out 1).trans rfl, (blk_cell BK506.out 2).trans rfl, (blk_cell BK506.out 3).trans rfl, (blk_cell BK506.out 4).trans rfl, (blk_cell BK506.out 5).trans rfl, (blk_cell BK506.out 6).trans rfl, (blk_cell BK506.out 7).trans rfl, (blk_cell BK506.out 8).trans rfl, (blk_cell BK506.out 9).trans rfl, (blk_cell BK506.out 10).trans rfl, (blk_cell BK515.out 0).trans rfl, (blk_cell BK515.out 1).trans rfl, (blk_cell BK515.out 2).trans rfl, (blk_cell BK515.out 3).trans rfl, (blk_cell BK515.out 4).trans rfl, ((HB.out.cell (World.block_lt_of_cell? w _ hw519_0)).trans hw519_0)⟩ (fun hHeld => ?_)
             clear hK K
             apply nm 0
             refine one_ (i := 5) (N := some 61) (bq 19 63) rfl rfl (one_of HT_.out (by kernel_rfl)) (by decide) (fun K hK => ?_)
             refine gs Try.func87 #[.agg #[.int .i64 a0_0, .int .i64 a0_1, .int .i64 a0_2, .int .i64 a0_3, .int .i64 a0_4, .int .i64 a0_5, .int .i64 a0_6, .int .i64 a0_7, .int .i64 a0_8, .int .i64 a0_9, .int .i64 a0_10], .slice (some ad519) l1.length c1, .int .i64 a4, .int .i64 t517] ?_
             with_reducible refine (revetmentref16_others.calls kj21 a0_0 a0_1 a0_2 a0_3 a0_4 a0_5 a0_6 a0_7 a0_8 a0_9 a0_10 _ _ l1 a4 t517 true _ ?side1 ?side2 A41.out).mono ?_
             (case side1 => repeat (first | exact (Kd.C_below HR1.out HB.out) | (with_reducible refine Kd.C_alloc ?_ _) | (with_reducible refine Kd.C_drewN ?_ _) | (with_reducible refine Kd.C_drew ?_)))
             (case side2 => exact HC1.out)
             rintro e w49 ⟨rfl, hb⟩
             refine ⟨_, rfl, ?_⟩
             replace BK506 := bkb BK506 hb
             replace BK515 := bkb BK515 hb
             replace HB := bst HB hb
             try clear hb; try clear hb2; try clear hk; try clear hi
             refine hK.out _ _ ⟨(blk_cell BK506.out 0).trans rfl, (blk_cell BK506.out 1).trans rfl, (blk_cell BK506.out 2).trans rfl, (blk_cell BK506.out 3).trans rfl, (blk_cell BK506.out 4).trans rfl, (blk_cell BK506.out 5).trans rfl, (blk_cell BK506.out 6).trans rfl, (blk_cell BK506.out 7).trans rfl, (blk_cell BK506.out 8).trans rfl, (blk_cell BK506.out 9).trans rfl, (blk_cell BK506.out 10).trans rfl, (blk_cell BK515.out 0).trans rfl, (blk_cell BK515.out 1).trans rfl, (blk_cell BK515.out 2).trans rfl, (blk_cell BK515.out 3).trans rfl, (blk_cell BK515.out 4).trans rfl, ((HB.out.cell (World.block_lt_of_cell? w _ hw519_0)).trans hw519_0)⟩ (fun hHeld => ?_)
             clear hK K
             apply nm 0
             apply pu 6 62 (bq 19 127) HT_
             apply pu 7 63 (bq 19 255) HT_
             apply pu 8 64 (bq 19 511) HT_
             apply pu 10 66 (bq 19 1535) HT_
             apply pu 15 71 (bq 19 34303) HT_
             apply tu 9 65 (bq 19 34815) HT_ HW_ hHeld
             apply tu 11 67 (bq 19 36863) HT_ HW_ hHeld
             apply pu 12 68 (bq 19 40959) HT_
             apply pu 13 69 (bq 19 49151) HT_
             apply tu 14 70 (bq 19 65535) HT_ HW_ hHeld
             apply tu 16 72 (bq 19 131071) HT_ HW_ hHeld
             apply pu 17 73 (bq 19 262143) HT_
             apply pu 18 74 (bq 19 524287) HT_
             refine done_ (done_of HT_.out (by kernel_rfl)) ?_
             try go_wp2
             go_meet
             case rel => exact ⟨_, (decide ((rd l1 (ji44)) > t513)), (by first | rfl | (simp; done) | (simp only [← hji44] <;> (first | rfl | simp)) | (simp [*]; done)), H', ⟨by have := HJ5.out; have := HJ21.out; first | omega | exact Nat.le_refl _⟩, ⟨by (with_reducible repeat (first | refine blk_drewN ?_ _ | refine blk_drew ?_ | refine blk_alloc ?_ _)); exact BK506.out⟩, ⟨by (with_reducible repeat (first | refine blk_drewN ?_ _ | refine blk_drew ?_ | refine blk_alloc ?_ _)); exact BK515.out⟩, ⟨bl HB⟩⟩
            ·rw [if_neg c46] at H
             exact absurd H (by simp)
           ·rw [if_neg c45] at H
            exact absurd H (by simp)
         ·replace c42 := Bool.eq_false_iff.mpr c42
          subst c42
          have H1 : (revetmentref16_How.j2 kj21 l1 l3 a4 false a0_0 a0_1 a0_2 a0_3 a0_4 a0_5 a0_6 a0_7 a0_8 a0_9 a0_10 t509 t510 t511 t512 t513) = some (r1, r2) := by rw [if_neg (show ¬ (false = true) by decide)] at H; exact H
          clear H
          have H := H1
          clear H1
          have H' := Aside0.mk H
          clear H
          try go_wp2
          replace BK506 := Aside0.mk (blk_drew BK506.out)
          replace BK515 := Aside0.mk (blk_drew BK515.out)
          replace HB := Aside0.mk (below_drew1 HB.out)
          refine start_ (n := 19) (S := fun w' => w'.cell? ⟨gb506, 0, none⟩ = some (.int .i64 a0_0) ∧ w'.cell? ⟨gb506, 1, none⟩ = some (.int .i64 a0_1) ∧ w'.cell? ⟨gb506, 2, none⟩ = some (.int .i64 a0_2) ∧ w'.cell? ⟨gb506, 3, none⟩ = some (.int .i64 a0_3) ∧ w'.cell? ⟨gb506, 4, none⟩ = some (.int .i64 a0_4) ∧ w'.cell? ⟨gb506, 5, none⟩ = some (.int .i64 a0_5) ∧ w'.cell? ⟨gb506, 6, none⟩ = some (.int .i64 a0_6) ∧ w'.cell? ⟨gb506, 7, none⟩ = some (.int .i64 a0_7) ∧ w'.cell? ⟨gb506, 8, none⟩ = some (.int .i64 a0_8) ∧ w'.cell? ⟨gb506, 9, none⟩ = some (.int .i64 a0_9) ∧ w'.cell? ⟨gb506, 10, none⟩ = some (.int .i64 a0_10)) (ds := []) (bq 19 0) (by kernel_rfl) rfl rfl (cz11 BK506.out) (fun hHeld => ?_); refine with_tabW revetmentref16_How.tab8 revetmentref16_How.bits8 (fun HT_ HW_ => ?_)
          generalize wc.drew = w50 at BK506 BK515 HB hHeld ⊢
          apply pu 1 57 (bq 19 2) HT_
          apply pu 2 58 (bq 19 6) HT_
          apply tu 0 56 (bq 19 7) HT_ HW_ hHeld
          apply tu 3 59 (bq 19 15) HT_ HW_ hHeld
          refine one_ (i := 4) (N := some 60) (bq 19 31) rfl rfl (one_of HT_.out (by kernel_rfl)) (by decide) (fun K hK => ?_)
          refine gs Try.func58 #[.agg #[.int .i64 a0_0, .int .i64 a0_1, .int .i64 a0_2, .int .i64 a0_3, .int .i64 a0_4, .int .i64 a0_5, .int .i64 a0_6, .int .i64 a0_7, .int .i64 a0_8, .int .i64 a0_9, .int .i64 a0_10]] ?_
          with_reducible refine (revetmentref07_Size.calls a0_0 a0_1 a0_2 a0_3 a0_4 a0_5 a0_6 a0_7 a0_8 a0_9 a0_10 t517 _ A40.out).mono ?_
          rintro e w51 ⟨rfl, hb⟩
          refine ⟨_, rfl, ?_⟩
          replace BK506 := bkb BK506 hb
          replace BK515 := bkb BK515 hb
          replace HB := bst HB hb
          try clear hb; try clear hb2; try clear hk; try clear hi
          refine hK.out _ _ sc (fun hHeld => ?_)
          clear hK K
          apply nm 0
          refine one_ (i := 5) (N := some 61) (bq 19 63) rfl rfl (one_of HT_.out (by kernel_rfl)) (by decide) (fun K hK => ?_)
          refine gs Try.func87 #[.agg #[.int .i64 a0_0, .int .i64 a0_1, .int .i64 a0_2, .int .i64 a0_3, .int .i64 a0_4, .int .i64 a0_5, .int .i64 a0_6, .int .i64 a0_7, .int .i64 a0_8, .int .i64 a0_9, .int .i64 a0_10], .slice A1 l1.length c1, .int .i64 a4, .int .i64 t517] ?_
          with_reducible refine (revetmentref16_others.calls kj21 a0_0 a0_1 a0_2 a0_3 a0_4 a0_5 a0_6 a0_7 a0_8 a0_9 a0_10 _ _ l1 a4 t517 false _ ?side1 ?side2 A41.out).mono ?_
          (case side1 => repeat (first | exact (Kd.C_below HR1.out HB.out) | (with_reducible refine Kd.C_alloc ?_ _) | (with_reducible refine Kd.C_drewN ?_ _) | (with_reducible refine Kd.C_drew ?_)))
          (case side2 => exact HC1.out)
          rintro e w52 ⟨rfl, hb⟩
          refine ⟨_, rfl, ?_⟩
          replace BK506 := bkb BK506 hb
          replace BK515 := bkb BK515 hb
          replace HB := bst HB hb
          try clear hb; try clear hb2; try clear hk; try clear hi
          refine hK.out _ _ sc (fun hHeld => ?_)
          clear hK K
          apply nm 0
          apply pu 6 62 (bq 19 127) HT_
          apply po 7 63 (bq 19 255) HT_
          apply po 8 64 (bq 19 511) HT_
          apply po 9 65 (bq 19 1023) HT_
          apply po 10 66 (bq 19 2047) HT_
          apply po 11 67 (bq 19 4095) HT_
          apply po 12 68 (bq 19 8191) HT_
          apply po 13 69 (bq 19 16383) HT_
          apply po 14 70 (bq 19 32767) HT_
          apply po 15 71 (bq 19 65535) HT_
          apply po 16 72 (bq 19 131071) HT_
          apply po 17 73 (bq 19 262143) HT_
          apply pu 18 74 (bq 19 524287) HT_
          refine done_ (done_of HT_.out (by kernel_rfl)) ?_
          try go_wp2
          go_meet
          case rel => exact ⟨_, (false), (by first | rfl | (simp; done) | (simp [*]; done)), H', ⟨by have := HJ5.out; have := HJ21.out; first | omega | exact Nat.le_refl _⟩, ⟨by (with_reducible repeat (first | refine blk_drewN ?_ _ | refine blk_drew ?_ | refine blk_alloc ?_ _)); exact BK506.out⟩, ⟨by (with_reducible repeat (first | refine blk_drewN ?_ _ | refine blk_drew ?_ | refine blk_alloc ?_ _)); exact BK515.out⟩, ⟨bl HB⟩⟩
        case rest =>
         clear HC37
         try clear c1
         try clear p2
         try clear c3
         try clear c4
         try clear c5
         try clear p5
         try clear q5
         try clear hx5
         try clear c8
         try clear c35
         try clear c36
         try clear c36b0
         try clear c36b1
         try clear c38
         try clear c42
         try clear c43
         try clear c43b0
         try clear c43b1
         try clear c45
         try clear c45b0
         try clear c46
         try clear c46b0
         try clear p51
         try clear q51
         try clear hx51
         (try clear hcz11_1)
         (try clear hcz11_10)
         (try clear hcz11_2 hcz11_3 hcz11_4 hcz11_5 hcz11_6 hcz11_7 hcz11_8 hcz11_9)
         (try clear hcz14_0 hcz14_1)
         (try clear hcz14_10)
         (try clear hcz14_2 hcz14_3 hcz14_4 hcz14_5 hcz14_6 hcz14_7 hcz14_8 hcz14_9)
         (try clear hcz16_0 hcz16_1)
         (try clear hcz16_10)
         (try clear hcz16_2 hcz16_3 hcz16_4 hcz16_5 hcz16_6 hcz16_7 hcz16_8 hcz16_9)
         (try clear hcz18_0 hcz18_1)
         (try clear hcz18_10)
         (try clear hcz18_2 hcz18_3 hcz18_4 hcz18_5 hcz18_6 hcz18_7 hcz18_8 hcz18_9)
         (try clear hcz23_0 hcz23_1)
         (try clear hcz23_10)
         (try clear hcz23_2 hcz23_3 hcz23_4 hcz23_5 hcz23_6 hcz23_7 hcz23_8 hcz23_9)
         (try clear hcz27_0 hcz27_1 hcz27_2 hcz27_3 hcz27_4)
         (try clear hcz39_0 hcz39_1 hcz39_2 hcz39_3 hcz39_4)
         (try clear hfz11_0 hfz11_1)
         (try clear hfz11_10)
         (try clear hfz11_2 hfz11_3 hfz11_4 hfz11_5 hfz11_6 hfz11_7 hfz11_8 hfz11_9)
         (try clear hfz14_0 hfz14_1)
         (try clear hfz14_10)
         (try clear hfz14_2 hfz14_3 hfz14_4 hfz14_5 hfz14_6 hfz14_7 hfz14_8 hfz14_9)
         (try clear hfz16_0 hfz16_1)
         (try clear hfz16_10)
         (try clear hfz16_2 hfz16_3 hfz16_4 hfz16_5 hfz16_6 hfz16_7 hfz16_8 hfz16_9)
         (try clear hfz18_0 hfz18_1)
         (try clear hfz18_10)
         (try clear hfz18_2 hfz18_3 hfz18_4 hfz18_5 hfz18_6 hfz18_7 hfz18_8 hfz18_9)
         (try clear hfz23_0 hfz23_1)
         (try clear hfz23_10)
         (try clear hfz23_2 hfz23_3 hfz23_4 hfz23_5 hfz23_6 hfz23_7 hfz23_8 hfz23_9)
         (try clear hfz27_0 hfz27_1 hfz27_2 hfz27_3 hfz27_4)
         (try clear hfz39_0 hfz39_1 hfz39_2 hfz39_3 hfz39_4)
         try clear hx516_0
         try clear hx519_0
         try clear p2
         try clear p516
         try clear p519
         try clear q516
         try clear q519
         obtain ⟨kq, x74_36, rfl, HA, HJ36, BK506, BK515, HB⟩ := hcut
         cases kq with
         | zero => exact absurd HA.out (by simp [revetmentref16_How.j2])
         | succ kj36 =>
          have H := HA.out
          clear HA
          simp only [revetmentref16_How.j2] at H
          by_cases c53 : x74_36 = true
          ·subst c53
           have H1 : (some (2, 0)) = some (r1, r2) := by rw [if_pos rfl] at H; exact H
           clear H
           have H := H1
           clear H1
           simp only [Option.some.injEq, Prod.mk.injEq] at H
           obtain ⟨rfl, rfl⟩ := H
           go_wp2
           go_ret2
           exact ⟨by first | rfl | (simp [errW_none, errW_some] <;> rfl) | (simp [*, errW_none, errW_some] <;> rfl), bl HB⟩
          ·replace c53 := Bool.eq_false_iff.mpr c53
           subst c53
           have H1 : (revetmentref16_How.l0 kj36 l1 l3 a4 0 0 0 a0_0 a0_1 a0_2 a0_3 a0_4 a0_5 a0_6 a0_7 a0_8 a0_9 a0_10 t509 t510 t511 t512 t513) = some (r1, r2) := by rw [if_neg (show ¬ (false = true) by decide)] at H; exact H
           clear H
           have H := H1
           clear H1
           have H' := Aside0.mk H
           clear H
           go_wp2
           go_loopg [14, 15, 16] kj36 (fun kq v14 v15 v16 w' => ∃ (x14_4 : Int) (x15_4 : Int) (x16_4 : Int), v14 = .int .i64 x14_4 ∧ v15 = .int .i64 x15_4 ∧ v16 = .int .i64 x16_4 ∧ Aside0 (revetmentref16_How.l0 kq l1 l3 a4 x14_4 x15_4 x16_4 a0_0 a0_1 a0_2 a0_3 a0_4 a0_5 a0_6 a0_7 a0_8 a0_9 a0_10 t509 t510 t511 t512 t513 = some (r1, r2)) ∧ Aside0 (kq ≤ kj36) ∧ Aside0 (w'.heap[gb506]? = some (.cells #[.int .i64 a0_0, .int .i64 a0_1, .int .i64 a0_2, .int .i64 a0_3, .int .i64 a0_4, .int .i64 a0_5, .int .i64 a0_6, .int .i64 a0_7, .int .i64 a0_8, .int .i64 a0_9, .int .i64 a0_10] 23 (0, 0))) ∧ Aside0 (w'.heap[gb515]? = some (.cells #[.int .i64 t509, .int .i64 t510, .int .i64 t511, .int .i64 t512, .int .i64 t513] 25 (0, 0))) ∧ Aside0 (Below w.heap.size w w'))
           case atStart => exact ⟨(0), (0), (0), (by first | rfl | (simp; done) | (simp [*]; done)), (by first | rfl | (simp; done) | (simp [*]; done)), (by first | rfl | (simp; done) | (simp [*]; done)), H', ⟨Nat.le_refl _⟩, ⟨by (with_reducible repeat (first | refine blk_drewN ?_ _ | refine blk_drew ?_ | refine blk_alloc ?_ _)); exact BK506.out⟩, ⟨by (with_reducible repeat (first | refine blk_drewN ?_ _ | refine blk_drew ?_ | refine blk_alloc ?_ _)); exact BK515.out⟩, ⟨bl HB⟩⟩
           case round =>
            clear H'
            try clear c1
            try clear p2
            try clear c3
            try clear c4
            try clear c5
            try clear p5
            try clear q5
            try clear hx5
            try clear c8
            try clear c35
            try clear c36
            try clear c36b0
            try clear c36b1
            try clear c38
            try clear c42
            try clear c43
            try clear c43b0
            try clear c43b1
            try clear c45
            try clear c45b0
            try clear c46
            try clear c46b0
            try clear p51
            try clear q51
            try clear hx51
            try clear c53
            (try clear hcz11_1)
            (try clear hcz11_10)
            (try clear hcz11_2 hcz11_3 hcz11_4 hcz11_5 hcz11_6 hcz11_7 hcz11_8 hcz11_9)
            (try clear hcz14_0 hcz14_1)
            (try clear hcz14_10)
            (try clear hcz14_2 hcz14_3 hcz14_4 hcz14_5 hcz14_6 hcz14_7 hcz14_8 hcz14_9)
            (try clear hcz16_0 hcz16_1)
            (try clear hcz16_10)
            (try clear hcz16_2 hcz16_3 hcz16_4 hcz16_5 hcz16_6 hcz16_7 hcz16_8 hcz16_9)
            (try clear hcz18_0 hcz18_1)
            (try clear hcz18_10)
            (try clear hcz18_2 hcz18_3 hcz18_4 hcz18_5 hcz18_6 hcz18_7 hcz18_8 hcz18_9)
            (try clear hcz23_0 hcz23_1)
            (try clear hcz23_10)
            (try clear hcz23_2 hcz23_3 hcz23_4 hcz23_5 hcz23_6 hcz23_7 hcz23_8 hcz23_9)
            (try clear hcz27_0 hcz27_1 hcz27_2 hcz27_3 hcz27_4)
            (try clear hcz39_0 hcz39_1 hcz39_2 hcz39_3 hcz39_4)
            (try clear hfz11_0 hfz11_1)
            (try clear hfz11_10)
            (try clear hfz11_2 hfz11_3 hfz11_4 hfz11_5 hfz11_6 hfz11_7 hfz11_8 hfz11_9)
            (try clear hfz14_0 hfz14_1)
            (try clear hfz14_10)
            (try clear hfz14_2 hfz14_3 hfz14_4 hfz14_5 hfz14_6 hfz14_7 hfz14_8 hfz14_9)
            (try clear hfz16_0 hfz16_1)
            (try clear hfz16_10)
            (try clear hfz16_2 hfz16_3 hfz16_4 hfz16_5 hfz16_6 hfz16_7 hfz16_8 hfz16_9)
            (try clear hfz18_0 hfz18_1)
            (try clear hfz18_10)
            (try clear hfz18_2 hfz18_3 hfz18_4 hfz18_5 hfz18_6 hfz18_7 hfz18_8 hfz18_9)
            (try clear hfz23_0 hfz23_1)
            (try clear hfz23_10)
            (try clear hfz23_2 hfz23_3 hfz23_4 hfz23_5 hfz23_6 hfz23_7 hfz23_8 hfz23_9)
            (try clear hfz27_0 hfz27_1 hfz27_2 hfz27_3 hfz27_4)
            (try clear hfz39_0 hfz39_1 hfz39_2 hfz39_3 hfz39_4)
            try clear hx516_0
            try clear hx519_0
            try clear p2
            try clear p5
            try clear p51
            try clear p516
            try clear p519
            try clear q5
            try clear q51
            try clear q516
            try clear q519
            obtain ⟨x14_4, x15_4, x16_4, rfl, rfl, rfl, HA, HK4, BK506, BK515, HB⟩ := hrel
            cases gk with
            | zero => exact absurd HA.out (by simp [revetmentref16_How.l0])
            | succ k4 =>
             have H := HA.out
             clear HA
             simp only [revetmentref16_How.l0] at H
             by_cases c54 : x16_4 < (l3.length : Int)
             ·rw [if_pos c54] at H
              have c54b0 : decide (x16_4 < (l3.length : Int)) = true := decide_eq_true c54
              clear c54
              by_cases c55 : 0 ≤ x16_4
              ·rw [if_pos c55] at H
               have c55b0 : decide (0 ≤ x16_4) = true := decide_eq_true c55
               clear c55
               by_cases c56 : ((rd_T71 l3 x16_4).f0) > a4
               ·rw [if_pos c56] at H
                have c56b0 : decide (a4 < ((rd_T71 l3 x16_4).f0)) = true := decide_eq_true c56
                clear c56
                replace H := Option.bind_eq_some_iff.mp H
                obtain ⟨t521, A570, H⟩ := H
                replace H : (if ((rd_T71 l3 x16_4).f0) > (wrap64 (t509 * t521)) then ((revetmentref07_Row.f a0_0 a0_1 a0_2 a0_3 a0_4 a0_5 a0_6 a0_7 a0_8 a0_9 a0_10).bind fun t522 => (if ((rd_T71 l3 x16_4).f0) ≤ (wrap64 ((wrap64 (t509 + 1)) * t522)) then ((revetmentref16_others.f k4 a0_0 a0_1 a0_2 a0_3 a0_4 a0_5 a0_6 a0_7 a0_8 a0_9 a0_10 l1 a4 ((rd_T71 l3 x16_4).f0)).bind fun t523 => (if t523 = true then (revetmentref16_How.l0 k4 l1 l3 a4 3 x16_4 (wrap64 (x16_4 + 1)) a0_0 a0_1 a0_2 a0_3 a0_4 a0_5 a0_6 a0_7 a0_8 a0_9 a0_10 t509 t510 t511 t512 t513) else (revetmentref16_How.l0 k4 l1 l3 a4 x14_4 x15_4 (wrap64 (x16_4 + 1)) a0_0 a0_1 a0_2 a0_3 a0_4 a0_5 a0_6 a0_7 a0_8 a0_9 a0_10 t509 t510 t511 t512 t513))) else (revetmentref16_How.l0 k4 l1 l3 a4 x14_4 x15_4 (wrap64 (x16_4 + 1)) a0_0 a0_1 a0_2 a0_3 a0_4 a0_5 a0_6 a0_7 a0_8 a0_9 a0_10 t509 t510 t511 t512 t513))) else (revetmentref16_How.l0 k4 l1 l3 a4 x14_4 x15_4 (wrap64 (x16_4 + 1)) a0_0 a0_1 a0_2 a0_3 a0_4 a0_5 a0_6 a0_7 a0_8 a0_9 a0_10 t509 t510 t511 t512 t513)) = some (r1, r2) := H
                have A57 := Aside0.mk A570
                clear A570
                by_cases c58 : ((rd_T71 l3 x16_4).f0) > (wrap64 (t509 * t521))
                ·rw [if_pos c58] at H
                 have c58b0 : decide ((wrap64 (t509 * t521)) < ((rd_T71 l3 x16_4).f0)) = true := decide_eq_true c58
                 clear c58
                 replace H := Option.bind_eq_some_iff.mp H
                 obtain ⟨t522, A590, H⟩ := H
                 replace H : (if ((rd_T71 l3 x16_4).f0) ≤ (wrap64 ((wrap64 (t509 + 1)) * t522)) then ((revetmentref16_others.f k4 a0_0 a0_1 a0_2 a0_3 a0_4 a0_5 a0_6 a0_7 a0_8 a0_9 a0_10 l1 a4 ((rd_T71 l3 x16_4).f0)).bind fun t523 => (if t523 = true then (revetmentref16_How.l0 k4 l1 l3 a4 3 x16_4 (wrap64 (x16_4 + 1)) a0_0 a0_1 a0_2 a0_3 a0_4 a0_5 a0_6 a0_7 a0_8 a0_9 a0_10 t509 t510 t511 t512 t513) else (revetmentref16_How.l0 k4 l1 l3 a4 x14_4 x15_4 (wrap64 (x16_4 + 1)) a0_0 a0_1 a0_2 a0_3 a0_4 a0_5 a0_6 a0_7 a0_8 a0_9 a0_10 t509 t510 t511 t512 t513))) else (revetmentref16_How.l0 k4 l1 l3 a4 x14_4 x15_4 (wrap64 (x16_4 + 1)) a0_0 a0_1 a0_2 a0_3 a0_4 a0_5 a0_6 a0_7 a0_8 a0_9 a0_10 t509 t510 t511 t512 t513)) = some (r1, r2) := H
                 have A59 := Aside0.mk A590
                 clear A590
                 by_cases c60 : ((rd_T71 l3 x16_4).f0) ≤ (wrap64 ((wrap64 (t509 + 1)) * t522))
                 ·rw [if_pos c60] at H
                  have c60b0 : decide (((rd_T71 l3 x16_4).f0) ≤ (wrap64 ((wrap64 (t509 + 1)) * t522))) = true := decide_eq_true c60
                  clear c60
                  replace H := Option.bind_eq_some_iff.mp H
                  obtain ⟨t523, A610, H⟩ := H
                  replace H : (if t523 = true then (revetmentref16_How.l0 k4 l1 l3 a4 3 x16_4 (wrap64 (x16_4 + 1)) a0_0 a0_1 a0_2 a0_3 a0_4 a0_5 a0_6 a0_7 a0_8 a0_9 a0_10 t509 t510 t511 t512 t513) else (revetmentref16_How.l0 k4 l1 l3 a4 x14_4 x15_4 (wrap64 (x16_4 + 1)) a0_0 a0_1 a0_2 a0_3 a0_4 a0_5 a0_6 a0_7 a0_8 a0_9 a0_10 t509 t510 t511 t512 t513)) = some (r1, r2) := H
                  have A61 := Aside0.mk A610
                  clear A610
                  by_cases c62 : t523 = true
                  ·subst c62
                   have H1 : (revetmentref16_How.l0 k4 l1 l3 a4 3 x16_4 (wrap64 (x16_4 + 1)) a0_0 a0_1 a0_2 a0_3 a0_4 a0_5 a0_6 a0_7 a0_8 a0_9 a0_10 t509 t510 t511 t512 t513) = some (r1, r2) := by rw [if_pos rfl] at H; exact H
                   clear H
                   have H := H1
                   clear H1
                   have H' := Aside0.mk H
                   clear H
                   have p520 : 0 ≤ (x16_4 : Int) := of_decide_eq_true (by first | (with_reducible assumption) | assumption)
                   have q520 : x16_4 < (l3.length : Int) := of_decide_eq_true (by first | (with_reducible assumption) | assumption)
                   obtain ⟨ad520, A520_1, c520_1, e520, hx520_0, hx520_1, hl520_1, hi520_1⟩ := at_T71 HR3.out x16_4 p520 q520
                   cases e520
                   replace hx520_0 := (HB.out.cell (World.block_lt_of_cell? w _ hx520_0)).trans hx520_0
                   replace hx520_1 := (HB.out.cell (World.block_lt_of_cell? w _ hx520_1)).trans hx520_1
                   have HR520_1 := Aside0.mk hi520_1
                   have HC520_1 := Aside0.mk hl520_1
                   clear hi520_1 hl520_1
                   replace p520 := eq_true p520
                   replace q520 := eq_true q520
                   try go_wp2
                   replace BK506 := Aside0.mk (blk_drew BK506.out)
                   replace BK515 := Aside0.mk (blk_drew BK515.out)
                   replace HB := Aside0.mk (below_drew1 HB.out)
                   refine start_ (n := 29) (S := fun w' => w'.cell? ⟨gb515, 0, none⟩ = some (.int .i64 t509) ∧ w'.cell? ⟨gb515, 1, none⟩ = some (.int .i64 t510) ∧ w'.cell? ⟨gb515, 2, none⟩ = some (.int .i64 t511) ∧ w'.cell? ⟨gb515, 3, none⟩ = some (.int .i64 t512) ∧ w'.cell? ⟨gb515, 4, none⟩ = some (.int .i64 t513) ∧ w'.cell? ⟨gb506, 0, none⟩ = some (.int .i64 a0_0) ∧ w'.cell? ⟨gb506, 1, none⟩ = some (.int .i64 a0_1) ∧ w'.cell? ⟨gb506, 2, none⟩ = some (.int .i64 a0_2) ∧ w'.cell? ⟨gb506, 3, none⟩ = some (.int .i64 a0_3) ∧ w'.cell? ⟨gb506, 4, none⟩ = some (.int .i64 a0_4) ∧ w'.cell? ⟨gb506, 5, none⟩ = some (.int .i64 a0_5) ∧ w'.cell? ⟨gb506, 6, none⟩ = some (.int .i64 a0_6) ∧ w'.cell? ⟨gb506, 7, none⟩ = some (.int .i64 a0_7) ∧ w'.cell? ⟨gb506, 8, none⟩ = some (.int .i64 a0_8) ∧ w'.cell? ⟨gb506, 9, none⟩ = some (.int .i64 a0_9) ∧ w'.cell? ⟨gb506, 10, none⟩ = some (.int .i64 a0_10)) (ds := []) (bq 29 0) (by kernel_rfl) rfl rfl ⟨(blk_cell BK515.out 0).trans rfl, (blk_cell BK515.out 1).trans rfl, (blk_cell BK515.out 2).trans rfl, (blk_cell BK515.out 3).trans rfl, (blk_cell BK515.out 4).trans rfl, (blk_cell BK506.out 0).trans rfl, (blk_cell BK506.out 1).trans rfl, (blk_cell BK506.out 2).trans rfl, (blk_cell BK506.out 3).trans rfl, (blk_cell BK506.out 4).trans rfl, (blk_cell BK506.out 5).trans rfl, (blk_cell BK506.out 6).trans rfl, (blk_cell BK506.out 7).trans rfl, (blk_cell BK506.out 8).trans rfl, (blk_cell BK506.out 9).trans rfl, (blk_cell BK506.out 10).trans rfl⟩ (fun hHeld => ?_); refine with_tabW revetmentref16_How.tab15 revetmentref16_How.bits15 (fun HT_ HW_ => ?_)
                   generalize wr.drew = w63 at BK506 BK515 HB hHeld ⊢
                   apply pu 0 86 (bq 29 1) HT_
                   apply pu 1 87 (bq 29 3) HT_
                   apply pu 2 88 (bq 29 7) HT_
                   apply pu 3 89 (bq 29 15) HT_
                   apply pu 4 90 (bq 29 31) HT_
                   apply pu 5 91 (bq 29 63) HT_
                   apply tu 6 92 (bq 29 127) HT_ HW_ hHeld
                   apply tu 7 93 (bq 29 255) HT_ HW_ hHeld
                   refine one_ (i := 8) (N := some 94) (bq 29 511) rfl rfl (one_of HT_.out (by kernel_rfl)) (by decide) (fun K hK => ?_)
                   refine gs Try.func59 #[.agg #[.int .i64 a0_0, .int .i64 a0_1, .int .i64 a0_2, .int .i64 a0_3, .int .i64 a0_4, .int .i64 a0_5, .int .i64 a0_6, .int .i64 a0_7, .int .i64 a0_8, .int .i64 a0_9, .int .i64 a0_10]] ?_
                   with_reducible refine (revetmentref07_Row.calls a0_0 a0_1 a0_2 a0_3 a0_4 a0_5 a0_6 a0_7 a0_8 a0_9 a0_10 t521 _ A57.out).mono ?_
                   rintro e w64 ⟨rfl, hb⟩
                   refine ⟨_, rfl, ?_⟩
                   replace BK506 := bkb BK506 hb
                   replace BK515 := bkb BK515 hb
                   replace HB := bst HB hb
                   try clear hb; try clear hb2; try clear hk; try clear hi
                   refine hK.out _ _ sc (fun hHeld => ?_)
                   clear hK K
                   apply nm 0
                   apply pu 9 95 (bq 29 1023) HT_
                   apply pu 10 96 (bq 29 2047) HT_
                   apply pu 11 97 (bq 29 4095) HT_
                   apply pu 12 98 (bq 29 8191) HT_
                   apply pu 13 99 (bq 29 16383) HT_
                   apply pu 14 100 (bq 29 32767) HT_
                   apply tu 15 101 (bq 29 65535) HT_ HW_ hHeld
                   apply pu 16 102 (bq 29 131071) HT_
                   apply tu 17 103 (bq 29 262143) HT_ HW_ hHeld
                   refine one_ (i := 18) (N := some 104) (bq 29 524287) rfl rfl (one_of HT_.out (by kernel_rfl)) (by decide) (fun K hK => ?_)
                   refine gs Try.func59 #[.agg #[.int .i64 a0_0, .int .i64 a0_1, .int .i64 a0_2, .int .i64 a0_3, .int .i64 a0_4, .int .i64 a0_5, .int .i64 a0_6, .int .i64 a0_7, .int .i64 a0_8, .int .i64 a0_9, .int .i64 a0_10]] ?_
                   with_reducible refine (revetmentref07_Row.calls a0_0 a0_1 a0_2 a0_3 a0_4 a0_5 a0_6 a0_7 a0_8 a0_9 a0_10 t522 _ A59.out).mono ?_
                   rintro e w65 ⟨rfl, hb⟩
                   refine ⟨_, rfl, ?_⟩
                   replace BK506 := bkb BK506 hb
                   replace BK515 := bkb BK515 hb
                   replace HB := bst HB hb
                   try clear hb; try clear hb2; try clear hk; try clear hi
                   refine hK.out _ _ sc (fun hHeld => ?_)
                   clear hK K
                   apply nm 0
                   apply pu 19 105 (bq 29 1048575) HT_
                   apply pu 20 106 (bq 29 2097151) HT_
                   apply pu 21 107 (bq 29 4194303) HT_
                   apply pu 22 108 (bq 29 8388607) HT_
                   apply pu 24 110 (bq 29 25165823) HT_
                   apply pu 25 111 (bq 29 58720255) HT_
                   apply pu 26 112 (bq 29 125829119) HT_
                   apply tu 23 109 (bq 29 134217727) HT_ HW_ hHeld
                   refine one_ (i := 27) (N := some 113) (bq 29 268435455) rfl rfl (one_of HT_.out (by kernel_rfl)) (by decide) (fun K hK => ?_)
                   refine gs Try.func87 #[.agg #[.int .i64 a0_0, .int .i64 a0_1, .int .i64 a0_2, .int .i64 a0_3, .int .i64 a0_4, .int .i64 a0_5, .int .i64 a0_6, .int .i64 a0_7, .int .i64 a0_8, .int .i64 a0_9, .int .i64 a0_10], .slice A1 l1.length c1, .int .i64 a4, .int .i64 ((rd_T71 l3 x16_4).f0)] ?_
                   with_reducible refine (revetmentref16_others.calls k4 a0_0 a0_1 a0_2 a0_3 a0_4 a0_5 a0_6 a0_7 a0_8 a0_9 a0_10 _ _ l1 a4 ((rd_T71 l3 x16_4).f0) true _ ?side1 ?side2 A61.out).mono ?_
                   (case side1 => repeat (first | exact (Kd.C_below HR1.out HB.out) | (with_reducible refine Kd.C_alloc ?_ _) | (with_reducible refine Kd.C_drewN ?_ _) | (with_reducible refine Kd.C_drew ?_)))
                   (case side2 => exact HC1.out)
                   rintro e w66 ⟨rfl, hb⟩
                   refine ⟨_, rfl, ?_⟩
                   replace BK506 := bkb BK506 hb
                   replace BK515 := bkb BK515 hb
                   replace HB := bst HB hb
                   try clear hb; try clear hb2; try clear hk; try clear hi
                   refine hK.out _ _ sc (fun hHeld => ?_)
                   clear hK K
                   apply nm 0
                   apply pu 28 114 (bq 29 536870911) HT_
                   refine done_ (done_of HT_.out (by kernel_rfl)) ?_
                   try go_wp2
                   go_roundg k4
                   case measure => have := HJ5.out; have := HJ21.out; have := HJ36.out; have := HK4.out; omega
                   case rel => exact ⟨(3), (x16_4), (wrap64 (x16_4 + 1)), (by first | rfl | (simp; done) | (simp [*]; done)), (by first | rfl | (simp; done) | (simp [*]; done)), (by first | rfl | (simp; done) | (simp [*]; done)), H', ⟨by have := HJ5.out; have := HJ21.out; have := HJ36.out; have := HK4.out; omega⟩, ⟨by (with_reducible repeat (first | refine blk_drewN ?_ _ | refine blk_drew ?_ | refine blk_alloc ?_ _)); exact BK506.out⟩, ⟨by (with_reducible repeat (first | refine blk_drewN ?_ _ | refine blk_drew ?_ | refine blk_alloc ?_ _)); exact BK515.out⟩, ⟨bl HB⟩⟩
                  ·replace c62 := Bool.eq_false_iff.mpr c62
                   subst c62
                   have H1 : (revetmentref16_How.l0 k4 l1 l3 a4 x14_4 x15_4 (wrap64 (x16_4 + 1)) a0_0 a0_1 a0_2 a0_3 a0_4 a0_5 a0_6 a0_7 a0_8 a0_9 a0_10 t509 t510 t511 t512 t513) = some (r1, r2) := by rw [if_neg (show ¬ (false = true) by decide)] at H; exact H
                   clear H
                   have H := H1
                   clear H1
                   have H' := Aside0.mk H
                   clear H
                   have p520 : 0 ≤ (x16_4 : Int) := of_decide_eq_true (by first | (with_reducible assumption) | assumption)
                   have q520 : x16_4 < (l3.length : Int) := of_decide_eq_true (by first | (with_reducible assumption) | assumption)
                   obtain ⟨ad520, A520_1, c520_1, e520, hx520_0, hx520_1, hl520_1, hi520_1⟩ := at_T71 HR3.out x16_4 p520 q520
                   cases e520
                   replace hx520_0 := (HB.out.cell (World.block_lt_of_cell? w _ hx520_0)).trans hx520_0
                   replace hx520_1 := (HB.out.cell (World.block_lt_of_cell? w _ hx520_1)).trans hx520_1
                   have HR520_1 := Aside0.mk hi520_1
                   have HC520_1 := Aside0.mk hl520_1
                   clear hi520_1 hl520_1
                   replace p520 := eq_true p520
                   replace q520 := eq_true q520
                   try go_wp2
                   replace BK506 := Aside0.mk (blk_drew BK506.out)
                   replace BK515 := Aside0.mk (blk_drew BK515.out)
                   replace HB := Aside0.mk (below_drew1 HB.out)
                   refine start_ (n := 29) (S := fun w' => w'.cell? ⟨gb515, 0, none⟩ = some (.int .i64 t509) ∧ w'.cell? ⟨gb515, 1, none⟩ = some (.int .i64 t510) ∧ w'.cell? ⟨gb515, 2, none⟩ = some (.int .i64 t511) ∧ w'.cell? ⟨gb515, 3, none⟩ = some (.int .i64 t512) ∧ w'.cell? ⟨gb515, 4, none⟩ = some (.int .i64 t513) ∧ w'.cell? ⟨gb506, 0, none⟩ = some (.int .i64 a0_0) ∧ w'.cell? ⟨gb506, 1, none⟩ = some (.int .i64 a0_1) ∧ w'.cell? ⟨gb506, 2, none⟩ = some (.int .i64 a0_2) ∧ w'.cell? ⟨gb506, 3, none⟩ = some (.int .i64 a0_3) ∧ w'.cell? ⟨gb506, 4, none⟩ = some (.int .i64 a0_4) ∧ w'.cell? ⟨gb506, 5, none⟩ = some (.int .i64 a0_5) ∧ w'.cell? ⟨gb506, 6, none⟩ = some (.int .i64 a0_6) ∧ w'.cell? ⟨gb506, 7, none⟩ = some (.int .i64 a0_7) ∧ w'.cell? ⟨gb506, 8, none⟩ = some (.int .i64 a0_8) ∧ w'.cell? ⟨gb506, 9, none⟩ = some (.int .i64 a0_9) ∧ w'.cell? ⟨gb506, 10, none⟩ = some (.int .i64 a0_10)) (ds := []) (bq 29 0) (by kernel_rfl) rfl rfl ⟨(blk_cell BK515.out 0).trans rfl, (blk_cell BK515.out 1).trans rfl, (blk_cell BK515.out 2).trans rfl, (blk_cell BK515.out 3).trans rfl, (blk_cell BK515.out 4).trans rfl, (blk_cell BK506.out 0).trans rfl, (blk_cell BK506.out 1).trans rfl, (blk_cell BK506.out 2).trans rfl, (blk_cell BK506.out 3).trans rfl, (blk_cell BK506.out 4).trans rfl, (blk_cell BK506.out 5).trans rfl, (blk_cell BK506.out 6).trans rfl, (blk_cell BK506.out 7).trans rfl, (blk_cell BK506.out 8).trans rfl, (blk_cell BK506.out 9).trans rfl, (blk_cell BK506.out 10).trans rfl⟩ (fun hHeld => ?_); refine with_tabW revetmentref16_How.tab15 revetmentref16_How.bits15 (fun HT_ HW_ => ?_)
                   generalize wr.drew = w67 at BK506 BK515 HB hHeld ⊢
                   apply pu 0 86 (bq 29 1) HT_
                   apply pu 1 87 (bq 29 3) HT_
                   apply pu 2 88 (bq 29 7) HT_
                   apply pu 3 89 (bq 29 15) HT_
                   apply pu 4 90 (bq 29 31) HT_
                   apply pu 5 91 (bq 29 63) HT_
                   apply tu 6 92 (bq 29 127) HT_ HW_ hHeld
                   apply tu 7 93 (bq 29 255) HT_ HW_ hHeld
                   refine one_ (i := 8) (N := some 94) (bq 29 511) rfl rfl (one_of HT_.out (by kernel_rfl)) (by decide) (fun K hK => ?_)
                   refine gs Try.func59 #[.agg #[.int .i64 a0_0, .int .i64 a0_1, .int .i64 a0_2, .int .i64 a0_3, .int .i64 a0_4, .int .i64 a0_5, .int .i64 a0_6, .int .i64 a0_7, .int .i64 a0_8, .int .i64 a0_9, .int .i64 a0_10]] ?_
                   with_reducible refine (revetmentref07_Row.calls a0_0 a0_1 a0_2 a0_3 a0_4 a0_5 a0_6 a0_7 a0_8 a0_9 a0_10 t521 _ A57.out).mono ?_
                   rintro e w68 ⟨rfl, hb⟩
                   refine ⟨_, rfl, ?_⟩
                   replace BK506 := bkb BK506 hb
                   replace BK515 := bkb BK515 hb
                   replace HB := bst HB hb
                   try clear hb; try clear hb2; try clear hk; try clear hi
                   refine hK.out _ _ sc (fun hHeld => ?_)
                   clear hK K
                   apply nm 0
                   apply pu 9 95 (bq 29 1023) HT_
                   apply pu 10 96 (bq 29 2047) HT_
                   apply pu 11 97 (bq 29 4095) HT_
                   apply pu 12 98 (bq 29 8191) HT_
                   apply pu 13 99 (bq 29 16383) HT_
                   apply pu 14 100 (bq 29 32767) HT_
                   apply tu 15 101 (bq 29 65535) HT_ HW_ hHeld
                   apply pu 16 102 (bq 29 131071) HT_
                   apply tu 17 103 (bq 29 262143) HT_ HW_ hHeld
                   refine one_ (i := 18) (N := some 104) (bq 29 524287) rfl rfl (one_of HT_.out (by kernel_rfl)) (by decide) (fun K hK => ?_)
                   refine gs Try.func59 #[.agg #[.int .i64 a0_0, .int .i64 a0_1, .int .i64 a0_2, .int .i64 a0_3, .int .i64 a0_4, .int .i64 a0_5, .int .i64 a0_6, .int .i64 a0_7, .int .i64 a0_8, .int .i64 a0_9, .int .i64 a0_10]] ?_
                   with_reducible refine (revetmentref07_Row.calls a0_0 a0_1 a0_2 a0_3 a0_4 a0_5 a0_6 a0_7 a0_8 a0_9 a0_10 t522 _ A59.out).mono ?_
                   rintro e w69 ⟨rfl, hb⟩
                   refine ⟨_, rfl, ?_⟩
                   replace BK506 := bkb BK506 hb
                   replace BK515 := bkb BK515 hb
                   replace HB := bst HB hb
                   try clear hb; try clear hb2; try clear hk; try clear hi
                   refine hK.out _ _ sc (fun hHeld => ?_)
                   clear hK K
                   apply nm 0
                   apply pu 19 105 (bq 29 1048575) HT_
                   apply pu 20 106 (bq 29 2097151) HT_
                   apply pu 21 107 (bq 29 4194303) HT_
                   apply pu 22 108 (bq 29 8388607) HT_
                   apply pu 24 110 (bq 29 25165823) HT_
                   apply pu 25 111 (bq 29 58720255) HT_
                   apply pu 26 112 (bq 29 125829119) HT_
                   apply tu 23 109 (bq 29 134217727) HT_ HW_ hHeld
                   refine one_ (i := 27) (N := some 113) (bq 29 268435455) rfl rfl (one_of HT_.out (by kernel_rfl)) (by decide) (fun K hK => ?_)
                   refine gs Try.func87 #[.agg #[.int .i64 a0_0, .int .i64 a0_1, .int .i64 a0_2, .int .i64 a0_3, .int .i64 a0_4, .int .i64 a0_5, .int .i64 a0_6, .int .i64 a0_7, .int .i64 a0_8, .int .i64 a0_9, .int .i64 a0_10], .slice A1 l1.length c1, .int .i64 a4, .int .i64 ((rd_T71 l3 x16_4).f0)] ?_
                   with_reducible refine (revetmentref16_others.calls k4 a0_0 a0_1 a0_2 a0_3 a0_4 a0_5 a0_6 a0_7 a0_8 a0_9 a0_10 _ _ l1 a4 ((rd_T71 l3 x16_4).f0) false _ ?side1 ?side2 A61.out).mono ?_
                   (case side1 => repeat (first | exact (Kd.C_below HR1.out HB.out) | (with_reducible refine Kd.C_alloc ?_ _) | (with_reducible refine Kd.C_drewN ?_ _) | (with_reducible refine Kd.C_drew ?_)))
                   (case side2 => exact HC1.out)
                   rintro e w70 ⟨rfl, hb⟩
                   refine ⟨_, rfl, ?_⟩
                   replace BK506 := bkb BK506 hb
                   replace BK515 := bkb BK515 hb
                   replace HB := bst HB hb
                   try clear hb; try clear hb2; try clear hk; try clear hi
                   refine hK.out _ _ sc (fun hHeld => ?_)
                   clear hK K
                   apply nm 0
                   apply pu 28 114 (bq 29 536870911) HT_
                   refine done_ (done_of HT_.out (by kernel_rfl)) ?_
                   try go_wp2
                   go_roundg k4
                   case measure => have := HJ5.out; have := HJ21.out; have := HJ36.out; have := HK4.out; omega
                   case rel => exact ⟨(x14_4), (x15_4), (wrap64 (x16_4 + 1)), (by first | rfl | (simp; done) | (simp [*]; done)), (by first | rfl | (simp; done) | (simp [*]; done)), (by first | rfl | (simp; done) | (simp [*]; done)), H', ⟨by have := HJ5.out; have := HJ21.out; have := HJ36.out; have := HK4.out; omega⟩, ⟨by (with_reducible repeat (first | refine blk_drewN ?_ _ | refine blk_drew ?_ | refine blk_alloc ?_ _)); exact BK506.out⟩, ⟨by (with_reducible repeat (first | refine blk_drewN ?_ _ | refine blk_drew ?_ | refine blk_alloc ?_ _)); exact BK515.out⟩, ⟨bl HB⟩⟩
                 ·rw [if_neg c60] at H
                  have c60b0 : decide (((rd_T71 l3 x16_4).f0) ≤ (wrap64 ((wrap64 (t509 + 1)) * t522))) = false := decide_eq_false c60
                  clear c60
                  have H' := Aside0.mk H
                  clear H
                  have p520 : 0 ≤ (x16_4 : Int) := of_decide_eq_true (by first | (with_reducible assumption) | assumption)
                  have q520 : x16_4 < (l3.length : Int) := of_decide_eq_true (by first | (with_reducible assumption) | assumption)
                  obtain ⟨ad520, A520_1, c520_1, e520, hx520_0, hx520_1, hl520_1, hi520_1⟩ := at_T71 HR3.out x16_4 p520 q520
                  cases e520
                  replace hx520_0 := (HB.out.cell (World.block_lt_of_cell? w _ hx520_0)).trans hx520_0
                  replace hx520_1 := (HB.out.cell (World.block_lt_of_cell? w _ hx520_1)).trans hx520_1
                  have HR520_1 := Aside0.mk hi520_1
                  have HC520_1 := Aside0.mk hl520_1
                  clear hi520_1 hl520_1
                  replace p520 := eq_true p520
                  replace q520 := eq_true q520
                  try go_wp2
                  replace BK506 := Aside0.mk (blk_drew BK506.out)
                  replace BK515 := Aside0.mk (blk_drew BK515.out)
                  replace HB := Aside0.mk (below_drew1 HB.out)
                  refine start_ (n := 29) (S := fun w' => w'.cell? ⟨gb515, 0, none⟩ = some (.int .i64 t509) ∧ w'.cell? ⟨gb515, 1, none⟩ = some (.int .i64 t510) ∧ w'.cell? ⟨gb515, 2, none⟩ = some (.int .i64 t511) ∧ w'.cell? ⟨gb515, 3, none⟩ = some (.int .i64 t512) ∧ w'.cell? ⟨gb515, 4, none⟩ = some (.int .i64 t513) ∧ w'.cell? ⟨gb506, 0, none⟩ = some (.int .i64 a0_0) ∧ w'.cell? ⟨gb506, 1, none⟩ = some (.int .i64 a0_1) ∧ w'.cell? ⟨gb506, 2, none⟩ = some (.int .i64 a0_2) ∧ w'.cell? ⟨gb506, 3, none⟩ = some (.int .i64 a0_3) ∧ w'.cell? ⟨gb506, 4, none⟩ = some (.int .i64 a0_4) ∧ w'.cell? ⟨gb506, 5, none⟩ = some (.int .i64 a0_5) ∧ w'.cell? ⟨gb506, 6, none⟩ = some (.int .i64 a0_6) ∧ w'.cell? ⟨gb506, 7, none⟩ = some (.int .i64 a0_7) ∧ w'.cell? ⟨gb506, 8, none⟩ = some (.int .i64 a0_8) ∧ w'.cell? ⟨gb506, 9, none⟩ = some (.int .i64 a0_9) ∧ w'.cell? ⟨gb506, 10, none⟩ = some (.int .i64 a0_10)) (ds := []) (bq 29 0) (by kernel_rfl) rfl rfl ⟨(blk_cell BK515.out 0).trans rfl, (blk_cell BK515.out 1).trans rfl, (blk_cell BK515.out 2).trans rfl, (blk_cell BK515.out 3).trans rfl, (blk_cell BK515.out 4).trans rfl, (blk_cell BK506.out 0).trans rfl, (blk_cell BK506.out 1).trans rfl, (blk_cell BK506.out 2).trans rfl, (blk_cell BK506.out 3).trans rfl, (blk_cell BK506.out 4).trans rfl, (blk_cell BK506.out 5).trans rfl, (blk_cell BK506.out 6).trans rfl, (blk_cell BK506.out 7).trans rfl, (blk_cell BK506.out 8).trans rfl, (blk_cell BK506.out 9).trans rfl, (blk_cell BK506.out 10).trans rfl⟩ (fun hHeld => ?_); refine with_tabW revetmentref16_How.tab15 revetmentref16_How.bits15 (fun HT_ HW_ => ?_)
                  generalize wr.drew = w71 at BK506 BK515 HB hHeld ⊢
                  apply pu 0 86 (bq 29 1) HT_
                  apply pu 1 87 (bq 29 3) HT_
                  apply pu 2 88 (bq 29 7) HT_
                  apply pu 3 89 (bq 29 15) HT_
                  apply pu 4 90 (bq 29 31) HT_
                  apply pu 5 91 (bq 29 63) HT_
                  apply tu 6 92 (bq 29 127) HT_ HW_ hHeld
                  apply tu 7 93 (bq 29 255) HT_ HW_ hHeld
                  refine one_ (i := 8) (N := some 94) (bq 29 511) rfl rfl (one_of HT_.out (by kernel_rfl)) (by decide) (fun K hK => ?_)
                  refine gs Try.func59 #[.agg #[.int .i64 a0_0, .int .i64 a0_1, .int .i64 a0_2, .int .i64 a0_3, .int .i64 a0_4, .int .i64 a0_5, .int .i64 a0_6, .int .i64 a0_7, .int .i64 a0_8, .int .i64 a0_9, .int .i64 a0_10]] ?_
                  with_reducible refine (revetmentref07_Row.calls a0_0 a0_1 a0_2 a0_3 a0_4 a0_5 a0_6 a0_7 a0_8 a0_9 a0_10 t521 _ A57.out).mono ?_
                  rintro e w72 ⟨rfl, hb⟩
                  refine ⟨_, rfl, ?_⟩
                  replace BK506 := bkb BK506 hb
                  replace BK515 := bkb BK515 hb
                  replace HB := bst HB hb
                  try clear hb; try clear hb2; try clear hk; try clear hi
                  refine hK.out _ _ sc (fun hHeld => ?_)
                  clear hK K
                  apply nm 0
                  apply pu 9 95 (bq 29 1023) HT_
                  apply pu 10 96 (bq 29 2047) HT_
                  apply pu 11 97 (bq 29 4095) HT_
                  apply pu 12 98 (bq 29 8191) HT_
                  apply pu 13 99 (bq 29 16383) HT_
                  apply pu 14 100 (bq 29 32767) HT_
                  apply tu 15 101 (bq 29 65535) HT_ HW_ hHeld
                  apply pu 16 102 (bq 29 131071) HT_
                  apply tu 17 103 (bq 29 262143) HT_ HW_ hHeld
                  refine one_ (i := 18) (N := some 104) (bq 29 524287) rfl rfl (one_of HT_.out (by kernel_rfl)) (by decide) (fun K hK => ?_)
                  refine gs Try.func59 #[.agg #[.int .i64 a0_0, .int .i64 a0_1, .int .i64 a0_2, .int .i64 a0_3, .int .i64 a0_4, .int .i64 a0_5, .int .i64 a0_6, .int .i64 a0_7, .int .i64 a0_8, .int .i64 a0_9, .int .i64 a0_10]] ?_
                  with_reducible refine (revetmentref07_Row.calls a0_0 a0_1 a0_2 a0_3 a0_4 a0_5 a0_6 a0_7 a0_8 a0_9 a0_10 t522 _ A59.out).mono ?_
                  rintro e w73 ⟨rfl, hb⟩
                  refine ⟨_, rfl, ?_⟩
                  replace BK506 := bkb BK506 hb
                  replace BK515 := bkb BK515 hb
                  replace HB := bst HB hb
                  try clear hb; try clear hb2; try clear hk; try clear hi
                  refine hK.out _ _ sc (fun hHeld => ?_)
                  clear hK K
                  apply nm 0
                  apply pu 19 105 (bq 29 1048575) HT_
                  apply pu 20 106 (bq 29 2097151) HT_
                  apply pu 21 107 (bq 29 4194303) HT_
                  apply pu 22 108 (bq 29 8388607) HT_
                  apply po 23 109 (bq 29 16777215) HT_
                  apply po 24 110 (bq 29 33554431) HT_
                  apply po 25 111 (bq 29 67108863) HT_
                  apply po 26 112 (bq 29 134217727) HT_
                  apply po 27 113 (bq 29 268435455) HT_
                  apply pu 28 114 (bq 29 536870911) HT_
                  refine done_ (done_of HT_.out (by kernel_rfl)) ?_
                  try go_wp2
                  go_roundg k4
                  case measure => have := HJ5.out; have := HJ21.out; have := HJ36.out; have := HK4.out; omega
                  case rel => exact ⟨(x14_4), (x15_4), (wrap64 (x16_4 + 1)), (by first | rfl | (simp; done) | (simp [*]; done)), (by first | rfl | (simp; done) | (simp [*]; done)), (by first | rfl | (simp; done) | (simp [*]; done)), H', ⟨by have := HJ5.out; have := HJ21.out; have := HJ36.out; have := HK4.out; omega⟩, ⟨by (with_reducible repeat (first | refine blk_drewN ?_ _ | refine blk_drew ?_ | refine blk_alloc ?_ _)); exact BK506.out⟩, ⟨by (with_reducible repeat (first | refine blk_drewN ?_ _ | refine blk_drew ?_ | refine blk_alloc ?_ _)); exact BK515.out⟩, ⟨bl HB⟩⟩
                ·rw [if_neg c58] at H
                 have c58b0 : decide ((wrap64 (t509 * t521)) < ((rd_T71 l3 x16_4).f0)) = false := decide_eq_false c58
                 clear c58
                 have H' := Aside0.mk H
                 clear H
                 have p520 : 0 ≤ (x16_4 : Int) := of_decide_eq_true (by first | (with_reducible assumption) | assumption)
                 have q520 : x16_4 < (l3.length : Int) := of_decide_eq_true (by first | (with_reducible assumption) | assumption)
                 obtain ⟨ad520, A520_1, c520_1, e520, hx520_0, hx520_1, hl520_1, hi520_1⟩ := at_T71 HR3.out x16_4 p520 q520
                 cases e520
                 replace hx520_0 := (HB.out.cell (World.block_lt_of_cell? w _ hx520_0)).trans hx520_0
                 replace hx520_1 := (HB.out.cell (World.block_lt_of_cell? w _ hx520_1)).trans hx520_1
                 have HR520_1 := Aside0.mk hi520_1
                 have HC520_1 := Aside0.mk hl520_1
                 clear hi520_1 hl520_1
                 replace p520 := eq_true p520
                 replace q520 := eq_true q520
                 try go_wp2
                 replace BK506 := Aside0.mk (blk_drew BK506.out)
                 replace BK515 := Aside0.mk (blk_drew BK515.out)
                 replace HB := Aside0.mk (below_drew1 HB.out)
                 refine start_ (n := 29) (S := fun w' => w'.cell? ⟨gb515, 0, none⟩ = some (.int .i64 t509) ∧ w'.cell? ⟨gb515, 1, none⟩ = some (.int .i64 t510) ∧ w'.cell? ⟨gb515, 2, none⟩ = some (.int .i64 t511) ∧ w'.cell? ⟨gb515, 3, none⟩ = some (.int .i64 t512) ∧ w'.cell? ⟨gb515, 4, none⟩ = some (.int .i64 t513) ∧ w'.cell? ⟨gb506, 0, none⟩ = some (.int .i64 a0_0) ∧ w'.cell? ⟨gb506, 1, none⟩ = some (.int .i64 a0_1) ∧ w'.cell? ⟨gb506, 2, none⟩ = some (.int .i64 a0_2) ∧ w'.cell? ⟨gb506, 3, none⟩ = some (.int .i64 a0_3) ∧ w'.cell? ⟨gb506, 4, none⟩ = some (.int .i64 a0_4) ∧ w'.cell? ⟨gb506, 5, none⟩ = some (.int .i64 a0_5) ∧ w'.cell? ⟨gb506, 6, none⟩ = some (.int .i64 a0_6) ∧ w'.cell? ⟨gb506, 7, none⟩ = some (.int .i64 a0_7) ∧ w'.cell? ⟨gb506, 8, none⟩ = some (.int .i64 a0_8) ∧ w'.cell? ⟨gb506, 9, none⟩ = some (.int .i64 a0_9) ∧ w'.cell? ⟨gb506, 10, none⟩ = some (.int .i64 a0_10)) (ds := []) (bq 29 0) (by kernel_rfl) rfl rfl ⟨(blk_cell BK515.out 0).trans rfl, (blk_cell BK515.out 1).trans rfl, (blk_cell BK515.out 2).trans rfl, (blk_cell BK515.out 3).trans rfl, (blk_cell BK515.out 4).trans rfl, (blk_cell BK506.out 0).trans rfl, (blk_cell BK506.out 1).trans rfl, (blk_cell BK506.out 2).trans rfl, (blk_cell BK506.out 3).trans rfl, (blk_cell BK506.out 4).trans rfl, (blk_cell BK506.out 5).trans rfl, (blk_cell BK506.out 6).trans rfl, (blk_cell BK506.out 7).trans rfl, (blk_cell BK506.out 8).trans rfl, (blk_cell BK506.out 9).trans rfl, (blk_cell BK506.out 10).trans rfl⟩ (fun hHeld => ?_); refine with_tabW revetmentref16_How.tab15 revetmentref16_How.bits15 (fun HT_ HW_ => ?_)
                 generalize wr.drew = w74 at BK506 BK515 HB hHeld ⊢
                 apply pu 0 86 (bq 29 1) HT_
                 apply pu 1 87 (bq 29 3) HT_
                 apply pu 2 88 (bq 29 7) HT_
                 apply pu 3 89 (bq 29 15) HT_
                 apply pu 4 90 (bq 29 31) HT_
                 apply pu 5 91 (bq 29 63) HT_
                 apply tu 6 92 (bq 29 127) HT_ HW_ hHeld
                 apply tu 7 93 (bq 29 255) HT_ HW_ hHeld
                 refine one_ (i := 8) (N := some 94) (bq 29 511) rfl rfl (one_of HT_.out (by kernel_rfl)) (by decide) (fun K hK => ?_)
                 refine gs Try.func59 #[.agg #[.int .i64 a0_0, .int .i64 a0_1, .int .i64 a0_2, .int .i64 a0_3, .int .i64 a0_4, .int .i64 a0_5, .int .i64 a0_6, .int .i64 a0_7, .int .i64 a0_8, .int .i64 a0_9, .int .i64 a0_10]] ?_
                 with_reducible refine (revetmentref07_Row.calls a0_0 a0_1 a0_2 a0_3 a0_4 a0_5 a0_6 a0_7 a0_8 a0_9 a0_10 t521 _ A57.out).mono ?_
                 rintro e w75 ⟨rfl, hb⟩
                 refine ⟨_, rfl, ?_⟩
                 replace BK506 := bkb BK506 hb
                 replace BK515 := bkb BK515 hb
                 replace HB := bst HB hb
                 try clear hb; try clear hb2; try clear hk; try clear hi
                 refine hK.out _ _ sc (fun hHeld => ?_)
                 clear hK K
                 apply nm 0
                 apply pu 9 95 (bq 29 1023) HT_
                 apply pu 10 96 (bq 29 2047) HT_
                 apply pu 11 97 (bq 29 4095) HT_
                 apply pu 12 98 (bq 29 8191) HT_
                 apply po 13 99 (bq 29 16383) HT_
                 apply po 14 100 (bq 29 32767) HT_
                 apply po 15 101 (bq 29 65535) HT_
                 apply po 16 102 (bq 29 131071) HT_
                 apply po 17 103 (bq 29 262143) HT_
                 apply po 18 104 (bq 29 524287) HT_
                 apply po 19 105 (bq 29 1048575) HT_
                 apply po 20 106 (bq 29 2097151) HT_
                 apply pu 21 107 (bq 29 4194303) HT_
                 apply pu 22 108 (bq 29 8388607) HT_
                 apply po 23 109 (bq 29 16777215) HT_
                 apply po 24 110 (bq 29 33554431) HT_
                 apply po 25 111 (bq 29 67108863) HT_
                 apply po 26 112 (bq 29 134217727) HT_
                 apply po 27 113 (bq 29 268435455) HT_
                 apply pu 28 114 (bq 29 536870911) HT_
                 refine done_ (done_of HT_.out (by kernel_rfl)) ?_
                 try go_wp2
                 go_roundg k4
                 case measure => have := HJ5.out; have := HJ21.out; have := HJ36.out; have := HK4.out; omega
                 case rel => exact ⟨(x14_4), (x15_4), (wrap64 (x16_4 + 1)), (by first | rfl | (simp; done) | (simp [*]; done)), (by first | rfl | (simp; done) | (simp [*]; done)), (by first | rfl | (simp; done) | (simp [*]; done)), H', ⟨by have := HJ5.out; have := HJ21.out; have := HJ36.out; have := HK4.out; omega⟩, ⟨by (with_reducible repeat (first | refine blk_drewN ?_ _ | refine blk_drew ?_ | refine blk_alloc ?_ _)); exact BK506.out⟩, ⟨by (with_reducible repeat (first | refine blk_drewN ?_ _ | refine blk_drew ?_ | refine blk_alloc ?_ _)); exact BK515.out⟩, ⟨bl HB⟩⟩
               ·rw [if_neg c56] at H
                have c56b0 : decide (a4 < ((rd_T71 l3 x16_4).f0)) = false := decide_eq_false c56
                clear c56
                have H' := Aside0.mk H
                clear H
                have p520 : 0 ≤ (x16_4 : Int) := of_decide_eq_true (by first | (with_reducible assumption) | assumption)
                have q520 : x16_4 < (l3.length : Int) := of_decide_eq_true (by first | (with_reducible assumption) | assumption)
                obtain ⟨ad520, A520_1, c520_1, e520, hx520_0, hx520_1, hl520_1, hi520_1⟩ := at_T71 HR3.out x16_4 p520 q520
                cases e520
                replace hx520_0 := (HB.out.cell (World.block_lt_of_cell? w _ hx520_0)).trans hx520_0
                replace hx520_1 := (HB.out.cell (World.block_lt_of_cell? w _ hx520_1)).trans hx520_1
                have HR520_1 := Aside0.mk hi520_1
                have HC520_1 := Aside0.mk hl520_1
                clear hi520_1 hl520_1
                replace p520 := eq_true p520
                replace q520 := eq_true q520
                try go_wp2
                replace BK506 := Aside0.mk (blk_drew BK506.out)
                replace BK515 := Aside0.mk (blk_drew BK515.out)
                replace HB := Aside0.mk (below_drew1 HB.out)
                refine start_ (n := 29) (S := fun w' => True) (ds := []) (bq 29 0) (by kernel_rfl) rfl rfl trivial (fun hHeld => ?_); refine with_tabW revetmentref16_How.tab15 revetmentref16_How.bits15 (fun HT_ HW_ => ?_)
                generalize wr.drew = w76 at BK506 BK515 HB hHeld ⊢
                apply pu 0 86 (bq 29 1) HT_
                apply pu 1 87 (bq 29 3) HT_
                apply pu 2 88 (bq 29 7) HT_
                apply pu 3 89 (bq 29 15) HT_
                apply po 4 90 (bq 29 31) HT_
                apply po 5 91 (bq 29 63) HT_
                apply po 6 92 (bq 29 127) HT_
                apply po 7 93 (bq 29 255) HT_
                apply po 8 94 (bq 29 511) HT_
                apply po 9 95 (bq 29 1023) HT_
                apply po 10 96 (bq 29 2047) HT_
                apply pu 11 97 (bq 29 4095) HT_
                apply pu 12 98 (bq 29 8191) HT_
                apply po 13 99 (bq 29 16383) HT_
                apply po 14 100 (bq 29 32767) HT_
                apply po 15 101 (bq 29 65535) HT_
                apply po 16 102 (bq 29 131071) HT_
                apply po 17 103 (bq 29 262143) HT_
                apply po 18 104 (bq 29 524287) HT_
                apply po 19 105 (bq 29 1048575) HT_
                apply po 20 106 (bq 29 2097151) HT_
                apply pu 21 107 (bq 29 4194303) HT_
                apply pu 22 108 (bq 29 8388607) HT_
                apply po 23 109 (bq 29 16777215) HT_
                apply po 24 110 (bq 29 33554431) HT_
                apply po 25 111 (bq 29 67108863) HT_
                apply po 26 112 (bq 29 134217727) HT_
                apply po 27 113 (bq 29 268435455) HT_
                apply pu 28 114 (bq 29 536870911) HT_
                refine done_ (done_of HT_.out (by kernel_rfl)) ?_
                try go_wp2
                go_roundg k4
                case measure => have := HJ5.out; have := HJ21.out; have := HJ36.out; have := HK4.out; omega
                case rel => exact ⟨(x14_4), (x15_4), (wrap64 (x16_4 + 1)), (by first | rfl | (simp; done) | (simp [*]; done)), (by first | rfl | (simp; done) | (simp [*]; done)), (by first | rfl | (simp; done) | (simp [*]; done)), H', ⟨by have := HJ5.out; have := HJ21.out; have := HJ36.out; have := HK4.out; omega⟩, ⟨by (with_reducible repeat (first | refine blk_drewN ?_ _ | refine blk_drew ?_ | refine blk_alloc ?_ _)); exact BK506.out⟩, ⟨by (with_reducible repeat (first | refine blk_drewN ?_ _ | refine blk_drew ?_ | refine blk_alloc ?_ _)); exact BK515.out⟩, ⟨bl HB⟩⟩
              ·rw [if_neg c55] at H
               exact absurd H (by simp)
             ·rw [if_neg c54] at H
              have c54b0 : decide (x16_4 < (l3.length : Int)) = false := decide_eq_false c54
              clear c54
              simp only [Option.some.injEq, Prod.mk.injEq] at H
              obtain ⟨rfl, rfl⟩ := H
              go_wp2
              go_ret2
              exact ⟨by first | rfl | (simp [errW_none, errW_some] <;> rfl) | (simp [*, errW_none, errW_some] <;> rfl), bl HB⟩
       ·rw [if_neg c36] at H
        have c36b0 : (t512 == a2) = false := beq_eq_false_iff_ne.mpr c36
        have c36b1 : (t512 != a2) = true := bne_iff_ne.mpr c36
        simp only [Option.some.injEq, Prod.mk.injEq] at H
        obtain ⟨rfl, rfl⟩ := H
        have hnb77 := NB515_506.out
        have hnc77 := NB506_515.out
        obtain ⟨hcz78_0, hcz78_1, hcz78_2, hcz78_3, hcz78_4⟩ := cz5 BK515.out
        obtain ⟨hfz78_0, hfz78_1, hfz78_2, hfz78_3, hfz78_4⟩ := fz5 BK515.out
        go_wp2
        go_ret2
        exact ⟨by first | rfl | (simp [errW_none, errW_some] <;> rfl) | (simp [*, errW_none, errW_some] <;> rfl), bl HB⟩

end Go.Proofs.Ytekihhbihnmakaa.PA
