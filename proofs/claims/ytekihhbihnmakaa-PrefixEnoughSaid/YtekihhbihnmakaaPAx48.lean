/- Printed by the kit's print over stand-ins for some functions (xprint.py), with contracts of my own in their place. -/
import Derived.Test.YtekihhbihnmakaaPAx0
import Derived.Test.YtekihhbihnmakaaPAx6
import Derived.Test.YtekihhbihnmakaaPAx7
import Derived.Test.YtekihhbihnmakaaPAx16
import Derived.Test.YtekihhbihnmakaaPAx36
import Derived.Test.YtekihhbihnmakaaPAx47
namespace Go.Proofs.Ytekihhbihnmakaa.PA
open Go.RowKit Go.Proofs.YtekihhbihnmakaaW.PrintWords Go.Proofs.YtekihhbihnmakaaW.PrintLast
set_option linter.unusedVariables false
set_option linter.unusedSimpArgs false

/-! ### prefix_How: function 52 -/
mutual
def prefix_How.j0 : Nat → List Int → Int → List (S71) → Int → Bool → Int → Int → Int → Int → Int → Int → Int → Int → Int → Int → Int → Int → Int → Int → Int → Int → Option (Int × Int)
  | 0, _, _, _, _, _, _, _, _, _, _, _, _, _, _, _, _, _, _, _, _, _ => none
  | k + 1, x1, x2, x3, x4, x29, x596000, x596001, x596002, x596003, x596004, x596005, x596006, x596007, x596008, x596009, x596010, x603000, x603001, x603002, x603003, x603004 => if x29 = true then (some (0, 0)) else (if x603003 = x2 then ((geom_Parity.f x596000 x596001 x596002 x596003 x596004 x596005 x596006 x596007 x596008 x596009 x596010 x603000).bind fun t605 => (if 0 ≤ t605 then (if t605 < (x1.length : Int) then (if (rd x1 t605) > x603004 then ((conf_Size.f x596000 x596001 x596002 x596003 x596004 x596005 x596006 x596007 x596008 x596009 x596010).bind fun t607 => ((prefix_has.f k x596000 x596001 x596002 x596003 x596004 x596005 x596006 x596007 x596008 x596009 x596010 x1 x603000 x603001 x603002 x603003 x603004 t607).bind fun t608 => (prefix_How.j1 k x1 x3 x4 t608 x596000 x596001 x596002 x596003 x596004 x596005 x596006 x596007 x596008 x596009 x596010 x603000 x603001 x603002 x603003 x603004))) else (prefix_How.j1 k x1 x3 x4 false x596000 x596001 x596002 x596003 x596004 x596005 x596006 x596007 x596008 x596009 x596010 x603000 x603001 x603002 x603003 x603004)) else (none)) else (none))) else (if 0 ≤ x603003 then (if x603003 < (x1.length : Int) then (if (rd x1 x603003) > x603004 then (some (1, 0)) else (some (0, 0))) else (none)) else (none)))
def prefix_How.j1 : Nat → List Int → List (S71) → Int → Bool → Int → Int → Int → Int → Int → Int → Int → Int → Int → Int → Int → Int → Int → Int → Int → Int → Option (Int × Int)
  | 0, _, _, _, _, _, _, _, _, _, _, _, _, _, _, _, _, _, _, _, _ => none
  | k + 1, x1, x3, x4, x59, x596000, x596001, x596002, x596003, x596004, x596005, x596006, x596007, x596008, x596009, x596010, x603000, x603001, x603002, x603003, x603004 => if x59 = true then (some (2, 0)) else (prefix_How.l0 k x1 x3 x4 (wrap64 ((x3.length : Int) - 1)) x596000 x596001 x596002 x596003 x596004 x596005 x596006 x596007 x596008 x596009 x596010 x603000 x603001 x603002 x603003 x603004)
def prefix_How.l0 : Nat → List Int → List (S71) → Int → Int → Int → Int → Int → Int → Int → Int → Int → Int → Int → Int → Int → Int → Int → Int → Int → Int → Option (Int × Int)
  | 0, _, _, _, _, _, _, _, _, _, _, _, _, _, _, _, _, _, _, _, _ => none
  | k + 1, x1, x3, x4, x14, x596000, x596001, x596002, x596003, x596004, x596005, x596006, x596007, x596008, x596009, x596010, x603000, x603001, x603002, x603003, x603004 => if x14 ≥ 0 then (if 0 ≤ x14 then (if x14 < (x3.length : Int) then (if ((rd_T71 x3 x14).f0) > x4 then ((conf_Row.f x596000 x596001 x596002 x596003 x596004 x596005 x596006 x596007 x596008 x596009 x596010).bind fun t610 => (if t610 = 0 then (none) else (if (wrap64 (Int.tdiv (wrap64 (((rd_T71 x3 x14).f0) - 1)) t610)) = x603000 then ((prefix_has.f k x596000 x596001 x596002 x596003 x596004 x596005 x596006 x596007 x596008 x596009 x596010 x1 x603000 x603001 x603002 x603003 x603004 ((rd_T71 x3 x14).f0)).bind fun t611 => (if t611 = true then (some (3, x14)) else (prefix_How.l0 k x1 x3 x4 (wrap64 (x14 - 1)) x596000 x596001 x596002 x596003 x596004 x596005 x596006 x596007 x596008 x596009 x596010 x603000 x603001 x603002 x603003 x603004))) else (prefix_How.l0 k x1 x3 x4 (wrap64 (x14 - 1)) x596000 x596001 x596002 x596003 x596004 x596005 x596006 x596007 x596008 x596009 x596010 x603000 x603001 x603002 x603003 x603004)))) else (prefix_How.l0 k x1 x3 x4 (wrap64 (x14 - 1)) x596000 x596001 x596002 x596003 x596004 x596005 x596006 x596007 x596008 x596009 x596010 x603000 x603001 x603002 x603003 x603004)) else (none)) else (none)) else (some (0, 0))
end
def prefix_How.f (k : Nat) (a0_0 : Int) (a0_1 : Int) (a0_2 : Int) (a0_3 : Int) (a0_4 : Int) (a0_5 : Int) (a0_6 : Int) (a0_7 : Int) (a0_8 : Int) (a0_9 : Int) (a0_10 : Int) (l1 : List Int) (a2 : Int) (l3 : List (S71)) (a4 : Int) : Option (Int × Int) := (geom_Of.f k a0_0 a0_1 a0_2 a0_3 a0_4 a0_5 a0_6 a0_7 a0_8 a0_9 a0_10 a4).bind fun bt596 => (if bt596.2.2.2.2.2 = true then ((prefix_right.f a0_0 a0_1 a0_2 a0_3 a0_4 a0_5 a0_6 a0_7 a0_8 a0_9 a0_10 l1).bind fun t603 => (prefix_How.j0 k l1 a2 l3 a4 (!t603) a0_0 a0_1 a0_2 a0_3 a0_4 a0_5 a0_6 a0_7 a0_8 a0_9 a0_10 bt596.1 bt596.2.1 bt596.2.2.1 bt596.2.2.2.1 bt596.2.2.2.2.1)) else (prefix_How.j0 k l1 a2 l3 a4 true a0_0 a0_1 a0_2 a0_3 a0_4 a0_5 a0_6 a0_7 a0_8 a0_9 a0_10 bt596.1 bt596.2.1 bt596.2.2.1 bt596.2.2.2.1 bt596.2.2.2.2.1))
theorem prefix_How.mono_l : ∀ k, (∀ y0 y1 y2 y3 y4 y5 y6 y7 y8 y9 y10 y11 y12 y13 y14 y15 y16 y17 y18 y19 y20, LeO (prefix_How.j0 k y0 y1 y2 y3 y4 y5 y6 y7 y8 y9 y10 y11 y12 y13 y14 y15 y16 y17 y18 y19 y20) (prefix_How.j0 (k + 1) y0 y1 y2 y3 y4 y5 y6 y7 y8 y9 y10 y11 y12 y13 y14 y15 y16 y17 y18 y19 y20)) ∧ (∀ y0 y1 y2 y3 y4 y5 y6 y7 y8 y9 y10 y11 y12 y13 y14 y15 y16 y17 y18 y19, LeO (prefix_How.j1 k y0 y1 y2 y3 y4 y5 y6 y7 y8 y9 y10 y11 y12 y13 y14 y15 y16 y17 y18 y19) (prefix_How.j1 (k + 1) y0 y1 y2 y3 y4 y5 y6 y7 y8 y9 y10 y11 y12 y13 y14 y15 y16 y17 y18 y19)) ∧ (∀ y0 y1 y2 y3 y4 y5 y6 y7 y8 y9 y10 y11 y12 y13 y14 y15 y16 y17 y18 y19, LeO (prefix_How.l0 k y0 y1 y2 y3 y4 y5 y6 y7 y8 y9 y10 y11 y12 y13 y14 y15 y16 y17 y18 y19) (prefix_How.l0 (k + 1) y0 y1 y2 y3 y4 y5 y6 y7 y8 y9 y10 y11 y12 y13 y14 y15 y16 y17 y18 y19))
 | 0 => ⟨fun _ _ _ _ _ _ _ _ _ _ _ _ _ _ _ _ _ _ _ _ _ r h => by simp [prefix_How.j0] at h, fun _ _ _ _ _ _ _ _ _ _ _ _ _ _ _ _ _ _ _ _ r h => by simp [prefix_How.j1] at h, fun _ _ _ _ _ _ _ _ _ _ _ _ _ _ _ _ _ _ _ _ r h => by simp [prefix_How.l0] at h⟩
 | k + 1 => by
  obtain ⟨ih0, ih1, ih2⟩ := prefix_How.mono_l k
  refine ⟨?_, ?_, ?_⟩
  ·intro y0 y1 y2 y3 y4 y5 y6 y7 y8 y9 y10 y11 y12 y13 y14 y15 y16 y17 y18 y19 y20
   unfold prefix_How.j0
   repeat' first
   | (with_reducible exact ih0 _ _ _ _ _ _ _ _ _ _ _ _ _ _ _ _ _ _ _ _ _)
   | (with_reducible exact ih1 _ _ _ _ _ _ _ _ _ _ _ _ _ _ _ _ _ _ _ _)
   | (with_reducible exact ih2 _ _ _ _ _ _ _ _ _ _ _ _ _ _ _ _ _ _ _ _)
   | (with_reducible exact geom_Of.mono _ _ _ _ _ _ _ _ _ _ _ _ _)
   | (with_reducible exact prefix_has.mono _ _ _ _ _ _ _ _ _ _ _ _ _ _ _ _ _ _ _)
   | (with_reducible exact LeO.refl _)
   | (with_reducible exact LeO.none _)
   | (with_reducible refine LeO.ite ?_ ?_)
   | (with_reducible refine LeO.bind ?_ (fun _ => ?_))
   | exact ih0 _ _ _ _ _ _ _ _ _ _ _ _ _ _ _ _ _ _ _ _ _
   | exact ih1 _ _ _ _ _ _ _ _ _ _ _ _ _ _ _ _ _ _ _ _
   | exact ih2 _ _ _ _ _ _ _ _ _ _ _ _ _ _ _ _ _ _ _ _
   | exact geom_Of.mono _ _ _ _ _ _ _ _ _ _ _ _ _
   | exact prefix_has.mono _ _ _ _ _ _ _ _ _ _ _ _ _ _ _ _ _ _ _
   | exact LeO.none _
   | refine LeO.ite ?_ ?_
   | refine LeO.bind ?_ (fun _ => ?_)
  ·intro y0 y1 y2 y3 y4 y5 y6 y7 y8 y9 y10 y11 y12 y13 y14 y15 y16 y17 y18 y19
   unfold prefix_How.j1
   repeat' first
   | (with_reducible exact ih0 _ _ _ _ _ _ _ _ _ _ _ _ _ _ _ _ _ _ _ _ _)
   | (with_reducible exact ih1 _ _ _ _ _ _ _ _ _ _ _ _ _ _ _ _ _ _ _ _)
   | (with_reducible exact ih2 _ _ _ _ _ _ _ _ _ _ _ _ _ _ _ _ _ _ _ _)
   | (with_reducible exact geom_Of.mono _ _ _ _ _ _ _ _ _ _ _ _ _)
   | (with_reducible exact prefix_has.mono _ _ _ _ _ _ _ _ _ _ _ _ _ _ _ _ _ _ _)
   | (with_reducible exact LeO.refl _)
   | (with_reducible exact LeO.none _)
   | (with_reducible refine LeO.ite ?_ ?_)
   | (with_reducible refine LeO.bind ?_ (fun _ => ?_))
   | exact ih0 _ _ _ _ _ _ _ _ _ _ _ _ _ _ _ _ _ _ _ _ _
   | exact ih1 _ _ _ _ _ _ _ _ _ _ _ _ _ _ _ _ _ _ _ _
   | exact ih2 _ _ _ _ _ _ _ _ _ _ _ _ _ _ _ _ _ _ _ _
   | exact geom_Of.mono _ _ _ _ _ _ _ _ _ _ _ _ _
   | exact prefix_has.mono _ _ _ _ _ _ _ _ _ _ _ _ _ _ _ _ _ _ _
   | exact LeO.none _
   | refine LeO.ite ?_ ?_
   | refine LeO.bind ?_ (fun _ => ?_)
  ·intro y0 y1 y2 y3 y4 y5 y6 y7 y8 y9 y10 y11 y12 y13 y14 y15 y16 y17 y18 y19
   unfold prefix_How.l0
   repeat' first
   | (with_reducible exact ih0 _ _ _ _ _ _ _ _ _ _ _ _ _ _ _ _ _ _ _ _ _)
   | (with_reducible exact ih1 _ _ _ _ _ _ _ _ _ _ _ _ _ _ _ _ _ _ _ _)
   | (with_reducible exact ih2 _ _ _ _ _ _ _ _ _ _ _ _ _ _ _ _ _ _ _ _)
   | (with_reducible exact geom_Of.mono _ _ _ _ _ _ _ _ _ _ _ _ _)
   | (with_reducible exact prefix_has.mono _ _ _ _ _ _ _ _ _ _ _ _ _ _ _ _ _ _ _)
   | (with_reducible exact LeO.refl _)
   | (with_reducible exact LeO.none _)
   | (with_reducible refine LeO.ite ?_ ?_)
   | (with_reducible refine LeO.bind ?_ (fun _ => ?_))
   | exact ih0 _ _ _ _ _ _ _ _ _ _ _ _ _ _ _ _ _ _ _ _ _
   | exact ih1 _ _ _ _ _ _ _ _ _ _ _ _ _ _ _ _ _ _ _ _
   | exact ih2 _ _ _ _ _ _ _ _ _ _ _ _ _ _ _ _ _ _ _ _
   | exact geom_Of.mono _ _ _ _ _ _ _ _ _ _ _ _ _
   | exact prefix_has.mono _ _ _ _ _ _ _ _ _ _ _ _ _ _ _ _ _ _ _
   | exact LeO.none _
   | refine LeO.ite ?_ ?_
   | refine LeO.bind ?_ (fun _ => ?_)
theorem prefix_How.mono : ∀ a0 a1 a2 a3 a4 a5 a6 a7 a8 a9 a10 a11 a12 a13 a14 k, LeO (prefix_How.f k a0 a1 a2 a3 a4 a5 a6 a7 a8 a9 a10 a11 a12 a13 a14) (prefix_How.f (k + 1) a0 a1 a2 a3 a4 a5 a6 a7 a8 a9 a10 a11 a12 a13 a14) := by
 intro a0 a1 a2 a3 a4 a5 a6 a7 a8 a9 a10 a11 a12 a13 a14 k
 obtain ⟨ih0, ih1, ih2⟩ := prefix_How.mono_l k
 unfold prefix_How.f
 repeat' first
   | (with_reducible exact ih0 _ _ _ _ _ _ _ _ _ _ _ _ _ _ _ _ _ _ _ _ _)
   | (with_reducible exact ih1 _ _ _ _ _ _ _ _ _ _ _ _ _ _ _ _ _ _ _ _)
   | (with_reducible exact ih2 _ _ _ _ _ _ _ _ _ _ _ _ _ _ _ _ _ _ _ _)
   | (with_reducible exact geom_Of.mono _ _ _ _ _ _ _ _ _ _ _ _ _)
   | (with_reducible exact prefix_has.mono _ _ _ _ _ _ _ _ _ _ _ _ _ _ _ _ _ _ _)
   | (with_reducible exact LeO.refl _)
   | (with_reducible exact LeO.none _)
   | (with_reducible refine LeO.ite ?_ ?_)
   | (with_reducible refine LeO.bind ?_ (fun _ => ?_))
   | exact ih0 _ _ _ _ _ _ _ _ _ _ _ _ _ _ _ _ _ _ _ _ _
   | exact ih1 _ _ _ _ _ _ _ _ _ _ _ _ _ _ _ _ _ _ _ _
   | exact ih2 _ _ _ _ _ _ _ _ _ _ _ _ _ _ _ _ _ _ _ _
   | exact geom_Of.mono _ _ _ _ _ _ _ _ _ _ _ _ _
   | exact prefix_has.mono _ _ _ _ _ _ _ _ _ _ _ _ _ _ _ _ _ _ _
   | exact LeO.none _
   | refine LeO.ite ?_ ?_
   | refine LeO.bind ?_ (fun _ => ?_)
def prefix_How.T5 : Bool × List (List Nat × List Nat) := (true, [([], []), ([], []), ([1], [1]), ([0, 2], [0, 2]), ([3], [3]), ([], []), ([5], [5]), ([4, 6], [4, 6])])
def prefix_How.B5 : List Nat := [0, 0, 2, 7, 15, 0, 32, 127]
theorem prefix_How.tab5 : rtab .any (opsOf Try.f52 5) = prefix_How.T5 := by kernel_rfl
theorem prefix_How.bits5 : waitsOk prefix_How.T5.2 prefix_How.B5 = true := by kernel_rfl
def prefix_How.T8 : Bool × List (List Nat × List Nat) := (true, [([], []), ([], []), ([], []), ([2], [2]), ([1, 3], [1, 3]), ([0, 4], [0, 4]), ([5], [5]), ([], []), ([7], [7]), ([6, 8], [6, 8]), ([9, 4], [9]), ([10], [10]), ([10], [10]), ([10], [10]), ([10], [10]), ([14, 10, 10], [10, 14]), ([11, 12, 13, 15, 15, 10], [10, 11, 12, 13, 15]), ([10, 16], [10, 16])])
def prefix_How.B8 : List Nat := [0, 0, 0, 4, 14, 31, 63, 0, 128, 511, 1023, 2047, 2047, 2047, 2047, 18431, 65535, 131071]
theorem prefix_How.tab8 : rtab .any (opsOf Try.f52 8) = prefix_How.T8 := by kernel_rfl
theorem prefix_How.bits8 : waitsOk prefix_How.T8.2 prefix_How.B8 = true := by kernel_rfl
def prefix_How.T14 : Bool × List (List Nat × List Nat) := (true, [([], []), ([], []), ([0, 1], [0, 1]), ([2], [2]), ([3], [3]), ([4, 3], [3, 4]), ([3], [3]), ([6, 3, 3], [3, 6]), ([5, 7, 3], [3, 5, 7]), ([3], [3]), ([9, 3], [3, 9]), ([8, 10, 3], [3, 8, 10]), ([3, 11], [3, 11]), ([12, 7], [12]), ([13], [13]), ([13], [13]), ([13], [13]), ([13], [13]), ([14, 15, 16, 17, 13, 13], [13, 14, 15, 16, 17]), ([13, 18], [13, 18])])
def prefix_How.B14 : List Nat := [0, 0, 3, 7, 15, 31, 15, 79, 255, 15, 527, 2047, 4095, 8191, 16383, 16383, 16383, 16383, 262143, 524287]
theorem prefix_How.tab14 : rtab .any (opsOf Try.f52 14) = prefix_How.T14 := by kernel_rfl
theorem prefix_How.bits14 : waitsOk prefix_How.T14.2 prefix_How.B14 = true := by kernel_rfl
set_option maxHeartbeats 8000000 in
set_option maxRecDepth 100000 in
theorem prefix_How.calls (k : Nat) (a0_0 : Int) (a0_1 : Int) (a0_2 : Int) (a0_3 : Int) (a0_4 : Int) (a0_5 : Int) (a0_6 : Int) (a0_7 : Int) (a0_8 : Int) (a0_9 : Int) (a0_10 : Int) (A1 : Option Addr) (c1 : Nat) (l1 : List Int) (a2 : Int) (A3 : Option Addr) (c3 : Nat) (l3 : List (S71)) (a4 : Int) (r1 : Int) (r2 : Int) (w : World) (hr1 : Kd.C (Kd.int .i64) w A1 l1.length l1) (hc1 : l1.length ≤ c1) (hr3 : Kd.C k71 w A3 l3.length l3) (hc3 : l3.length ≤ c3) (h : prefix_How.f k a0_0 a0_1 a0_2 a0_3 a0_4 a0_5 a0_6 a0_7 a0_8 a0_9 a0_10 l1 a2 l3 a4 = some (r1, r2)) :
  Calls Try.prog 52 #[.agg #[.int .i64 a0_0, .int .i64 a0_1, .int .i64 a0_2, .int .i64 a0_3, .int .i64 a0_4, .int .i64 a0_5, .int .i64 a0_6, .int .i64 a0_7, .int .i64 a0_8, .int .i64 a0_9, .int .i64 a0_10], .slice A1 l1.length c1, .int .i64 a2, .slice A3 l3.length c3, .int .i64 a4] w fun e w' => e = .returned (.tuple #[.int .i64 r1, .int .i64 r2]) ∧ Below w.heap.size w w' := by
 have hu23 := Try.underlying23
 have hu25 := Try.underlying25
 have HR1 := Aside0.mk hr1
 have HC1 := Aside0.mk hc1
 clear hr1 hc1
 have HR3 := Aside0.mk hr3
 have HC3 := Aside0.mk hc3
 clear hr3 hc3
 have HB := Aside0.mk (Below.refl w.heap.size w)
 have H : ((geom_Of.f k a0_0 a0_1 a0_2 a0_3 a0_4 a0_5 a0_6 a0_7 a0_8 a0_9 a0_10 a4).bind fun bt596 => (if bt596.2.2.2.2.2 = true then ((prefix_right.f a0_0 a0_1 a0_2 a0_3 a0_4 a0_5 a0_6 a0_7 a0_8 a0_9 a0_10 l1).bind fun t603 => (prefix_How.j0 k l1 a2 l3 a4 (!t603) a0_0 a0_1 a0_2 a0_3 a0_4 a0_5 a0_6 a0_7 a0_8 a0_9 a0_10 bt596.1 bt596.2.1 bt596.2.2.1 bt596.2.2.2.1 bt596.2.2.2.2.1)) else (prefix_How.j0 k l1 a2 l3 a4 true a0_0 a0_1 a0_2 a0_3 a0_4 a0_5 a0_6 a0_7 a0_8 a0_9 a0_10 bt596.1 bt596.2.1 bt596.2.2.1 bt596.2.2.2.1 bt596.2.2.2.2.1))) = some (r1, r2) := h
 clear h
 replace H := Option.bind_eq_some_iff.mp H
 obtain ⟨⟨t596, t597, t598, t599, t600, t601⟩, A60, H⟩ := H
 replace H : (if t601 = true then ((prefix_right.f a0_0 a0_1 a0_2 a0_3 a0_4 a0_5 a0_6 a0_7 a0_8 a0_9 a0_10 l1).bind fun t603 => (prefix_How.j0 k l1 a2 l3 a4 (!t603) a0_0 a0_1 a0_2 a0_3 a0_4 a0_5 a0_6 a0_7 a0_8 a0_9 a0_10 t596 t597 t598 t599 t600)) else (prefix_How.j0 k l1 a2 l3 a4 true a0_0 a0_1 a0_2 a0_3 a0_4 a0_5 a0_6 a0_7 a0_8 a0_9 a0_10 t596 t597 t598 t599 t600)) = some (r1, r2) := H
 have A6 := Aside0.mk A60
 clear A60
 have HC7 := Aside0.mk H
 clear H
 go_enter Try.func52, Try.ntmps52
 go_upto_region 2 with (first | ((with_reducible refine gate_dst (N := 5) rfl ?_); refine box_event ?hg (N := 5) ?hd (cs := #[.int .i64 a0_0, .int .i64 a0_1, .int .i64 a0_2, .int .i64 a0_3, .int .i64 a0_4, .int .i64 a0_5, .int .i64 a0_6, .int .i64 a0_7, .int .i64 a0_8, .int .i64 a0_9, .int .i64 a0_10]) (t := 23) ?hr ?_; (case hd => rfl); (case hg => rfl); (case hr => first | (go_simp; done) | (go_simp; rfl)); intro gb595 hg w8 hbox hb; have n0_ := bst HB hb; have n1_ := Aside0.mk (hbox); have n2_ := Aside0.mk ((by rw [hg]; exact (below_size (bl HB)) : w.heap.size ≤ gb595)); have n3_ := Aside0.mk ((by rw [hg]; exact (below_size (bl HB)) : w.heap.size ≤ gb595)); clear HB; have HB := n0_; have BK595 := n1_; have GW595 := n2_; have GE595 := n3_; clear n0_ n1_ n2_ n3_; clear hb hbox hg; obtain ⟨hcz9_0, hcz9_1, hcz9_2, hcz9_3, hcz9_4, hcz9_5, hcz9_6, hcz9_7, hcz9_8, hcz9_9, hcz9_10⟩ := cz11 BK595.out) | ((with_reducible refine gate_callee (f := 17) rfl ?_); refine goesL_ (some 19) rfl rfl Try.func17 (by kernel_rfl) rfl #[.agg #[.int .i64 a0_0, .int .i64 a0_1, .int .i64 a0_2, .int .i64 a0_3, .int .i64 a0_4, .int .i64 a0_5, .int .i64 a0_6, .int .i64 a0_7, .int .i64 a0_8, .int .i64 a0_9, .int .i64 a0_10], .int .i64 a4] rfl (by (try simp only [List.map_toArray, List.map_cons, List.map_nil]); first | done | rfl | (simp only [List.length_drop, List.length_take]; rfl)) ?_; (with_reducible refine (geom_Of.calls k a0_0 a0_1 a0_2 a0_3 a0_4 a0_5 a0_6 a0_7 a0_8 a0_9 a0_10 a4 t596 t597 t598 t599 t600 t601 _ A6.out).mono ?_); rintro e w10 ⟨rfl, hb⟩; refine ⟨_, rfl, ?_⟩; have n0_ := bkb BK595 hb; have n1_ := bst HB hb; clear BK595; clear HB; have BK595 := n0_; have HB := n1_; clear n0_ n1_; (try clear hb); (try clear hb2); (try clear hk); (try clear hi)) | ((with_reducible refine gate_dst (N := 12) rfl ?_); refine box_event ?hg (N := 12) ?hd (cs := #[.int .i64 0, .int .i64 0, .int .i64 0, .int .i64 0, .int .i64 0]) (t := 25) ?hr ?_; (case hd => rfl); (case hg => rfl); (case hr => first | (go_simp; done) | (go_simp; rfl)); intro gb602 hg w11 hbox hb; have n0_ := bkb BK595 hb; have n1_ := bst HB hb; have n2_ := Aside0.mk (hbox); have n3_ := Aside0.mk ((by rw [hg]; exact (below_size (bl HB)) : w.heap.size ≤ gb602)); have n4_ := Aside0.mk ((by rw [hg]; exact (below_size (bl HB)) : w.heap.size ≤ gb602)); have n5_ := Aside0.mk ((by rw [hg]; exact Nat.ne_of_lt (blk_lt (g := gb595) (o := .cells #[.int .i64 a0_0, .int .i64 a0_1, .int .i64 a0_2, .int .i64 a0_3, .int .i64 a0_4, .int .i64 a0_5, .int .i64 a0_6, .int .i64 a0_7, .int .i64 a0_8, .int .i64 a0_9, .int .i64 a0_10] 23 (0, 0)) (by (with_reducible repeat (first | refine blk_drewN ?_ _ | refine blk_drew ?_ | refine blk_alloc ?_ _)); exact BK595.out)) : gb595 ≠ gb602)); have n6_ := Aside0.mk ((by rw [hg]; exact Nat.ne_of_gt (blk_lt (g := gb595) (o := .cells #[.int .i64 a0_0, .int .i64 a0_1, .int .i64 a0_2, .int .i64 a0_3, .int .i64 a0_4, .int .i64 a0_5, .int .i64 a0_6, .int .i64 a0_7, .int .i64 a0_8, .int .i64 a0_9, .int .i64 a0_10] 23 (0, 0)) (by (with_reducible repeat (first | refine blk_drewN ?_ _ | refine blk_drew ?_ | refine blk_alloc ?_ _)); exact BK595.out)) : gb602 ≠ gb595)); clear BK595; clear HB; have BK595 := n0_; have HB := n1_; have BK602 := n2_; have GW602 := n3_; have GE602 := n4_; have NB595_602 := n5_; have NB602_595 := n6_; clear n0_ n1_ n2_ n3_ n4_ n5_ n6_; clear hb hbox hg; have hnb12 := NB602_595.out; have hnc12 := NB595_602.out; obtain ⟨hcz13_0, hcz13_1, hcz13_2, hcz13_3, hcz13_4⟩ := cz5 BK602.out; obtain ⟨hfz13_0, hfz13_1, hfz13_2, hfz13_3, hfz13_4⟩ := fz5 BK602.out))
 (try simp only [Act.put, List.setIfInBounds_toArray, List.set_cons_zero, List.set_cons_succ])
 go_cut [29] (fun v29 wc => ∃ (kq : Nat) (x29_6 : Bool), v29 = .bool x29_6 ∧ Aside0 (prefix_How.j0 kq l1 a2 l3 a4 x29_6 a0_0 a0_1 a0_2 a0_3 a0_4 a0_5 a0_6 a0_7 a0_8 a0_9 a0_10 t596 t597 t598 t599 t600 = some (r1, r2)) ∧ Aside0 (kq ≤ k) ∧ Aside0 (wc.heap[gb595]? = some (.cells #[.int .i64 a0_0, .int .i64 a0_1, .int .i64 a0_2, .int .i64 a0_3, .int .i64 a0_4, .int .i64 a0_5, .int .i64 a0_6, .int .i64 a0_7, .int .i64 a0_8, .int .i64 a0_9, .int .i64 a0_10] 23 (0, 0))) ∧ Aside0 (wc.heap[gb602]? = some (.cells #[.int .i64 t596, .int .i64 t597, .int .i64 t598, .int .i64 t599, .int .i64 t600] 25 (0, 0))) ∧ Aside0 (Below w.heap.size w wc))
 case first =>
  have H := HC7.out
  clear HC7
  by_cases c14 : t601 = true
  ·subst c14
   have H1 : ((prefix_right.f a0_0 a0_1 a0_2 a0_3 a0_4 a0_5 a0_6 a0_7 a0_8 a0_9 a0_10 l1).bind fun t603 => (prefix_How.j0 k l1 a2 l3 a4 (!t603) a0_0 a0_1 a0_2 a0_3 a0_4 a0_5 a0_6 a0_7 a0_8 a0_9 a0_10 t596 t597 t598 t599 t600)) = some (r1, r2) := by rw [if_pos rfl] at H; exact H
   clear H
   have H := H1
   clear H1
   replace H := Option.bind_eq_some_iff.mp H
   obtain ⟨t603, A150, H⟩ := H
   replace H : (prefix_How.j0 k l1 a2 l3 a4 (!t603) a0_0 a0_1 a0_2 a0_3 a0_4 a0_5 a0_6 a0_7 a0_8 a0_9 a0_10 t596 t597 t598 t599 t600) = some (r1, r2) := H
   have A15 := Aside0.mk A150
   clear A150
   have H' := Aside0.mk H
   clear H
   have hnb16 := NB595_602.out
   have hnc16 := NB602_595.out
   obtain ⟨hcz17_0, hcz17_1, hcz17_2, hcz17_3, hcz17_4, hcz17_5, hcz17_6, hcz17_7, hcz17_8, hcz17_9, hcz17_10⟩ := cz11 BK595.out
   go_wp2_with (first | (go_at_call 82; (with_reducible refine (prefix_right.calls a0_0 a0_1 a0_2 a0_3 a0_4 a0_5 a0_6 a0_7 a0_8 a0_9 a0_10 _ _ l1 t603 _ ?side1 ?side2 A15.out).mono ?_); (case side1 => exact Kd.C_below HR1.out (bl HB)); (case side2 => exact HC1.out); rintro e w18 ⟨rfl, hb⟩; have n0_ := Aside0.mk (blk_below (g := gb595) (o := .cells #[.int .i64 a0_0, .int .i64 a0_1, .int .i64 a0_2, .int .i64 a0_3, .int .i64 a0_4, .int .i64 a0_5, .int .i64 a0_6, .int .i64 a0_7, .int .i64 a0_8, .int .i64 a0_9, .int .i64 a0_10] 23 (0, 0)) (by (with_reducible repeat (first | refine blk_drewN ?_ _ | refine blk_drew ?_ | refine blk_alloc ?_ _)); refine blk_far ?_ NB595_602.out _; (with_reducible repeat (first | refine blk_drewN ?_ _ | refine blk_drew ?_ | refine blk_alloc ?_ _)); refine blk_far ?_ NB595_602.out _; (with_reducible repeat (first | refine blk_drewN ?_ _ | refine blk_drew ?_ | refine blk_alloc ?_ _)); refine blk_far ?_ NB595_602.out _; (with_reducible repeat (first | refine blk_drewN ?_ _ | refine blk_drew ?_ | refine blk_alloc ?_ _)); refine blk_far ?_ NB595_602.out _; (with_reducible repeat (first | refine blk_drewN ?_ _ | refine blk_drew ?_ | refine blk_alloc ?_ _)); refine blk_far ?_ NB595_602.out _; (with_reducible repeat (first | refine blk_drewN ?_ _ | refine blk_drew ?_ | refine blk_alloc ?_ _)); exact BK595.out) hb); have n1_ := Aside0.mk (blk_below (g := gb602) (o := .cells #[.int .i64 t596, .int .i64 t597, .int .i64 t598, .int .i64 t599, .int .i64 t600] 25 (0, 0)) (by (with_reducible repeat (first | refine blk_drewN ?_ _ | refine blk_drew ?_ | refine blk_alloc ?_ _)); refine blk_put (cs := #[.int .i64 t596, .int .i64 t597, .int .i64 t598, .int .i64 t599, .int .i64 0]) ?_ 4 _ rfl; (with_reducible repeat (first | refine blk_drewN ?_ _ | refine blk_drew ?_ | refine blk_alloc ?_ _)); refine blk_put (cs := #[.int .i64 t596, .int .i64 t597, .int .i64 t598, .int .i64 0, .int .i64 0]) ?_ 3 _ rfl; (with_reducible repeat (first | refine blk_drewN ?_ _ | refine blk_drew ?_ | refine blk_alloc ?_ _)); refine blk_put (cs := #[.int .i64 t596, .int .i64 t597, .int .i64 0, .int .i64 0, .int .i64 0]) ?_ 2 _ rfl; (with_reducible repeat (first | refine blk_drewN ?_ _ | refine blk_drew ?_ | refine blk_alloc ?_ _)); refine blk_put (cs := #[.int .i64 t596, .int .i64 0, .int .i64 0, .int .i64 0, .int .i64 0]) ?_ 1 _ rfl; (with_reducible repeat (first | refine blk_drewN ?_ _ | refine blk_drew ?_ | refine blk_alloc ?_ _)); refine blk_put (cs := #[.int .i64 0, .int .i64 0, .int .i64 0, .int .i64 0, .int .i64 0]) ?_ 0 _ rfl; (with_reducible repeat (first | refine blk_drewN ?_ _ | refine blk_drew ?_ | refine blk_alloc ?_ _)); exact BK602.out) hb); have n2_ := bst HB hb; clear BK595; clear BK602; clear HB; have BK595 := n0_; have BK602 := n1_; have HB := n2_; clear n0_ n1_ n2_; (try clear hb); (try clear hb2); (try clear hk); (try clear hi)))
   go_meet
   case rel => exact ⟨_, (!t603), (by first | rfl | (simp; done) | (simp [*]; done)), H', ⟨by first | omega | exact Nat.le_refl _⟩, ⟨by (with_reducible repeat (first | refine blk_drewN ?_ _ | refine blk_drew ?_ | refine blk_alloc ?_ _)); exact BK595.out⟩, ⟨by (with_reducible repeat (first | refine blk_drewN ?_ _ | refine blk_drew ?_ | refine blk_alloc ?_ _)); exact BK602.out⟩, ⟨bl HB⟩⟩
  ·replace c14 := Bool.eq_false_iff.mpr c14
   subst c14
   have H1 : (prefix_How.j0 k l1 a2 l3 a4 true a0_0 a0_1 a0_2 a0_3 a0_4 a0_5 a0_6 a0_7 a0_8 a0_9 a0_10 t596 t597 t598 t599 t600) = some (r1, r2) := by rw [if_neg (show ¬ (false = true) by decide)] at H; exact H
   clear H
   have H := H1
   clear H1
   have H' := Aside0.mk H
   clear H
   go_wp2
   go_meet
   case rel => exact ⟨_, (true), (by first | rfl | (simp; done) | (simp [*]; done)), H', ⟨by first | omega | exact Nat.le_refl _⟩, ⟨by (with_reducible repeat (first | refine blk_drewN ?_ _ | refine blk_drew ?_ | refine blk_alloc ?_ _)); refine blk_far ?_ NB595_602.out _; (with_reducible repeat (first | refine blk_drewN ?_ _ | refine blk_drew ?_ | refine blk_alloc ?_ _)); refine blk_far ?_ NB595_602.out _; (with_reducible repeat (first | refine blk_drewN ?_ _ | refine blk_drew ?_ | refine blk_alloc ?_ _)); refine blk_far ?_ NB595_602.out _; (with_reducible repeat (first | refine blk_drewN ?_ _ | refine blk_drew ?_ | refine blk_alloc ?_ _)); refine blk_far ?_ NB595_602.out _; (with_reducible repeat (first | refine blk_drewN ?_ _ | refine blk_drew ?_ | refine blk_alloc ?_ _)); refine blk_far ?_ NB595_602.out _; (with_reducible repeat (first | refine blk_drewN ?_ _ | refine blk_drew ?_ | refine blk_alloc ?_ _)); exact BK595.out⟩, ⟨by (with_reducible repeat (first | refine blk_drewN ?_ _ | refine blk_drew ?_ | refine blk_alloc ?_ _)); refine blk_put (cs := #[.int .i64 t596, .int .i64 t597, .int .i64 t598, .int .i64 t599, .int .i64 0]) ?_ 4 _ rfl; (with_reducible repeat (first | refine blk_drewN ?_ _ | refine blk_drew ?_ | refine blk_alloc ?_ _)); refine blk_put (cs := #[.int .i64 t596, .int .i64 t597, .int .i64 t598, .int .i64 0, .int .i64 0]) ?_ 3 _ rfl; (with_reducible repeat (first | refine blk_drewN ?_ _ | refine blk_drew ?_ | refine blk_alloc ?_ _)); refine blk_put (cs := #[.int .i64 t596, .int .i64 t597, .int .i64 0, .int .i64 0, .int .i64 0]) ?_ 2 _ rfl; (with_reducible repeat (first | refine blk_drewN ?_ _ | refine blk_drew ?_ | refine blk_alloc ?_ _)); refine blk_put (cs := #[.int .i64 t596, .int .i64 0, .int .i64 0, .int .i64 0, .int .i64 0]) ?_ 1 _ rfl; (with_reducible repeat (first | refine blk_drewN ?_ _ | refine blk_drew ?_ | refine blk_alloc ?_ _)); refine blk_put (cs := #[.int .i64 0, .int .i64 0, .int .i64 0, .int .i64 0, .int .i64 0]) ?_ 0 _ rfl; (with_reducible repeat (first | refine blk_drewN ?_ _ | refine blk_drew ?_ | refine blk_alloc ?_ _)); exact BK602.out⟩, ⟨bl HB⟩⟩
 case rest =>
  clear HC7
  try clear c1
  try clear p2
  try clear c3
  try clear c5
  try clear c12
  try clear c14
  try clear c16
  try clear c17
  (try clear hcz13_0 hcz13_1 hcz13_2 hcz13_3 hcz13_4)
  (try clear hcz17_0 hcz17_1)
  (try clear hcz17_10)
  (try clear hcz17_2 hcz17_3 hcz17_4 hcz17_5 hcz17_6 hcz17_7 hcz17_8 hcz17_9)
  (try clear hcz9_0 hcz9_1)
  (try clear hcz9_10)
  (try clear hcz9_2 hcz9_3 hcz9_4 hcz9_5 hcz9_6 hcz9_7 hcz9_8 hcz9_9)
  (try clear hfz13_0 hfz13_1 hfz13_2 hfz13_3 hfz13_4)
  (try clear hfz17_0 hfz17_1)
  (try clear hfz17_10)
  (try clear hfz17_2 hfz17_3 hfz17_4 hfz17_5 hfz17_6 hfz17_7 hfz17_8 hfz17_9)
  (try clear hfz9_0 hfz9_1)
  (try clear hfz9_10)
  (try clear hfz9_2 hfz9_3 hfz9_4 hfz9_5 hfz9_6 hfz9_7 hfz9_8 hfz9_9)
  obtain ⟨kq, x29_6, rfl, HA, HJ6, BK595, BK602, HB⟩ := hcut
  cases kq with
  | zero => exact absurd HA.out (by simp [prefix_How.j0])
  | succ kj6 =>
   have H := HA.out
   clear HA
   simp only [prefix_How.j0] at H
   by_cases c19 : x29_6 = true
   ·subst c19
    have H1 : (some (0, 0)) = some (r1, r2) := by rw [if_pos rfl] at H; exact H
    clear H
    have H := H1
    clear H1
    simp only [Option.some.injEq, Prod.mk.injEq] at H
    obtain ⟨rfl, rfl⟩ := H
    go_wp2
    go_ret2
    exact ⟨by first | rfl | (simp [errW_none, errW_some] <;> rfl) | (simp [*, errW_none, errW_some] <;> rfl), bl HB⟩
   ·replace c19 := Bool.eq_false_iff.mpr c19
    subst c19
    have H1 : (if t599 = a2 then ((geom_Parity.f a0_0 a0_1 a0_2 a0_3 a0_4 a0_5 a0_6 a0_7 a0_8 a0_9 a0_10 t596).bind fun t605 => (if 0 ≤ t605 then (if t605 < (l1.length : Int) then (if (rd l1 t605) > t600 then ((conf_Size.f a0_0 a0_1 a0_2 a0_3 a0_4 a0_5 a0_6 a0_7 a0_8 a0_9 a0_10).bind fun t607 => ((prefix_has.f kj6 a0_0 a0_1 a0_2 a0_3 a0_4 a0_5 a0_6 a0_7 a0_8 a0_9 a0_10 l1 t596 t597 t598 t599 t600 t607).bind fun t608 => (prefix_How.j1 kj6 l1 l3 a4 t608 a0_0 a0_1 a0_2 a0_3 a0_4 a0_5 a0_6 a0_7 a0_8 a0_9 a0_10 t596 t597 t598 t599 t600))) else (prefix_How.j1 kj6 l1 l3 a4 false a0_0 a0_1 a0_2 a0_3 a0_4 a0_5 a0_6 a0_7 a0_8 a0_9 a0_10 t596 t597 t598 t599 t600)) else (none)) else (none))) else (if 0 ≤ t599 then (if t599 < (l1.length : Int) then (if (rd l1 t599) > t600 then (some (1, 0)) else (some (0, 0))) else (none)) else (none))) = some (r1, r2) := by rw [if_neg (show ¬ (false = true) by decide)] at H; exact H
    clear H
    have H := H1
    clear H1
    by_cases c20 : t599 = a2
    ·rw [if_pos c20] at H
     have c20b0 : (t599 == a2) = true := beq_iff_eq.mpr c20
     have c20b1 : (t599 != a2) = false := bne_eq_false_iff_eq.mpr c20
     clear c20
     have HC21 := Aside0.mk H
     clear H
     have hnb22 := NB602_595.out
     have hnc22 := NB595_602.out
     obtain ⟨hcz23_0, hcz23_1, hcz23_2, hcz23_3, hcz23_4⟩ := cz5 BK602.out
     obtain ⟨hfz23_0, hfz23_1, hfz23_2, hfz23_3, hfz23_4⟩ := fz5 BK602.out
     go_upto_region 8 with (fail)
     go_cut [59] (fun v59 wc => ∃ (kq : Nat) (x59_20 : Bool), v59 = .bool x59_20 ∧ Aside0 (prefix_How.j1 kq l1 l3 a4 x59_20 a0_0 a0_1 a0_2 a0_3 a0_4 a0_5 a0_6 a0_7 a0_8 a0_9 a0_10 t596 t597 t598 t599 t600 = some (r1, r2)) ∧ Aside0 (kq ≤ kj6) ∧ Aside0 (wc.heap[gb595]? = some (.cells #[.int .i64 a0_0, .int .i64 a0_1, .int .i64 a0_2, .int .i64 a0_3, .int .i64 a0_4, .int .i64 a0_5, .int .i64 a0_6, .int .i64 a0_7, .int .i64 a0_8, .int .i64 a0_9, .int .i64 a0_10] 23 (0, 0))) ∧ Aside0 (wc.heap[gb602]? = some (.cells #[.int .i64 t596, .int .i64 t597, .int .i64 t598, .int .i64 t599, .int .i64 t600] 25 (0, 0))) ∧ Aside0 (Below w.heap.size w wc))
     case first =>
      have H := HC21.out
      clear HC21
      replace H := Option.bind_eq_some_iff.mp H
      obtain ⟨t605, A240, H⟩ := H
      replace H : (if 0 ≤ t605 then (if t605 < (l1.length : Int) then (if (rd l1 t605) > t600 then ((conf_Size.f a0_0 a0_1 a0_2 a0_3 a0_4 a0_5 a0_6 a0_7 a0_8 a0_9 a0_10).bind fun t607 => ((prefix_has.f kj6 a0_0 a0_1 a0_2 a0_3 a0_4 a0_5 a0_6 a0_7 a0_8 a0_9 a0_10 l1 t596 t597 t598 t599 t600 t607).bind fun t608 => (prefix_How.j1 kj6 l1 l3 a4 t608 a0_0 a0_1 a0_2 a0_3 a0_4 a0_5 a0_6 a0_7 a0_8 a0_9 a0_10 t596 t597 t598 t599 t600))) else (prefix_How.j1 kj6 l1 l3 a4 false a0_0 a0_1 a0_2 a0_3 a0_4 a0_5 a0_6 a0_7 a0_8 a0_9 a0_10 t596 t597 t598 t599 t600)) else (none)) else (none)) = some (r1, r2) := H
      have A24 := Aside0.mk A240
      clear A240
      by_cases c25 : 0 ≤ t605
      ·rw [if_pos c25] at H
       have c25b0 : decide (0 ≤ t605) = true := decide_eq_true c25
       clear c25
       (first | rw [c25b0] | (simp only [i64_w, i32_w]; rw [c25b0]) | skip)
       by_cases c26 : t605 < (l1.length : Int)
       ·rw [if_pos c26] at H
        have c26b0 : decide (t605 < (l1.length : Int)) = true := decide_eq_true c26
        clear c26
        by_cases c27 : (rd l1 t605) > t600
        ·rw [if_pos c27] at H
         have c27b0 : decide (t600 < (rd l1 t605)) = true := decide_eq_true c27
         clear c27
         replace H := Option.bind_eq_some_iff.mp H
         obtain ⟨t607, A280, H⟩ := H
         replace H : ((prefix_has.f kj6 a0_0 a0_1 a0_2 a0_3 a0_4 a0_5 a0_6 a0_7 a0_8 a0_9 a0_10 l1 t596 t597 t598 t599 t600 t607).bind fun t608 => (prefix_How.j1 kj6 l1 l3 a4 t608 a0_0 a0_1 a0_2 a0_3 a0_4 a0_5 a0_6 a0_7 a0_8 a0_9 a0_10 t596 t597 t598 t599 t600)) = some (r1, r2) := H
         have A28 := Aside0.mk A280
         clear A280
         replace H := Option.bind_eq_some_iff.mp H
         obtain ⟨t608, A290, H⟩ := H
         replace H : (prefix_How.j1 kj6 l1 l3 a4 t608 a0_0 a0_1 a0_2 a0_3 a0_4 a0_5 a0_6 a0_7 a0_8 a0_9 a0_10 t596 t597 t598 t599 t600) = some (r1, r2) := H
         have A29 := Aside0.mk A290
         clear A290
         have H' := Aside0.mk H
         clear H
         try go_wp2
         replace BK595 := Aside0.mk (blk_drew BK595.out)
         replace BK602 := Aside0.mk (blk_drew BK602.out)
         replace HB := Aside0.mk (below_drew1 HB.out)
         have p606 : 0 ≤ (t605 : Int) := of_decide_eq_true (by first | (with_reducible assumption) | assumption)
         have q606 : t605 < (l1.length : Int) := of_decide_eq_true (by first | (with_reducible assumption) | assumption)
         obtain ⟨ad606, e606, hx606_0⟩ := Kd.at_int HR1.out t605 p606 q606
         have hw606_0 := hx606_0
         cases e606
         replace hx606_0 := (HB.out.cell (World.block_lt_of_cell? w _ hx606_0)).trans hx606_0
         replace p606 := eq_true p606
         replace q606 := eq_true q606
         refine start_ (n := 18) (S := fun w' => w'.cell? ⟨gb595, 0, none⟩ = some (.int .i64 a0_0) ∧ w'.cell? ⟨gb595, 1, none⟩ = some (.int .i64 a0_1) ∧ w'.cell? ⟨gb595, 2, none⟩ = some (.int .i64 a0_2) ∧ w'.cell? ⟨gb595, 3, none⟩ = some (.int .i64 a0_3) ∧ w'.cell? ⟨gb595, 4, none⟩ = some (.int .i64 a0_4) ∧ w'.cell? ⟨gb595, 5, none⟩ = some (.int .i64 a0_5) ∧ w'.cell? ⟨gb595, 6, none⟩ = some (.int .i64 a0_6) ∧ w'.cell? ⟨gb595, 7, none⟩ = some (.int .i64 a0_7) ∧ w'.cell? ⟨gb595, 8, none⟩ = some (.int .i64 a0_8) ∧ w'.cell? ⟨gb595, 9, none⟩ = some (.int .i64 a0_9) ∧ w'.cell? ⟨gb595, 10, none⟩ = some (.int .i64 a0_10) ∧ w'.cell? ⟨gb602, 0, none⟩ = some (.int .i64 t596) ∧ w'.cell? ⟨gb602, 1, none⟩ = some (.int .i64 t597) ∧ w'.cell? ⟨gb602, 2, none⟩ = some (.int .i64 t598) ∧ w'.cell? ⟨gb602, 3, none⟩ = some (.int .i64 t599) ∧ w'.cell? ⟨gb602, 4, none⟩ = some (.int .i64 t600) ∧ w'.cell? (ad606.add (t605).toNat) = some (.int .i64 (rd l1 t605))) (ds := []) (bq 18 0) (by kernel_rfl) rfl rfl ⟨(blk_cell BK595.out 0).trans rfl, (blk_cell BK595.out 1).trans rfl, (blk_cell BK595.out 2).trans rfl, (blk_cell BK595.out 3).trans rfl, (blk_cell BK595.out 4).trans rfl, (blk_cell BK595.out 5).trans rfl, (blk_cell BK595.out 6).trans rfl, (blk_cell BK595.out 7).trans rfl, (blk_cell BK595.out 8).trans rfl, (blk_cell BK595.out 9).trans rfl, (blk_cell BK595.out 10).trans rfl, (blk_cell BK602.out 0).trans rfl, (blk_cell BK602.out 1).trans rfl, (blk_cell BK602.out 2).trans rfl, (blk_cell BK602.out 3).trans rfl, (blk_cell BK602.out 4).trans rfl, ((HB.out.cell (World.block_lt_of_cell? w _ hw606_0)).trans hw606_0)⟩ (fun hHeld => ?_); refine with_tabW prefix_How.tab8 prefix_How.bits8 (fun HT_ HW_ => ?_)
         generalize wc.drew = w30 at BK595 BK602 HB hx606_0 hHeld ⊢
         apply pu 0 42 (bq 18 1) HT_
         apply pu 2 44 (bq 18 5) HT_
         apply pu 7 49 (bq 18 133) HT_
         apply tu 1 43 (bq 18 135) HT_ HW_ hHeld
         apply tu 3 45 (bq 18 143) HT_ HW_ hHeld
         apply tu 8 50 (bq 18 399) HT_ HW_ hHeld
         refine one_ (i := 4) (N := some 46) (bq 18 415) rfl rfl (one_of HT_.out (by kernel_rfl)) (by decide) (fun K hK => ?_)
         refine gs Try.func21 #[.agg #[.int .i64 a0_0, .int .i64 a0_1, .int .i64 a0_2, .int .i64 a0_3, .int .i64 a0_4, .int .i64 a0_5, .int .i64 a0_6, .int .i64 a0_7, .int .i64 a0_8, .int .i64 a0_9, .int .i64 a0_10], .int .i64 t596] ?_
         with_reducible refine (geom_Parity.calls a0_0 a0_1 a0_2 a0_3 a0_4 a0_5 a0_6 a0_7 a0_8 a0_9 a0_10 t596 t605 _ A24.out).mono ?_
         rintro e w31 ⟨rfl, hb⟩
         refine ⟨_, rfl, ?_⟩
         replace BK595 := bkb BK595 hb
         replace BK602 := bkb BK602 hb
         replace HB := bst HB hb
         try clear hb; try clear hb2; try clear hk; try clear hi
         refine hK.out _ _ ⟨(blk_cell BK595.out 0).trans rfl, (blk_cell BK595.out 1).trans rfl, (blk_cell BK595.out 2).trans rfl, (blk_cell BK595.out 3).trans rfl, (blk_cell BK595.out 4).trans rfl, (blk_cell BK595.out 5).trans rfl, (blk_cell BK595.out 6).trans rfl, (blk_cell BK595.out 7).trans rfl, (blk_cell BK595.out 8).trans rfl, (blk_cell BK595.out 9).trans rfl, (blk_cell BK595.out 10).trans rfl, (blk_cell BK602.out 0).trans rfl, (blk_cell BK602.out 1).trans rfl, (blk_cell BK602.out 2).trans rfl, (blk_cell BK602.out 3).trans rfl, (blk_cell BK602.out 4).trans rfl, ((HB.out.cell (World.block_lt_of_cell? w _ hw606_0)).trans hw606_0)⟩ (fun hHeld => ?_)
         clear hK K
         apply nm 0
         apply pu 5 47 (bq 18 447) HT_
         apply tu 6 48 (bq 18 511) HT_ HW_ hHeld
         apply pu 9 51 (bq 18 1023) HT_
         apply pu 10 52 (bq 18 2047) HT_
         apply pu 12 54 (bq 18 6143) HT_
         apply tu 11 53 (bq 18 8191) HT_ HW_ hHeld
         apply tu 13 55 (bq 18 16383) HT_ HW_ hHeld
         apply tu 14 56 (bq 18 32767) HT_ HW_ hHeld
         refine one_ (i := 15) (N := some 57) (bq 18 65535) rfl rfl (one_of HT_.out (by kernel_rfl)) (by decide) (fun K hK => ?_)
         refine gs Try.func68 #[.agg #[.int .i64 a0_0, .int .i64 a0_1, .int .i64 a0_2, .int .i64 a0_3, .int .i64 a0_4, .int .i64 a0_5, .int .i64 a0_6, .int .i64 a0_7, .int .i64 a0_8, .int .i64 a0_9, .int .i64 a0_10]] ?_
         with_reducible refine (conf_Size.calls a0_0 a0_1 a0_2 a0_3 a0_4 a0_5 a0_6 a0_7 a0_8 a0_9 a0_10 t607 _ A28.out).mono ?_
         rintro e w32 ⟨rfl, hb⟩
         refine ⟨_, rfl, ?_⟩
         replace BK595 := bkb BK595 hb
         replace BK602 := bkb BK602 hb
         replace HB := bst HB hb
         try clear hb; try clear hb2; try clear hk; try clear hi
         refine hK.out _ _ ⟨(blk_cell BK595.out 0).trans rfl, (blk_cell BK595.out 1).trans rfl, (blk_cell BK595.out 2).trans rfl, (blk_cell BK595.out 3).trans rfl, (blk_cell BK595.out 4).trans rfl, (blk_cell BK595.out 5).trans rfl, (blk_cell BK595.out 6).trans rfl, (blk_cell BK595.out 7).trans rfl, (blk_cell BK595.out 8).trans rfl, (blk_cell BK595.out 9).trans rfl, (blk_cell BK595.out 10).trans rfl, (blk_cell BK602.out 0).trans rfl, (blk_cell BK602.out 1).trans rfl, (blk_cell BK602.out 2).trans rfl, (blk_cell BK602.out 3).trans rfl, (blk_cell BK602.out 4).trans rfl, ((HB.out.cell (World.block_lt_of_cell? w _ hw606_0)).trans hw606_0)⟩ (fun hHeld => ?_)
         clear hK K
         apply nm 0
         refine one_ (i := 16) (N := some 58) (bq 18 131071) rfl rfl (one_of HT_.out (by kernel_rfl)) (by decide) (fun K hK => ?_)
         refine gs Try.func86 #[.agg #[.int .i64 a0_0, .int .i64 a0_1, .int .i64 a0_2, .int .i64 a0_3, .int .i64 a0_4, .int .i64 a0_5, .int .i64 a0_6, .int .i64 a0_7, .int .i64 a0_8, .int .i64 a0_9, .int .i64 a0_10], .slice (some ad606) l1.length c1, .agg #[.int .i64 t596, .int .i64 t597, .int .i64 t598, .int .i64 t599, .int .i64 t600], .int .i64 t607] ?_
         with_reducible refine (prefix_has.calls kj6 a0_0 a0_1 a0_2 a0_3 a0_4 a0_5 a0_6 a0_7 a0_8 a0_9 a0_10 _ _ l1 t596 t597 t598 t599 t600 t607 t608 _ ?side1 ?side2 A29.out).mono ?_
         (case side1 => repeat (first | exact (Kd.C_below HR1.out HB.out) | (with_reducible refine Kd.C_alloc ?_ _) | (with_reducible refine Kd.C_drewN ?_ _) | (with_reducible refine Kd.C_drew ?_)))
         (case side2 => exact HC1.out)
         rintro e w33 ⟨rfl, hb⟩
         refine ⟨_, rfl, ?_⟩
         replace BK595 := bkb BK595 hb
         replace BK602 := bkb BK602 hb
         replace HB := bst HB hb
         try clear hb; try clear hb2; try clear hk; try clear hi
         refine hK.out _ _ ⟨(blk_cell BK595.out 0).trans rfl, (blk_cell BK595.out 1).trans rfl, (blk_cell BK595.out 2).trans rfl, (blk_cell BK595.out 3).trans rfl, (blk_cell BK595.out 4).trans rfl, (blk_cell BK595.out 5).trans rfl, (blk_cell BK595.out 6).trans rfl, (blk_cell BK595.out 7).trans rfl, (blk_cell BK595.out 8).trans rfl, (blk_cell BK595.out 9).trans rfl, (blk_cell BK595.out 10).trans rfl, (blk_cell BK602.out 0).trans rfl, (blk_cell BK602.out 1).trans rfl, (blk_cell BK602.out 2).trans rfl, (blk_cell BK602.out 3).trans rfl, (blk_cell BK602.out 4).trans rfl, ((HB.out.cell (World.block_lt_of_cell? w _ hw606_0)).trans hw606_0)⟩ (fun hHeld => ?_)
         clear hK K
         apply nm 0
         apply pu 17 59 (bq 18 262143) HT_
         refine done_ (done_of HT_.out (by kernel_rfl)) ?_
         try go_wp2
         go_meet
         case rel => exact ⟨_, (t608), (by first | rfl | (simp; done) | (simp [*]; done)), H', ⟨by have := HJ6.out; first | omega | exact Nat.le_refl _⟩, ⟨by (with_reducible repeat (first | refine blk_drewN ?_ _ | refine blk_drew ?_ | refine blk_alloc ?_ _)); exact BK595.out⟩, ⟨by (with_reducible repeat (first | refine blk_drewN ?_ _ | refine blk_drew ?_ | refine blk_alloc ?_ _)); exact BK602.out⟩, ⟨bl HB⟩⟩
        ·rw [if_neg c27] at H
         have c27b0 : decide (t600 < (rd l1 t605)) = false := decide_eq_false c27
         clear c27
         have H' := Aside0.mk H
         clear H
         try go_wp2
         replace BK595 := Aside0.mk (blk_drew BK595.out)
         replace BK602 := Aside0.mk (blk_drew BK602.out)
         replace HB := Aside0.mk (below_drew1 HB.out)
         have p606 : 0 ≤ (t605 : Int) := of_decide_eq_true (by first | (with_reducible assumption) | assumption)
         have q606 : t605 < (l1.length : Int) := of_decide_eq_true (by first | (with_reducible assumption) | assumption)
         obtain ⟨ad606, e606, hx606_0⟩ := Kd.at_int HR1.out t605 p606 q606
         have hw606_0 := hx606_0
         cases e606
         replace hx606_0 := (HB.out.cell (World.block_lt_of_cell? w _ hx606_0)).trans hx606_0
         replace p606 := eq_true p606
         replace q606 := eq_true q606
         refine start_ (n := 18) (S := fun w' => w'.cell? ⟨gb595, 0, none⟩ = some (.int .i64 a0_0) ∧ w'.cell? ⟨gb595, 1, none⟩ = some (.int .i64 a0_1) ∧ w'.cell? ⟨gb595, 2, none⟩ = some (.int .i64 a0_2) ∧ w'.cell? ⟨gb595, 3, none⟩ = some (.int .i64 a0_3) ∧ w'.cell? ⟨gb595, 4, none⟩ = some (.int .i64 a0_4) ∧ w'.cell? ⟨gb595, 5, none⟩ = some (.int .i64 a0_5) ∧ w'.cell? ⟨gb595, 6, none⟩ = some (.int .i64 a0_6) ∧ w'.cell? ⟨gb595, 7, none⟩ = some (.int .i64 a0_7) ∧ w'.cell? ⟨gb595, 8, none⟩ = some (.int .i64 a0_8) ∧ w'.cell? ⟨gb595, 9, none⟩ = some (.int .i64 a0_9) ∧ w'.cell? ⟨gb595, 10, none⟩ = some (.int .i64 a0_10) ∧ w'.cell? ⟨gb602, 0, none⟩ = some (.int .i64 t596) ∧ w'.cell? ⟨gb602, 1, none⟩ = some (.int .i64 t597) ∧ w'.cell? ⟨gb602, 2, none⟩ = some (.int .i64 t598) ∧ w'.cell? ⟨gb602, 3, none⟩ = some (.int .i64 t599) ∧ w'.cell? ⟨gb602, 4, none⟩ = some (.int .i64 t600) ∧ w'.cell? (ad606.add (t605).toNat) = some (.int .i64 (rd l1 t605))) (ds := []) (bq 18 0) (by kernel_rfl) rfl rfl ⟨(blk_cell BK595.out 0).trans rfl, (blk_cell BK595.out 1).trans rfl, (blk_cell BK595.out 2).trans rfl, (blk_cell BK595.out 3).trans rfl, (blk_cell BK595.out 4).trans rfl, (blk_cell BK595.out 5).trans rfl, (blk_cell BK595.out 6).trans rfl, (blk_cell BK595.out 7).trans rfl, (blk_cell BK595.out 8).trans rfl, (blk_cell BK595.out 9).trans rfl, (blk_cell BK595.out 10).trans rfl, (blk_cell BK602.out 0).trans rfl, (blk_cell BK602.out 1).trans rfl, (blk_cell BK602.out 2).trans rfl, (blk_cell BK602.out 3).trans rfl, (blk_cell BK602.out 4).trans rfl, ((HB.out.cell (World.block_lt_of_cell? w _ hw606_0)).trans hw606_0)⟩ (fun hHeld => ?_); refine with_tabW prefix_How.tab8 prefix_How.bits8 (fun HT_ HW_ => ?_)
         generalize wc.drew = w34 at BK595 BK602 HB hx606_0 hHeld ⊢
         apply pu 0 42 (bq 18 1) HT_
         apply pu 2 44 (bq 18 5) HT_
         apply pu 7 49 (bq 18 133) HT_
         apply tu 1 43 (bq 18 135) HT_ HW_ hHeld
         apply tu 3 45 (bq 18 143) HT_ HW_ hHeld
         apply tu 8 50 (bq 18 399) HT_ HW_ hHeld
         refine one_ (i := 4) (N := some 46) (bq 18 415) rfl rfl (one_of HT_.out (by kernel_rfl)) (by decide) (fun K hK => ?_)
         refine gs Try.func21 #[.agg #[.int .i64 a0_0, .int .i64 a0_1, .int .i64 a0_2, .int .i64 a0_3, .int .i64 a0_4, .int .i64 a0_5, .int .i64 a0_6, .int .i64 a0_7, .int .i64 a0_8, .int .i64 a0_9, .int .i64 a0_10], .int .i64 t596] ?_
         with_reducible refine (geom_Parity.calls a0_0 a0_1 a0_2 a0_3 a0_4 a0_5 a0_6 a0_7 a0_8 a0_9 a0_10 t596 t605 _ A24.out).mono ?_
         rintro e w35 ⟨rfl, hb⟩
         refine ⟨_, rfl, ?_⟩
         replace BK595 := bkb BK595 hb
         replace BK602 := bkb BK602 hb
         replace HB := bst HB hb
         try clear hb; try clear hb2; try clear hk; try clear hi
         refine hK.out _ _ ⟨(blk_cell BK595.out 0).trans rfl, (blk_cell BK595.out 1).trans rfl, (blk_cell BK595.out 2).trans rfl, (blk_cell BK595.out 3).trans rfl, (blk_cell BK595.out 4).trans rfl, (blk_cell BK595.out 5).trans rfl, (blk_cell BK595.out 6).trans rfl, (blk_cell BK595.out 7).trans rfl, (blk_cell BK595.out 8).trans rfl, (blk_cell BK595.out 9).trans rfl, (blk_cell BK595.out 10).trans rfl, (blk_cell BK602.out 0).trans rfl, (blk_cell BK602.out 1).trans rfl, (blk_cell BK602.out 2).trans rfl, (blk_cell BK602.out 3).trans rfl, (blk_cell BK602.out 4).trans rfl, ((HB.out.cell (World.block_lt_of_cell? w _ hw606_0)).trans hw606_0)⟩ (fun hHeld => ?_)
         clear hK K
         apply nm 0
         apply pu 5 47 (bq 18 447) HT_
         apply tu 6 48 (bq 18 511) HT_ HW_ hHeld
         apply pu 9 51 (bq 18 1023) HT_
         apply pu 10 52 (bq 18 2047) HT_
         apply po 11 53 (bq 18 4095) HT_
         apply po 12 54 (bq 18 8191) HT_
         apply po 13 55 (bq 18 16383) HT_
         apply po 14 56 (bq 18 32767) HT_
         apply po 15 57 (bq 18 65535) HT_
         apply po 16 58 (bq 18 131071) HT_
         apply pu 17 59 (bq 18 262143) HT_
         refine done_ (done_of HT_.out (by kernel_rfl)) ?_
         try go_wp2
         go_meet
         case rel => exact ⟨_, (false), (by first | rfl | (simp; done) | (simp [*]; done)), H', ⟨by have := HJ6.out; first | omega | exact Nat.le_refl _⟩, ⟨by (with_reducible repeat (first | refine blk_drewN ?_ _ | refine blk_drew ?_ | refine blk_alloc ?_ _)); exact BK595.out⟩, ⟨by (with_reducible repeat (first | refine blk_drewN ?_ _ | refine blk_drew ?_ | refine blk_alloc ?_ _)); exact BK602.out⟩, ⟨bl HB⟩⟩
       ·rw [if_neg c26] at H
        exact absurd H (by simp)
      ·rw [if_neg c25] at H
       exact absurd H (by simp)
     case rest =>
      clear HC21
      try clear c1
      try clear c2
      try clear p2
      try clear c3
      try clear c5
      try clear c6
      try clear p6
      try clear q6
      try clear hx6
      try clear c8
      try clear c12
      try clear c14
      try clear c16
      try clear c17
      try clear c19
      try clear c20
      try clear c20b0
      try clear c20b1
      try clear c21
      try clear c22
      try clear c25
      try clear c25b0
      try clear c26
      try clear c26b0
      try clear c27
      try clear c27b0
      (try clear hcz13_0 hcz13_1 hcz13_2 hcz13_3 hcz13_4)
      (try clear hcz17_0 hcz17_1)
      (try clear hcz17_10)
      (try clear hcz17_2 hcz17_3 hcz17_4 hcz17_5 hcz17_6 hcz17_7 hcz17_8 hcz17_9)
      (try clear hcz23_0 hcz23_1 hcz23_2 hcz23_3 hcz23_4)
      (try clear hcz9_0 hcz9_1)
      (try clear hcz9_10)
      (try clear hcz9_2 hcz9_3 hcz9_4 hcz9_5 hcz9_6 hcz9_7 hcz9_8 hcz9_9)
      (try clear hfz13_0 hfz13_1 hfz13_2 hfz13_3 hfz13_4)
      (try clear hfz17_0 hfz17_1)
      (try clear hfz17_10)
      (try clear hfz17_2 hfz17_3 hfz17_4 hfz17_5 hfz17_6 hfz17_7 hfz17_8 hfz17_9)
      (try clear hfz23_0 hfz23_1 hfz23_2 hfz23_3 hfz23_4)
      (try clear hfz9_0 hfz9_1)
      (try clear hfz9_10)
      (try clear hfz9_2 hfz9_3 hfz9_4 hfz9_5 hfz9_6 hfz9_7 hfz9_8 hfz9_9)
      try clear hx606_0
      try clear p2
      try clear p606
      try clear q606
      obtain ⟨kq, x59_20, rfl, HA, HJ20, BK595, BK602, HB⟩ := hcut
      cases kq with
      | zero => exact absurd HA.out (by simp [prefix_How.j1])
      | succ kj20 =>
       have H := HA.out
       clear HA
       simp only [prefix_How.j1] at H
       by_cases c36 : x59_20 = true
       ·subst c36
        have H1 : (some (2, 0)) = some (r1, r2) := by rw [if_pos rfl] at H; exact H
        clear H
        have H := H1
        clear H1
        simp only [Option.some.injEq, Prod.mk.injEq] at H
        obtain ⟨rfl, rfl⟩ := H
        go_wp2
        go_ret2
        exact ⟨by first | rfl | (simp [errW_none, errW_some] <;> rfl) | (simp [*, errW_none, errW_some] <;> rfl), bl HB⟩
       ·replace c36 := Bool.eq_false_iff.mpr c36
        subst c36
        have H1 : (prefix_How.l0 kj20 l1 l3 a4 (wrap64 ((l3.length : Int) - 1)) a0_0 a0_1 a0_2 a0_3 a0_4 a0_5 a0_6 a0_7 a0_8 a0_9 a0_10 t596 t597 t598 t599 t600) = some (r1, r2) := by rw [if_neg (show ¬ (false = true) by decide)] at H; exact H
        clear H
        have H := H1
        clear H1
        have H' := Aside0.mk H
        clear H
        go_wp2
        go_loopg [14] kj20 (fun kq v14 w' => ∃ (x14_3 : Int), v14 = .int .i64 x14_3 ∧ Aside0 (prefix_How.l0 kq l1 l3 a4 x14_3 a0_0 a0_1 a0_2 a0_3 a0_4 a0_5 a0_6 a0_7 a0_8 a0_9 a0_10 t596 t597 t598 t599 t600 = some (r1, r2)) ∧ Aside0 (kq ≤ kj20) ∧ Aside0 (w'.heap[gb595]? = some (.cells #[.int .i64 a0_0, .int .i64 a0_1, .int .i64 a0_2, .int .i64 a0_3, .int .i64 a0_4, .int .i64 a0_5, .int .i64 a0_6, .int .i64 a0_7, .int .i64 a0_8, .int .i64 a0_9, .int .i64 a0_10] 23 (0, 0))) ∧ Aside0 (w'.heap[gb602]? = some (.cells #[.int .i64 t596, .int .i64 t597, .int .i64 t598, .int .i64 t599, .int .i64 t600] 25 (0, 0))) ∧ Aside0 (Below w.heap.size w w'))
        case atStart => exact ⟨(wrap64 ((l3.length : Int) - 1)), (by first | rfl | (simp; done) | (simp [*]; done)), H', ⟨Nat.le_refl _⟩, ⟨by (with_reducible repeat (first | refine blk_drewN ?_ _ | refine blk_drew ?_ | refine blk_alloc ?_ _)); exact BK595.out⟩, ⟨by (with_reducible repeat (first | refine blk_drewN ?_ _ | refine blk_drew ?_ | refine blk_alloc ?_ _)); exact BK602.out⟩, ⟨bl HB⟩⟩
        case round =>
         clear H'
         try clear c1
         try clear c2
         try clear p2
         try clear c3
         try clear c5
         try clear c6
         try clear p6
         try clear q6
         try clear hx6
         try clear c8
         try clear c12
         try clear c14
         try clear c16
         try clear c17
         try clear c19
         try clear c20
         try clear c20b0
         try clear c20b1
         try clear c21
         try clear c22
         try clear c25
         try clear c25b0
         try clear c26
         try clear c26b0
         try clear c27
         try clear c27b0
         try clear c36
         (try clear hcz13_0 hcz13_1 hcz13_2 hcz13_3 hcz13_4)
         (try clear hcz17_0 hcz17_1)
         (try clear hcz17_10)
         (try clear hcz17_2 hcz17_3 hcz17_4 hcz17_5 hcz17_6 hcz17_7 hcz17_8 hcz17_9)
         (try clear hcz23_0 hcz23_1 hcz23_2 hcz23_3 hcz23_4)
         (try clear hcz9_0 hcz9_1)
         (try clear hcz9_10)
         (try clear hcz9_2 hcz9_3 hcz9_4 hcz9_5 hcz9_6 hcz9_7 hcz9_8 hcz9_9)
         (try clear hfz13_0 hfz13_1 hfz13_2 hfz13_3 hfz13_4)
         (try clear hfz17_0 hfz17_1)
         (try clear hfz17_10)
         (try clear hfz17_2 hfz17_3 hfz17_4 hfz17_5 hfz17_6 hfz17_7 hfz17_8 hfz17_9)
         (try clear hfz23_0 hfz23_1 hfz23_2 hfz23_3 hfz23_4)
         (try clear hfz9_0 hfz9_1)
         (try clear hfz9_10)
         (try clear hfz9_2 hfz9_3 hfz9_4 hfz9_5 hfz9_6 hfz9_7 hfz9_8 hfz9_9)
         try clear hx606_0
         try clear p2
         try clear p6
         try clear p606
         try clear q6
         try clear q606
         obtain ⟨x14_3, rfl, HA, HK3, BK595, BK602, HB⟩ := hrel
         cases gk with
         | zero => exact absurd HA.out (by simp [prefix_How.l0])
         | succ k3 =>
          have H := HA.out
          clear HA
          simp only [prefix_How.l0] at H
          by_cases c37 : x14_3 ≥ 0
          ·rw [if_pos c37] at H
           have c37b0 : decide (0 ≤ x14_3) = true := decide_eq_true c37
           clear c37
           by_cases c38 : 0 ≤ x14_3
           ·rw [if_pos c38] at H
            have c38b0 : decide (0 ≤ x14_3) = true := decide_eq_true c38
            clear c38
            by_cases c39 : x14_3 < (l3.length : Int)
            ·rw [if_pos c39] at H
             have c39b0 : decide (x14_3 < (l3.length : Int)) = true := decide_eq_true c39
             clear c39
             by_cases c40 : ((rd_T71 l3 x14_3).f0) > a4
             ·rw [if_pos c40] at H
              have c40b0 : decide (a4 < ((rd_T71 l3 x14_3).f0)) = true := decide_eq_true c40
              clear c40
              replace H := Option.bind_eq_some_iff.mp H
              obtain ⟨t610, A410, H⟩ := H
              replace H : (if t610 = 0 then (none) else (if (wrap64 (Int.tdiv (wrap64 (((rd_T71 l3 x14_3).f0) - 1)) t610)) = t596 then ((prefix_has.f k3 a0_0 a0_1 a0_2 a0_3 a0_4 a0_5 a0_6 a0_7 a0_8 a0_9 a0_10 l1 t596 t597 t598 t599 t600 ((rd_T71 l3 x14_3).f0)).bind fun t611 => (if t611 = true then (some (3, x14_3)) else (prefix_How.l0 k3 l1 l3 a4 (wrap64 (x14_3 - 1)) a0_0 a0_1 a0_2 a0_3 a0_4 a0_5 a0_6 a0_7 a0_8 a0_9 a0_10 t596 t597 t598 t599 t600))) else (prefix_How.l0 k3 l1 l3 a4 (wrap64 (x14_3 - 1)) a0_0 a0_1 a0_2 a0_3 a0_4 a0_5 a0_6 a0_7 a0_8 a0_9 a0_10 t596 t597 t598 t599 t600))) = some (r1, r2) := H
              have A41 := Aside0.mk A410
              clear A410
              by_cases c42 : t610 = 0
              ·rw [if_pos c42] at H
               exact absurd H (by simp)
              ·rw [if_neg c42] at H
               have c42b0 : (t610 == 0) = false := beq_eq_false_iff_ne.mpr c42
               have c42b1 : (t610 != 0) = true := bne_iff_ne.mpr c42
               by_cases c43 : (wrap64 (Int.tdiv (wrap64 (((rd_T71 l3 x14_3).f0) - 1)) t610)) = t596
               ·rw [if_pos c43] at H
                have c43b0 : ((wrap64 (Int.tdiv (wrap64 (((rd_T71 l3 x14_3).f0) - 1)) t610)) == t596) = true := beq_iff_eq.mpr c43
                have c43b1 : ((wrap64 (Int.tdiv (wrap64 (((rd_T71 l3 x14_3).f0) - 1)) t610)) != t596) = false := bne_eq_false_iff_eq.mpr c43
                clear c43
                replace H := Option.bind_eq_some_iff.mp H
                obtain ⟨t611, A440, H⟩ := H
                replace H : (if t611 = true then (some (3, x14_3)) else (prefix_How.l0 k3 l1 l3 a4 (wrap64 (x14_3 - 1)) a0_0 a0_1 a0_2 a0_3 a0_4 a0_5 a0_6 a0_7 a0_8 a0_9 a0_10 t596 t597 t598 t599 t600)) = some (r1, r2) := H
                have A44 := Aside0.mk A440
                clear A440
                by_cases c45 : t611 = true
                ·subst c45
                 have H1 : (some (3, x14_3)) = some (r1, r2) := by rw [if_pos rfl] at H; exact H
                 clear H
                 have H := H1
                 clear H1
                 simp only [Option.some.injEq, Prod.mk.injEq] at H
                 obtain ⟨rfl, rfl⟩ := H
                 have p609 : 0 ≤ (x14_3 : Int) := of_decide_eq_true (by first | (with_reducible assumption) | assumption)
                 have q609 : x14_3 < (l3.length : Int) := of_decide_eq_true (by first | (with_reducible assumption) | assumption)
                 obtain ⟨ad609, A609_1, c609_1, e609, hx609_0, hx609_1, hl609_1, hi609_1⟩ := at_T71 HR3.out x14_3 p609 q609
                 cases e609
                 replace hx609_0 := (HB.out.cell (World.block_lt_of_cell? w _ hx609_0)).trans hx609_0
                 replace hx609_1 := (HB.out.cell (World.block_lt_of_cell? w _ hx609_1)).trans hx609_1
                 have HR609_1 := Aside0.mk hi609_1
                 have HC609_1 := Aside0.mk hl609_1
                 clear hi609_1 hl609_1
                 replace p609 := eq_true p609
                 replace q609 := eq_true q609
                 try go_wp2
                 replace BK595 := Aside0.mk (blk_drew BK595.out)
                 replace BK602 := Aside0.mk (blk_drew BK602.out)
                 replace HB := Aside0.mk (below_drew1 HB.out)
                 refine start_ (n := 20) (S := fun w' => w'.cell? ⟨gb595, 0, none⟩ = some (.int .i64 a0_0) ∧ w'.cell? ⟨gb595, 1, none⟩ = some (.int .i64 a0_1) ∧ w'.cell? ⟨gb595, 2, none⟩ = some (.int .i64 a0_2) ∧ w'.cell? ⟨gb595, 3, none⟩ = some (.int .i64 a0_3) ∧ w'.cell? ⟨gb595, 4, none⟩ = some (.int .i64 a0_4) ∧ w'.cell? ⟨gb595, 5, none⟩ = some (.int .i64 a0_5) ∧ w'.cell? ⟨gb595, 6, none⟩ = some (.int .i64 a0_6) ∧ w'.cell? ⟨gb595, 7, none⟩ = some (.int .i64 a0_7) ∧ w'.cell? ⟨gb595, 8, none⟩ = some (.int .i64 a0_8) ∧ w'.cell? ⟨gb595, 9, none⟩ = some (.int .i64 a0_9) ∧ w'.cell? ⟨gb595, 10, none⟩ = some (.int .i64 a0_10) ∧ w'.cell? ⟨gb602, 0, none⟩ = some (.int .i64 t596) ∧ w'.cell? ⟨gb602, 1, none⟩ = some (.int .i64 t597) ∧ w'.cell? ⟨gb602, 2, none⟩ = some (.int .i64 t598) ∧ w'.cell? ⟨gb602, 3, none⟩ = some (.int .i64 t599) ∧ w'.cell? ⟨gb602, 4, none⟩ = some (.int .i64 t600)) (ds := []) (bq 20 0) (by kernel_rfl) rfl rfl ⟨(blk_cell BK595.out 0).trans rfl, (blk_cell BK595.out 1).trans rfl, (blk_cell BK595.out 2).trans rfl, (blk_cell BK595.out 3).trans rfl, (blk_cell BK595.out 4).trans rfl, (blk_cell BK595.out 5).trans rfl, (blk_cell BK595.out 6).trans rfl, (blk_cell BK595.out 7).trans rfl, (blk_cell BK595.out 8).trans rfl, (blk_cell BK595.out 9).trans rfl, (blk_cell BK595.out 10).trans rfl, (blk_cell BK602.out 0).trans rfl, (blk_cell BK602.out 1).trans rfl, (blk_cell BK602.out 2).trans rfl, (blk_cell BK602.out 3).trans rfl, (blk_cell BK602.out 4).trans rfl⟩ (fun hHeld => ?_); refine with_tabW prefix_How.tab14 prefix_How.bits14 (fun HT_ HW_ => ?_)
                 generalize wr.drew = w46 at BK595 BK602 HB hHeld ⊢
                 apply pu 0 72 (bq 20 1) HT_
                 apply pu 1 73 (bq 20 3) HT_
                 apply pu 2 74 (bq 20 7) HT_
                 apply pu 3 75 (bq 20 15) HT_
                 apply pu 4 76 (bq 20 31) HT_
                 apply pu 5 77 (bq 20 63) HT_
                 apply pu 9 81 (bq 20 575) HT_
                 apply tu 6 78 (bq 20 639) HT_ HW_ hHeld
                 apply tu 10 82 (bq 20 1663) HT_ HW_ hHeld
                 refine one_ (i := 7) (N := some 79) (bq 20 1791) rfl rfl (one_of HT_.out (by kernel_rfl)) (by decide) (fun K hK => ?_)
                 refine gs Try.func69 #[.agg #[.int .i64 a0_0, .int .i64 a0_1, .int .i64 a0_2, .int .i64 a0_3, .int .i64 a0_4, .int .i64 a0_5, .int .i64 a0_6, .int .i64 a0_7, .int .i64 a0_8, .int .i64 a0_9, .int .i64 a0_10]] ?_
                 with_reducible refine (conf_Row.calls a0_0 a0_1 a0_2 a0_3 a0_4 a0_5 a0_6 a0_7 a0_8 a0_9 a0_10 t610 _ A41.out).mono ?_
                 rintro e w47 ⟨rfl, hb⟩
                 refine ⟨_, rfl, ?_⟩
                 replace BK595 := bkb BK595 hb
                 replace BK602 := bkb BK602 hb
                 replace HB := bst HB hb
                 try clear hb; try clear hb2; try clear hk; try clear hi
                 refine hK.out _ _ sc (fun hHeld => ?_)
                 clear hK K
                 apply nm 0
                 apply pu 8 80 (bq 20 2047) HT_
                 apply pu 11 83 (bq 20 4095) HT_
                 apply pu 12 84 (bq 20 8191) HT_
                 apply pu 13 85 (bq 20 16383) HT_
                 apply pu 15 87 (bq 20 49151) HT_
                 apply pu 17 89 (bq 20 180223) HT_
                 apply tu 14 86 (bq 20 196607) HT_ HW_ hHeld
                 apply tu 16 88 (bq 20 262143) HT_ HW_ hHeld
                 refine one_ (i := 18) (N := some 90) (bq 20 524287) rfl rfl (one_of HT_.out (by kernel_rfl)) (by decide) (fun K hK => ?_)
                 refine gs Try.func86 #[.agg #[.int .i64 a0_0, .int .i64 a0_1, .int .i64 a0_2, .int .i64 a0_3, .int .i64 a0_4, .int .i64 a0_5, .int .i64 a0_6, .int .i64 a0_7, .int .i64 a0_8, .int .i64 a0_9, .int .i64 a0_10], .slice A1 l1.length c1, .agg #[.int .i64 t596, .int .i64 t597, .int .i64 t598, .int .i64 t599, .int .i64 t600], .int .i64 ((rd_T71 l3 x14_3).f0)] ?_
                 with_reducible refine (prefix_has.calls k3 a0_0 a0_1 a0_2 a0_3 a0_4 a0_5 a0_6 a0_7 a0_8 a0_9 a0_10 _ _ l1 t596 t597 t598 t599 t600 ((rd_T71 l3 x14_3).f0) true _ ?side1 ?side2 A44.out).mono ?_
                 (case side1 => repeat (first | exact (Kd.C_below HR1.out HB.out) | (with_reducible refine Kd.C_alloc ?_ _) | (with_reducible refine Kd.C_drewN ?_ _) | (with_reducible refine Kd.C_drew ?_)))
                 (case side2 => exact HC1.out)
                 rintro e w48 ⟨rfl, hb⟩
                 refine ⟨_, rfl, ?_⟩
                 replace BK595 := bkb BK595 hb
                 replace BK602 := bkb BK602 hb
                 replace HB := bst HB hb
                 try clear hb; try clear hb2; try clear hk; try clear hi
                 refine hK.out _ _ sc (fun hHeld => ?_)
                 clear hK K
                 apply nm 0
                 apply pu 19 91 (bq 20 1048575) HT_
                 refine done_ (done_of HT_.out (by kernel_rfl)) ?_
                 try go_wp2
                 go_ret2
                 exact ⟨by first | rfl | (simp [errW_none, errW_some] <;> rfl) | (simp [*, errW_none, errW_some] <;> rfl), bl HB⟩
                ·replace c45 := Bool.eq_false_iff.mpr c45
                 subst c45
                 have H1 : (prefix_How.l0 k3 l1 l3 a4 (wrap64 (x14_3 - 1)) a0_0 a0_1 a0_2 a0_3 a0_4 a0_5 a0_6 a0_7 a0_8 a0_9 a0_10 t596 t597 t598 t599 t600) = some (r1, r2) := by rw [if_neg (show ¬ (false = true) by decide)] at H; exact H
                 clear H
                 have H := H1
                 clear H1
                 have H' := Aside0.mk H
                 clear H
                 have p609 : 0 ≤ (x14_3 : Int) := of_decide_eq_true (by first | (with_reducible assumption) | assumption)
                 have q609 : x14_3 < (l3.length : Int) := of_decide_eq_true (by first | (with_reducible assumption) | assumption)
                 obtain ⟨ad609, A609_1, c609_1, e609, hx609_0, hx609_1, hl609_1, hi609_1⟩ := at_T71 HR3.out x14_3 p609 q609
                 cases e609
                 replace hx609_0 := (HB.out.cell (World.block_lt_of_cell? w _ hx609_0)).trans hx609_0
                 replace hx609_1 := (HB.out.cell (World.block_lt_of_cell? w _ hx609_1)).trans hx609_1
                 have HR609_1 := Aside0.mk hi609_1
                 have HC609_1 := Aside0.mk hl609_1
                 clear hi609_1 hl609_1
                 replace p609 := eq_true p609
                 replace q609 := eq_true q609
                 try go_wp2
                 replace BK595 := Aside0.mk (blk_drew BK595.out)
                 replace BK602 := Aside0.mk (blk_drew BK602.out)
                 replace HB := Aside0.mk (below_drew1 HB.out)
                 refine start_ (n := 20) (S := fun w' => w'.cell? ⟨gb595, 0, none⟩ = some (.int .i64 a0_0) ∧ w'.cell? ⟨gb595, 1, none⟩ = some (.int .i64 a0_1) ∧ w'.cell? ⟨gb595, 2, none⟩ = some (.int .i64 a0_2) ∧ w'.cell? ⟨gb595, 3, none⟩ = some (.int .i64 a0_3) ∧ w'.cell? ⟨gb595, 4, none⟩ = some (.int .i64 a0_4) ∧ w'.cell? ⟨gb595, 5, none⟩ = some (.int .i64 a0_5) ∧ w'.cell? ⟨gb595, 6, none⟩ = some (.int .i64 a0_6) ∧ w'.cell? ⟨gb595, 7, none⟩ = some (.int .i64 a0_7) ∧ w'.cell? ⟨gb595, 8, none⟩ = some (.int .i64 a0_8) ∧ w'.cell? ⟨gb595, 9, none⟩ = some (.int .i64 a0_9) ∧ w'.cell? ⟨gb595, 10, none⟩ = some (.int .i64 a0_10) ∧ w'.cell? ⟨gb602, 0, none⟩ = some (.int .i64 t596) ∧ w'.cell? ⟨gb602, 1, none⟩ = some (.int .i64 t597) ∧ w'.cell? ⟨gb602, 2, none⟩ = some (.int .i64 t598) ∧ w'.cell? ⟨gb602, 3, none⟩ = some (.int .i64 t599) ∧ w'.cell? ⟨gb602, 4, none⟩ = some (.int .i64 t600)) (ds := []) (bq 20 0) (by kernel_rfl) rfl rfl ⟨(blk_cell BK595.out 0).trans rfl, (blk_cell BK595.out 1).trans rfl, (blk_cell BK595.out 2).trans rfl, (blk_cell BK595.out 3).trans rfl, (blk_cell BK595.out 4).trans rfl, (blk_cell BK595.out 5).trans rfl, (blk_cell BK595.out 6).trans rfl, (blk_cell BK595.out 7).trans rfl, (blk_cell BK595.out 8).trans rfl, (blk_cell BK595.out 9).trans rfl, (blk_cell BK595.out 10).trans rfl, (blk_cell BK602.out 0).trans rfl, (blk_cell BK602.out 1).trans rfl, (blk_cell BK602.out 2).trans rfl, (blk_cell BK602.out 3).trans rfl, (blk_cell BK602.out 4).trans rfl⟩ (fun hHeld => ?_); refine with_tabW prefix_How.tab14 prefix_How.bits14 (fun HT_ HW_ => ?_)
                 generalize wr.drew = w49 at BK595 BK602 HB hHeld ⊢
                 apply pu 0 72 (bq 20 1) HT_
                 apply pu 1 73 (bq 20 3) HT_
                 apply pu 2 74 (bq 20 7) HT_
                 apply pu 3 75 (bq 20 15) HT_
                 apply pu 4 76 (bq 20 31) HT_
                 apply pu 5 77 (bq 20 63) HT_
                 apply pu 9 81 (bq 20 575) HT_
                 apply tu 6 78 (bq 20 639) HT_ HW_ hHeld
                 apply tu 10 82 (bq 20 1663) HT_ HW_ hHeld
                 refine one_ (i := 7) (N := some 79) (bq 20 1791) rfl rfl (one_of HT_.out (by kernel_rfl)) (by decide) (fun K hK => ?_)
                 refine gs Try.func69 #[.agg #[.int .i64 a0_0, .int .i64 a0_1, .int .i64 a0_2, .int .i64 a0_3, .int .i64 a0_4, .int .i64 a0_5, .int .i64 a0_6, .int .i64 a0_7, .int .i64 a0_8, .int .i64 a0_9, .int .i64 a0_10]] ?_
                 with_reducible refine (conf_Row.calls a0_0 a0_1 a0_2 a0_3 a0_4 a0_5 a0_6 a0_7 a0_8 a0_9 a0_10 t610 _ A41.out).mono ?_
                 rintro e w50 ⟨rfl, hb⟩
                 refine ⟨_, rfl, ?_⟩
                 replace BK595 := bkb BK595 hb
                 replace BK602 := bkb BK602 hb
                 replace HB := bst HB hb
                 try clear hb; try clear hb2; try clear hk; try clear hi
                 refine hK.out _ _ sc (fun hHeld => ?_)
                 clear hK K
                 apply nm 0
                 apply pu 8 80 (bq 20 2047) HT_
                 apply pu 11 83 (bq 20 4095) HT_
                 apply pu 12 84 (bq 20 8191) HT_
                 apply pu 13 85 (bq 20 16383) HT_
                 apply pu 15 87 (bq 20 49151) HT_
                 apply pu 17 89 (bq 20 180223) HT_
                 apply tu 14 86 (bq 20 196607) HT_ HW_ hHeld
                 apply tu 16 88 (bq 20 262143) HT_ HW_ hHeld
                 refine one_ (i := 18) (N := some 90) (bq 20 524287) rfl rfl (one_of HT_.out (by kernel_rfl)) (by decide) (fun K hK => ?_)
                 refine gs Try.func86 #[.agg #[.int .i64 a0_0, .int .i64 a0_1, .int .i64 a0_2, .int .i64 a0_3, .int .i64 a0_4, .int .i64 a0_5, .int .i64 a0_6, .int .i64 a0_7, .int .i64 a0_8, .int .i64 a0_9, .int .i64 a0_10], .slice A1 l1.length c1, .agg #[.int .i64 t596, .int .i64 t597, .int .i64 t598, .int .i64 t599, .int .i64 t600], .int .i64 ((rd_T71 l3 x14_3).f0)] ?_
                 with_reducible refine (prefix_has.calls k3 a0_0 a0_1 a0_2 a0_3 a0_4 a0_5 a0_6 a0_7 a0_8 a0_9 a0_10 _ _ l1 t596 t597 t598 t599 t600 ((rd_T71 l3 x14_3).f0) false _ ?side1 ?side2 A44.out).mono ?_
                 (case side1 => repeat (first | exact (Kd.C_below HR1.out HB.out) | (with_reducible refine Kd.C_alloc ?_ _) | (with_reducible refine Kd.C_drewN ?_ _) | (with_reducible refine Kd.C_drew ?_)))
                 (case side2 => exact HC1.out)
                 rintro e w51 ⟨rfl, hb⟩
                 refine ⟨_, rfl, ?_⟩
                 replace BK595 := bkb BK595 hb
                 replace BK602 := bkb BK602 hb
                 replace HB := bst HB hb
                 try clear hb; try clear hb2; try clear hk; try clear hi
                 refine hK.out _ _ sc (fun hHeld => ?_)
                 clear hK K
                 apply nm 0
                 apply pu 19 91 (bq 20 1048575) HT_
                 refine done_ (done_of HT_.out (by kernel_rfl)) ?_
                 try go_wp2
                 go_roundg k3
                 case measure => have := HJ6.out; have := HJ20.out; have := HK3.out; omega
                 case rel => exact ⟨(wrap64 (x14_3 - 1)), (by first | rfl | (simp; done) | (simp [*]; done)), H', ⟨by have := HJ6.out; have := HJ20.out; have := HK3.out; omega⟩, ⟨by (with_reducible repeat (first | refine blk_drewN ?_ _ | refine blk_drew ?_ | refine blk_alloc ?_ _)); exact BK595.out⟩, ⟨by (with_reducible repeat (first | refine blk_drewN ?_ _ | refine blk_drew ?_ | refine blk_alloc ?_ _)); exact BK602.out⟩, ⟨bl HB⟩⟩
               ·rw [if_neg c43] at H
                have c43b0 : ((wrap64 (Int.tdiv (wrap64 (((rd_T71 l3 x14_3).f0) - 1)) t610)) == t596) = false := beq_eq_false_iff_ne.mpr c43
                have c43b1 : ((wrap64 (Int.tdiv (wrap64 (((rd_T71 l3 x14_3).f0) - 1)) t610)) != t596) = true := bne_iff_ne.mpr c43
                have H' := Aside0.mk H
                clear H
                have p609 : 0 ≤ (x14_3 : Int) := of_decide_eq_true (by first | (with_reducible assumption) | assumption)
                have q609 : x14_3 < (l3.length : Int) := of_decide_eq_true (by first | (with_reducible assumption) | assumption)
                obtain ⟨ad609, A609_1, c609_1, e609, hx609_0, hx609_1, hl609_1, hi609_1⟩ := at_T71 HR3.out x14_3 p609 q609
                cases e609
                replace hx609_0 := (HB.out.cell (World.block_lt_of_cell? w _ hx609_0)).trans hx609_0
                replace hx609_1 := (HB.out.cell (World.block_lt_of_cell? w _ hx609_1)).trans hx609_1
                have HR609_1 := Aside0.mk hi609_1
                have HC609_1 := Aside0.mk hl609_1
                clear hi609_1 hl609_1
                replace p609 := eq_true p609
                replace q609 := eq_true q609
                try go_wp2
                replace BK595 := Aside0.mk (blk_drew BK595.out)
                replace BK602 := Aside0.mk (blk_drew BK602.out)
                replace HB := Aside0.mk (below_drew1 HB.out)
                refine start_ (n := 20) (S := fun w' => w'.cell? ⟨gb595, 0, none⟩ = some (.int .i64 a0_0) ∧ w'.cell? ⟨gb595, 1, none⟩ = some (.int .i64 a0_1) ∧ w'.cell? ⟨gb595, 2, none⟩ = some (.int .i64 a0_2) ∧ w'.cell? ⟨gb595, 3, none⟩ = some (.int .i64 a0_3) ∧ w'.cell? ⟨gb595, 4, none⟩ = some (.int .i64 a0_4) ∧ w'.cell? ⟨gb595, 5, none⟩ = some (.int .i64 a0_5) ∧ w'.cell? ⟨gb595, 6, none⟩ = some (.int .i64 a0_6) ∧ w'.cell? ⟨gb595, 7, none⟩ = some (.int .i64 a0_7) ∧ w'.cell? ⟨gb595, 8, none⟩ = some (.int .i64 a0_8) ∧ w'.cell? ⟨gb595, 9, none⟩ = some (.int .i64 a0_9) ∧ w'.cell? ⟨gb595, 10, none⟩ = some (.int .i64 a0_10) ∧ w'.cell? ⟨gb602, 0, none⟩ = some (.int .i64 t596) ∧ w'.cell? ⟨gb602, 1, none⟩ = some (.int .i64 t597) ∧ w'.cell? ⟨gb602, 2, none⟩ = some (.int .i64 t598) ∧ w'.cell? ⟨gb602, 3, none⟩ = some (.int .i64 t599) ∧ w'.cell? ⟨gb602, 4, none⟩ = some (.int .i64 t600)) (ds := []) (bq 20 0) (by kernel_rfl) rfl rfl ⟨(blk_cell BK595.out 0).trans rfl, (blk_cell BK595.out 1).trans rfl, (blk_cell BK595.out 2).trans rfl, (blk_cell BK595.out 3).trans rfl, (blk_cell BK595.out 4).trans rfl, (blk_cell BK595.out 5).trans rfl, (blk_cell BK595.out 6).trans rfl, (blk_cell BK595.out 7).trans rfl, (blk_cell BK595.out 8).trans rfl, (blk_cell BK595.out 9).trans rfl, (blk_cell BK595.out 10).trans rfl, (blk_cell BK602.out 0).trans rfl, (blk_cell BK602.out 1).trans rfl, (blk_cell BK602.out 2).trans rfl, (blk_cell BK602.out 3).trans rfl, (blk_cell BK602.out 4).trans rfl⟩ (fun hHeld => ?_); refine with_tabW prefix_How.tab14 prefix_How.bits14 (fun HT_ HW_ => ?_)
                generalize wr.drew = w52 at BK595 BK602 HB hHeld ⊢
                apply pu 0 72 (bq 20 1) HT_
                apply pu 1 73 (bq 20 3) HT_
                apply pu 2 74 (bq 20 7) HT_
                apply pu 3 75 (bq 20 15) HT_
                apply pu 4 76 (bq 20 31) HT_
                apply pu 5 77 (bq 20 63) HT_
                apply pu 9 81 (bq 20 575) HT_
                apply tu 6 78 (bq 20 639) HT_ HW_ hHeld
                apply tu 10 82 (bq 20 1663) HT_ HW_ hHeld
                refine one_ (i := 7) (N := some 79) (bq 20 1791) rfl rfl (one_of HT_.out (by kernel_rfl)) (by decide) (fun K hK => ?_)
                refine gs Try.func69 #[.agg #[.int .i64 a0_0, .int .i64 a0_1, .int .i64 a0_2, .int .i64 a0_3, .int .i64 a0_4, .int .i64 a0_5, .int .i64 a0_6, .int .i64 a0_7, .int .i64 a0_8, .int .i64 a0_9, .int .i64 a0_10]] ?_
                with_reducible refine (conf_Row.calls a0_0 a0_1 a0_2 a0_3 a0_4 a0_5 a0_6 a0_7 a0_8 a0_9 a0_10 t610 _ A41.out).mono ?_
                rintro e w53 ⟨rfl, hb⟩
                refine ⟨_, rfl, ?_⟩
                replace BK595 := bkb BK595 hb
                replace BK602 := bkb BK602 hb
                replace HB := bst HB hb
                try clear hb; try clear hb2; try clear hk; try clear hi
                refine hK.out _ _ sc (fun hHeld => ?_)
                clear hK K
                apply nm 0
                apply pu 8 80 (bq 20 2047) HT_
                apply pu 11 83 (bq 20 4095) HT_
                apply pu 12 84 (bq 20 8191) HT_
                apply pu 13 85 (bq 20 16383) HT_
                apply po 14 86 (bq 20 32767) HT_
                apply po 15 87 (bq 20 65535) HT_
                apply po 16 88 (bq 20 131071) HT_
                apply po 17 89 (bq 20 262143) HT_
                apply po 18 90 (bq 20 524287) HT_
                apply pu 19 91 (bq 20 1048575) HT_
                refine done_ (done_of HT_.out (by kernel_rfl)) ?_
                try go_wp2
                go_roundg k3
                case measure => have := HJ6.out; have := HJ20.out; have := HK3.out; omega
                case rel => exact ⟨(wrap64 (x14_3 - 1)), (by first | rfl | (simp; done) | (simp [*]; done)), H', ⟨by have := HJ6.out; have := HJ20.out; have := HK3.out; omega⟩, ⟨by (with_reducible repeat (first | refine blk_drewN ?_ _ | refine blk_drew ?_ | refine blk_alloc ?_ _)); exact BK595.out⟩, ⟨by (with_reducible repeat (first | refine blk_drewN ?_ _ | refine blk_drew ?_ | refine blk_alloc ?_ _)); exact BK602.out⟩, ⟨bl HB⟩⟩
             ·rw [if_neg c40] at H
              have c40b0 : decide (a4 < ((rd_T71 l3 x14_3).f0)) = false := decide_eq_false c40
              clear c40
              have H' := Aside0.mk H
              clear H
              have p609 : 0 ≤ (x14_3 : Int) := of_decide_eq_true (by first | (with_reducible assumption) | assumption)
              have q609 : x14_3 < (l3.length : Int) := of_decide_eq_true (by first | (with_reducible assumption) | assumption)
              obtain ⟨ad609, A609_1, c609_1, e609, hx609_0, hx609_1, hl609_1, hi609_1⟩ := at_T71 HR3.out x14_3 p609 q609
              cases e609
              replace hx609_0 := (HB.out.cell (World.block_lt_of_cell? w _ hx609_0)).trans hx609_0
              replace hx609_1 := (HB.out.cell (World.block_lt_of_cell? w _ hx609_1)).trans hx609_1
              have HR609_1 := Aside0.mk hi609_1
              have HC609_1 := Aside0.mk hl609_1
              clear hi609_1 hl609_1
              replace p609 := eq_true p609
              replace q609 := eq_true q609
              try go_wp2
              replace BK595 := Aside0.mk (blk_drew BK595.out)
              replace BK602 := Aside0.mk (blk_drew BK602.out)
              replace HB := Aside0.mk (below_drew1 HB.out)
              refine start_ (n := 20) (S := fun w' => True) (ds := []) (bq 20 0) (by kernel_rfl) rfl rfl trivial (fun hHeld => ?_); refine with_tabW prefix_How.tab14 prefix_How.bits14 (fun HT_ HW_ => ?_)
              generalize wr.drew = w54 at BK595 BK602 HB hHeld ⊢
              apply pu 0 72 (bq 20 1) HT_
              apply pu 1 73 (bq 20 3) HT_
              apply pu 2 74 (bq 20 7) HT_
              apply pu 3 75 (bq 20 15) HT_
              apply po 4 76 (bq 20 31) HT_
              apply po 5 77 (bq 20 63) HT_
              apply po 6 78 (bq 20 127) HT_
              apply po 7 79 (bq 20 255) HT_
              apply po 8 80 (bq 20 511) HT_
              apply po 9 81 (bq 20 1023) HT_
              apply po 10 82 (bq 20 2047) HT_
              apply po 11 83 (bq 20 4095) HT_
              apply pu 12 84 (bq 20 8191) HT_
              apply pu 13 85 (bq 20 16383) HT_
              apply po 14 86 (bq 20 32767) HT_
              apply po 15 87 (bq 20 65535) HT_
              apply po 16 88 (bq 20 131071) HT_
              apply po 17 89 (bq 20 262143) HT_
              apply po 18 90 (bq 20 524287) HT_
              apply pu 19 91 (bq 20 1048575) HT_
              refine done_ (done_of HT_.out (by kernel_rfl)) ?_
              try go_wp2
              go_roundg k3
              case measure => have := HJ6.out; have := HJ20.out; have := HK3.out; omega
              case rel => exact ⟨(wrap64 (x14_3 - 1)), (by first | rfl | (simp; done) | (simp [*]; done)), H', ⟨by have := HJ6.out; have := HJ20.out; have := HK3.out; omega⟩, ⟨by (with_reducible repeat (first | refine blk_drewN ?_ _ | refine blk_drew ?_ | refine blk_alloc ?_ _)); exact BK595.out⟩, ⟨by (with_reducible repeat (first | refine blk_drewN ?_ _ | refine blk_drew ?_ | refine blk_alloc ?_ _)); exact BK602.out⟩, ⟨bl HB⟩⟩
            ·rw [if_neg c39] at H
             exact absurd H (by simp)
           ·rw [if_neg c38] at H
            exact absurd H (by simp)
          ·rw [if_neg c37] at H
           have c37b0 : decide (0 ≤ x14_3) = false := decide_eq_false c37
           clear c37
           simp only [Option.some.injEq, Prod.mk.injEq] at H
           obtain ⟨rfl, rfl⟩ := H
           go_wp2
           go_ret2
           exact ⟨by first | rfl | (simp [errW_none, errW_some] <;> rfl) | (simp [*, errW_none, errW_some] <;> rfl), bl HB⟩
    ·rw [if_neg c20] at H
     have c20b0 : (t599 == a2) = false := beq_eq_false_iff_ne.mpr c20
     have c20b1 : (t599 != a2) = true := bne_iff_ne.mpr c20
     by_cases c55 : 0 ≤ t599
     ·rw [if_pos c55] at H
      have c55b0 : decide (0 ≤ t599) = true := decide_eq_true c55
      clear c55
      by_cases c56 : t599 < (l1.length : Int)
      ·rw [if_pos c56] at H
       have c56b0 : decide (t599 < (l1.length : Int)) = true := decide_eq_true c56
       clear c56
       by_cases c57 : (rd l1 t599) > t600
       ·rw [if_pos c57] at H
        have c57b0 : decide (t600 < (rd l1 t599)) = true := decide_eq_true c57
        clear c57
        simp only [Option.some.injEq, Prod.mk.injEq] at H
        obtain ⟨rfl, rfl⟩ := H
        have hnb58 := NB602_595.out
        have hnc58 := NB595_602.out
        obtain ⟨hcz59_0, hcz59_1, hcz59_2, hcz59_3, hcz59_4⟩ := cz5 BK602.out
        obtain ⟨hfz59_0, hfz59_1, hfz59_2, hfz59_3, hfz59_4⟩ := fz5 BK602.out
        try go_wp2
        replace BK595 := Aside0.mk (blk_drew BK595.out)
        replace BK602 := Aside0.mk (blk_drew BK602.out)
        replace HB := Aside0.mk (below_drew1 HB.out)
        have p604 : 0 ≤ (t599 : Int) := of_decide_eq_true (by first | (with_reducible assumption) | assumption)
        have q604 : t599 < (l1.length : Int) := of_decide_eq_true (by first | (with_reducible assumption) | assumption)
        obtain ⟨ad604, e604, hx604_0⟩ := Kd.at_int HR1.out t599 p604 q604
        have hw604_0 := hx604_0
        cases e604
        replace hx604_0 := (HB.out.cell (World.block_lt_of_cell? w _ hx604_0)).trans hx604_0
        replace p604 := eq_true p604
        replace q604 := eq_true q604
        refine start_ (n := 8) (S := fun w' => w'.cell? ⟨gb602, 0, none⟩ = some (.int .i64 t596) ∧ w'.cell? ⟨gb602, 1, none⟩ = some (.int .i64 t597) ∧ w'.cell? ⟨gb602, 2, none⟩ = some (.int .i64 t598) ∧ w'.cell? ⟨gb602, 3, none⟩ = some (.int .i64 t599) ∧ w'.cell? ⟨gb602, 4, none⟩ = some (.int .i64 t600) ∧ w'.cell? (ad604.add (t599).toNat) = some (.int .i64 (rd l1 t599))) (ds := []) (bq 8 0) (by kernel_rfl) rfl rfl ⟨(blk_cell BK602.out 0).trans rfl, (blk_cell BK602.out 1).trans rfl, (blk_cell BK602.out 2).trans rfl, (blk_cell BK602.out 3).trans rfl, (blk_cell BK602.out 4).trans rfl, ((HB.out.cell (World.block_lt_of_cell? w _ hw604_0)).trans hw604_0)⟩ (fun hHeld => ?_); refine with_tabW prefix_How.tab5 prefix_How.bits5 (fun HT_ HW_ => ?_)
        generalize wc.drew = w60 at BK595 BK602 HB hx604_0 hHeld ⊢
        apply pu 0 34 (bq 8 1) HT_
        apply pu 1 35 (bq 8 3) HT_
        apply pu 5 39 (bq 8 35) HT_
        apply tu 2 36 (bq 8 39) HT_ HW_ hHeld
        apply pu 3 37 (bq 8 47) HT_
        apply tu 4 38 (bq 8 63) HT_ HW_ hHeld
        apply tu 6 40 (bq 8 127) HT_ HW_ hHeld
        apply pu 7 41 (bq 8 255) HT_
        refine done_ (done_of HT_.out (by kernel_rfl)) ?_
        try go_wp2
        go_ret2
        exact ⟨by first | rfl | (simp [errW_none, errW_some] <;> rfl) | (simp [*, errW_none, errW_some] <;> rfl), bl HB⟩
       ·rw [if_neg c57] at H
        have c57b0 : decide (t600 < (rd l1 t599)) = false := decide_eq_false c57
        clear c57
        simp only [Option.some.injEq, Prod.mk.injEq] at H
        obtain ⟨rfl, rfl⟩ := H
        have hnb61 := NB602_595.out
        have hnc61 := NB595_602.out
        obtain ⟨hcz62_0, hcz62_1, hcz62_2, hcz62_3, hcz62_4⟩ := cz5 BK602.out
        obtain ⟨hfz62_0, hfz62_1, hfz62_2, hfz62_3, hfz62_4⟩ := fz5 BK602.out
        try go_wp2
        replace BK595 := Aside0.mk (blk_drew BK595.out)
        replace BK602 := Aside0.mk (blk_drew BK602.out)
        replace HB := Aside0.mk (below_drew1 HB.out)
        have p604 : 0 ≤ (t599 : Int) := of_decide_eq_true (by first | (with_reducible assumption) | assumption)
        have q604 : t599 < (l1.length : Int) := of_decide_eq_true (by first | (with_reducible assumption) | assumption)
        obtain ⟨ad604, e604, hx604_0⟩ := Kd.at_int HR1.out t599 p604 q604
        have hw604_0 := hx604_0
        cases e604
        replace hx604_0 := (HB.out.cell (World.block_lt_of_cell? w _ hx604_0)).trans hx604_0
        replace p604 := eq_true p604
        replace q604 := eq_true q604
        refine start_ (n := 8) (S := fun w' => w'.cell? ⟨gb602, 0, none⟩ = some (.int .i64 t596) ∧ w'.cell? ⟨gb602, 1, none⟩ = some (.int .i64 t597) ∧ w'.cell? ⟨gb602, 2, none⟩ = some (.int .i64 t598) ∧ w'.cell? ⟨gb602, 3, none⟩ = some (.int .i64 t599) ∧ w'.cell? ⟨gb602, 4, none⟩ = some (.int .i64 t600) ∧ w'.cell? (ad604.add (t599).toNat) = some (.int .i64 (rd l1 t599))) (ds := []) (bq 8 0) (by kernel_rfl) rfl rfl ⟨(blk_cell BK602.out 0).trans rfl, (blk_cell BK602.out 1).trans rfl, (blk_cell BK602.out 2).trans rfl, (blk_cell BK602.out 3).trans rfl, (blk_cell BK602.out 4).trans rfl, ((HB.out.cell (World.block_lt_of_cell? w _ hw604_0)).trans hw604_0)⟩ (fun hHeld => ?_); refine with_tabW prefix_How.tab5 prefix_How.bits5 (fun HT_ HW_ => ?_)
        generalize wc.drew = w63 at BK595 BK602 HB hx604_0 hHeld ⊢
        apply pu 0 34 (bq 8 1) HT_
        apply pu 1 35 (bq 8 3) HT_
        apply pu 5 39 (bq 8 35) HT_
        apply tu 2 36 (bq 8 39) HT_ HW_ hHeld
        apply pu 3 37 (bq 8 47) HT_
        apply tu 4 38 (bq 8 63) HT_ HW_ hHeld
        apply tu 6 40 (bq 8 127) HT_ HW_ hHeld
        apply pu 7 41 (bq 8 255) HT_
        refine done_ (done_of HT_.out (by kernel_rfl)) ?_
        try go_wp2
        go_ret2
        exact ⟨by first | rfl | (simp [errW_none, errW_some] <;> rfl) | (simp [*, errW_none, errW_some] <;> rfl), bl HB⟩
      ·rw [if_neg c56] at H
       exact absurd H (by simp)
     ·rw [if_neg c55] at H
      exact absurd H (by simp)

end Go.Proofs.Ytekihhbihnmakaa.PA
