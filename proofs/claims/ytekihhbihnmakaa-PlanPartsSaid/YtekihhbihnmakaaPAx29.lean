/- Printed by the kit's print over stand-ins for some functions (xprint.py), with contracts of my own in their place. -/
import Derived.Test.YtekihhbihnmakaaPAx0
import Derived.Test.YtekihhbihnmakaaPAx20
import Derived.Test.YtekihhbihnmakaaPAx22
import Derived.Test.YtekihhbihnmakaaPAx23
import Derived.Test.YtekihhbihnmakaaPAx26
import Derived.Test.YtekihhbihnmakaaPAx27
import Derived.Test.YtekihhbihnmakaaPAx28
import Derived.Test.YtekihhbihnmakaaPAx901
namespace Go.Proofs.Ytekihhbihnmakaa.PA
open Go.RowKit Go.Proofs.YtekihhbihnmakaaW.PrintWords Go.Proofs.YtekihhbihnmakaaW.PrintLast
set_option linter.unusedVariables false
set_option linter.unusedSimpArgs false

/-! ### revetmentlaw09_PlanParts: function 7 -/
mutual
def revetmentlaw09_PlanParts.j0 : Nat → Int → Int → Bool → Int → Int → Int → Int → Int → Int → Int → Int → Int → Int → Int → Option (Bool)
  | 0, _, _, _, _, _, _, _, _, _, _, _, _, _, _ => none
  | k + 1, x1, x2, x30, x342000, x342001, x342002, x342003, x342004, x342005, x342006, x342007, x342008, x342009, x342010 => if x30 = true then ((revetmentlaw09_live.f).bind fun t344 => (some t344)) else ((plan_Steps.f x342000 x342001 x342002 x342003 x342004 x342005 x342006 x342007 x342008 x342009 x342010 0 x1).bind fun t345 => ((some (([] : List (S53)) : List (S53))).bind fun y348 => ((plan_Steps.f x342000 x342001 x342002 x342003 x342004 x342005 x342006 x342007 x342008 x342009 x342010 0 x2).bind fun t351 => (if y348.length + t351.length < 3518437208883 then ((some (y348 ++ t351 : List (S53))).bind fun y354 => ((plan_Steps.f x342000 x342001 x342002 x342003 x342004 x342005 x342006 x342007 x342008 x342009 x342010 x2 (wrap64 (x1 - x2))).bind fun t357 => (if y354.length + t357.length < 3518437208883 then ((revetmentref09_Same.f k t345 (y354 ++ t357)).bind fun t363 => (if t363 = true then (if 0 ≤ x342001 then (if (x342001 : Int).toNat ≤ 35184372088832 then (revetmentlaw09_PlanParts.l0 k x1 t345 (List.replicate (x342001 : Int).toNat 0) 0 x342000 x342001 x342002 x342003 x342004 x342005 x342006 x342007 x342008 x342009 x342010) else (none)) else (none)) else (some false))) else (none)))) else (none)))))
def revetmentlaw09_PlanParts.l0 : Nat → Int → List (S53) → List Int → Int → Int → Int → Int → Int → Int → Int → Int → Int → Int → Int → Int → Option (Bool)
  | 0, _, _, _, _, _, _, _, _, _, _, _, _, _, _, _ => none
  | k + 1, x1, x7, x9, x10, x342000, x342001, x342002, x342003, x342004, x342005, x342006, x342007, x342008, x342009, x342010 => if x10 < (x7.length : Int) then (if 0 ≤ x10 then (if ((rd_T53 x7 x10).f1) < 0 then (some false) else (if ((rd_T53 x7 x10).f1) ≥ x342001 then (some false) else (if 0 ≤ ((rd_T53 x7 x10).f1) then (if ((rd_T53 x7 x10).f1) < (x9.length : Int) then (if (rd x9 ((rd_T53 x7 x10).f1)) = ((rd_T53 x7 x10).f2) then (revetmentlaw09_PlanParts.l0 k x1 x7 (x9.set (((rd_T53 x7 x10).f1) : Int).toNat (wrap64 ((rd x9 ((rd_T53 x7 x10).f1)) + ((rd_T53 x7 x10).f4)))) (wrap64 (x10 + 1)) x342000 x342001 x342002 x342003 x342004 x342005 x342006 x342007 x342008 x342009 x342010) else (some false)) else (none)) else (none)))) else (none)) else (revetmentlaw09_PlanParts.l1 k x1 x9 0 x342000 x342001 x342002 x342003 x342004 x342005 x342006 x342007 x342008 x342009 x342010)
def revetmentlaw09_PlanParts.l1 : Nat → Int → List Int → Int → Int → Int → Int → Int → Int → Int → Int → Int → Int → Int → Int → Option (Bool)
  | 0, _, _, _, _, _, _, _, _, _, _, _, _, _, _ => none
  | k + 1, x1, x9, x12, x342000, x342001, x342002, x342003, x342004, x342005, x342006, x342007, x342008, x342009, x342010 => if x12 < x342001 then (if 0 ≤ x12 then (if x12 < (x9.length : Int) then ((revetmentref08_Need.f k x342000 x342001 x342002 x342003 x342004 x342005 x342006 x342007 x342008 x342009 x342010 x12 x1).bind fun t373 => (if (rd x9 x12) = t373 then (revetmentlaw09_PlanParts.l1 k x1 x9 (wrap64 (x12 + 1)) x342000 x342001 x342002 x342003 x342004 x342005 x342006 x342007 x342008 x342009 x342010) else (some false))) else (none)) else (none)) else ((revetmentlaw09_live.f).bind fun t374 => (some t374))
end
def revetmentlaw09_PlanParts.f (k : Nat) (a0_0 : Int) (a0_1 : Int) (a0_2 : Int) (a0_3 : Int) (a0_4 : Int) (a0_5 : Int) (a0_6 : Int) (a0_7 : Int) (a0_8 : Int) (a0_9 : Int) (a0_10 : Int) (a1 : Int) (a2 : Int) : Option (Bool) := (revetmentref07_Small.f a0_0 a0_1 a0_2 a0_3 a0_4 a0_5 a0_6 a0_7 a0_8 a0_9 a0_10).bind fun t342 => (if t342 = true then ((revetmentref09_Right.f a0_0 a0_1 a0_2 a0_3 a0_4 a0_5 a0_6 a0_7 a0_8 a0_9 a0_10 0 a1).bind fun t343 => (if t343 = true then (if a2 < 0 then (revetmentlaw09_PlanParts.j0 k a1 a2 true a0_0 a0_1 a0_2 a0_3 a0_4 a0_5 a0_6 a0_7 a0_8 a0_9 a0_10) else (revetmentlaw09_PlanParts.j0 k a1 a2 (decide (a2 > a1)) a0_0 a0_1 a0_2 a0_3 a0_4 a0_5 a0_6 a0_7 a0_8 a0_9 a0_10)) else (revetmentlaw09_PlanParts.j0 k a1 a2 true a0_0 a0_1 a0_2 a0_3 a0_4 a0_5 a0_6 a0_7 a0_8 a0_9 a0_10))) else (revetmentlaw09_PlanParts.j0 k a1 a2 true a0_0 a0_1 a0_2 a0_3 a0_4 a0_5 a0_6 a0_7 a0_8 a0_9 a0_10))
theorem revetmentlaw09_PlanParts.mono_l : ∀ k, (∀ y0 y1 y2 y3 y4 y5 y6 y7 y8 y9 y10 y11 y12 y13, LeO (revetmentlaw09_PlanParts.j0 k y0 y1 y2 y3 y4 y5 y6 y7 y8 y9 y10 y11 y12 y13) (revetmentlaw09_PlanParts.j0 (k + 1) y0 y1 y2 y3 y4 y5 y6 y7 y8 y9 y10 y11 y12 y13)) ∧ (∀ y0 y1 y2 y3 y4 y5 y6 y7 y8 y9 y10 y11 y12 y13 y14, LeO (revetmentlaw09_PlanParts.l0 k y0 y1 y2 y3 y4 y5 y6 y7 y8 y9 y10 y11 y12 y13 y14) (revetmentlaw09_PlanParts.l0 (k + 1) y0 y1 y2 y3 y4 y5 y6 y7 y8 y9 y10 y11 y12 y13 y14)) ∧ (∀ y0 y1 y2 y3 y4 y5 y6 y7 y8 y9 y10 y11 y12 y13, LeO (revetmentlaw09_PlanParts.l1 k y0 y1 y2 y3 y4 y5 y6 y7 y8 y9 y10 y11 y12 y13) (revetmentlaw09_PlanParts.l1 (k + 1) y0 y1 y2 y3 y4 y5 y6 y7 y8 y9 y10 y11 y12 y13))
 | 0 => ⟨fun _ _ _ _ _ _ _ _ _ _ _ _ _ _ r h => by simp [revetmentlaw09_PlanParts.j0] at h, fun _ _ _ _ _ _ _ _ _ _ _ _ _ _ _ r h => by simp [revetmentlaw09_PlanParts.l0] at h, fun _ _ _ _ _ _ _ _ _ _ _ _ _ _ r h => by simp [revetmentlaw09_PlanParts.l1] at h⟩
 | k + 1 => by
  obtain ⟨ih0, ih1, ih2⟩ := revetmentlaw09_PlanParts.mono_l k
  refine ⟨?_, ?_, ?_⟩
  ·intro y0 y1 y2 y3 y4 y5 y6 y7 y8 y9 y10 y11 y12 y13
   unfold revetmentlaw09_PlanParts.j0
   repeat' first
   | (with_reducible exact ih0 _ _ _ _ _ _ _ _ _ _ _ _ _ _)
   | (with_reducible exact ih1 _ _ _ _ _ _ _ _ _ _ _ _ _ _ _)
   | (with_reducible exact ih2 _ _ _ _ _ _ _ _ _ _ _ _ _ _)
   | (with_reducible exact revetmentref08_Need.mono _ _ _ _ _ _ _ _ _ _ _ _ _ _)
   | (with_reducible exact revetmentref09_Same.mono _ _ _)
   | (with_reducible exact LeO.refl _)
   | (with_reducible exact LeO.none _)
   | (with_reducible refine LeO.ite ?_ ?_)
   | (with_reducible refine LeO.bind ?_ (fun _ => ?_))
   | exact ih0 _ _ _ _ _ _ _ _ _ _ _ _ _ _
   | exact ih1 _ _ _ _ _ _ _ _ _ _ _ _ _ _ _
   | exact ih2 _ _ _ _ _ _ _ _ _ _ _ _ _ _
   | exact revetmentref08_Need.mono _ _ _ _ _ _ _ _ _ _ _ _ _ _
   | exact revetmentref09_Same.mono _ _ _
   | exact LeO.none _
   | refine LeO.ite ?_ ?_
   | refine LeO.bind ?_ (fun _ => ?_)
  ·intro y0 y1 y2 y3 y4 y5 y6 y7 y8 y9 y10 y11 y12 y13 y14
   unfold revetmentlaw09_PlanParts.l0
   repeat' first
   | (with_reducible exact ih0 _ _ _ _ _ _ _ _ _ _ _ _ _ _)
   | (with_reducible exact ih1 _ _ _ _ _ _ _ _ _ _ _ _ _ _ _)
   | (with_reducible exact ih2 _ _ _ _ _ _ _ _ _ _ _ _ _ _)
   | (with_reducible exact revetmentref08_Need.mono _ _ _ _ _ _ _ _ _ _ _ _ _ _)
   | (with_reducible exact revetmentref09_Same.mono _ _ _)
   | (with_reducible exact LeO.refl _)
   | (with_reducible exact LeO.none _)
   | (with_reducible refine LeO.ite ?_ ?_)
   | (with_reducible refine LeO.bind ?_ (fun _ => ?_))
   | exact ih0 _ _ _ _ _ _ _ _ _ _ _ _ _ _
   | exact ih1 _ _ _ _ _ _ _ _ _ _ _ _ _ _ _
   | exact ih2 _ _ _ _ _ _ _ _ _ _ _ _ _ _
   | exact revetmentref08_Need.mono _ _ _ _ _ _ _ _ _ _ _ _ _ _
   | exact revetmentref09_Same.mono _ _ _
   | exact LeO.none _
   | refine LeO.ite ?_ ?_
   | refine LeO.bind ?_ (fun _ => ?_)
  ·intro y0 y1 y2 y3 y4 y5 y6 y7 y8 y9 y10 y11 y12 y13
   unfold revetmentlaw09_PlanParts.l1
   repeat' first
   | (with_reducible exact ih0 _ _ _ _ _ _ _ _ _ _ _ _ _ _)
   | (with_reducible exact ih1 _ _ _ _ _ _ _ _ _ _ _ _ _ _ _)
   | (with_reducible exact ih2 _ _ _ _ _ _ _ _ _ _ _ _ _ _)
   | (with_reducible exact revetmentref08_Need.mono _ _ _ _ _ _ _ _ _ _ _ _ _ _)
   | (with_reducible exact revetmentref09_Same.mono _ _ _)
   | (with_reducible exact LeO.refl _)
   | (with_reducible exact LeO.none _)
   | (with_reducible refine LeO.ite ?_ ?_)
   | (with_reducible refine LeO.bind ?_ (fun _ => ?_))
   | exact ih0 _ _ _ _ _ _ _ _ _ _ _ _ _ _
   | exact ih1 _ _ _ _ _ _ _ _ _ _ _ _ _ _ _
   | exact ih2 _ _ _ _ _ _ _ _ _ _ _ _ _ _
   | exact revetmentref08_Need.mono _ _ _ _ _ _ _ _ _ _ _ _ _ _
   | exact revetmentref09_Same.mono _ _ _
   | exact LeO.none _
   | refine LeO.ite ?_ ?_
   | refine LeO.bind ?_ (fun _ => ?_)
theorem revetmentlaw09_PlanParts.mono : ∀ a0 a1 a2 a3 a4 a5 a6 a7 a8 a9 a10 a11 a12 k, LeO (revetmentlaw09_PlanParts.f k a0 a1 a2 a3 a4 a5 a6 a7 a8 a9 a10 a11 a12) (revetmentlaw09_PlanParts.f (k + 1) a0 a1 a2 a3 a4 a5 a6 a7 a8 a9 a10 a11 a12) := by
 intro a0 a1 a2 a3 a4 a5 a6 a7 a8 a9 a10 a11 a12 k
 obtain ⟨ih0, ih1, ih2⟩ := revetmentlaw09_PlanParts.mono_l k
 unfold revetmentlaw09_PlanParts.f
 repeat' first
   | (with_reducible exact ih0 _ _ _ _ _ _ _ _ _ _ _ _ _ _)
   | (with_reducible exact ih1 _ _ _ _ _ _ _ _ _ _ _ _ _ _ _)
   | (with_reducible exact ih2 _ _ _ _ _ _ _ _ _ _ _ _ _ _)
   | (with_reducible exact revetmentref08_Need.mono _ _ _ _ _ _ _ _ _ _ _ _ _ _)
   | (with_reducible exact revetmentref09_Same.mono _ _ _)
   | (with_reducible exact LeO.refl _)
   | (with_reducible exact LeO.none _)
   | (with_reducible refine LeO.ite ?_ ?_)
   | (with_reducible refine LeO.bind ?_ (fun _ => ?_))
   | exact ih0 _ _ _ _ _ _ _ _ _ _ _ _ _ _
   | exact ih1 _ _ _ _ _ _ _ _ _ _ _ _ _ _ _
   | exact ih2 _ _ _ _ _ _ _ _ _ _ _ _ _ _
   | exact revetmentref08_Need.mono _ _ _ _ _ _ _ _ _ _ _ _ _ _
   | exact revetmentref09_Same.mono _ _ _
   | exact LeO.none _
   | refine LeO.ite ?_ ?_
   | refine LeO.bind ?_ (fun _ => ?_)
def revetmentlaw09_PlanParts.T4 : Bool × List (List Nat × List Nat) := (true, [([], []), ([], []), ([], []), ([1, 2], [1, 2]), ([0, 3, 3], [0, 3]), ([], []), ([], []), ([], []), ([], []), ([7, 8], [7, 8]), ([5, 6, 9, 4], [5, 6, 9]), ([4, 10, 10], [4, 10]), ([11, 11, 0, 1, 2, 3, 4, 5, 6, 7, 8, 9, 10, 11], [11])])
def revetmentlaw09_PlanParts.B4 : List Nat := [0, 0, 0, 6, 15, 0, 0, 0, 0, 384, 1023, 2047, 4095]
theorem revetmentlaw09_PlanParts.tab4 : rtab .any (opsOf Try.f7 4) = revetmentlaw09_PlanParts.T4 := by kernel_rfl
theorem revetmentlaw09_PlanParts.bits4 : waitsOk revetmentlaw09_PlanParts.T4.2 revetmentlaw09_PlanParts.B4 = true := by kernel_rfl
def revetmentlaw09_PlanParts.T12 : Bool × List (List Nat × List Nat) := (true, [([], []), ([0], [0]), ([1], [1]), ([2], [2]), ([3], [3]), ([4, 3], [3, 4]), ([3], [3]), ([6, 3], [3, 6]), ([5, 7, 3], [3, 5, 7]), ([3, 8], [3, 8]), ([9, 3], [9]), ([10], [10]), ([10], [10]), ([12, 10], [10, 12]), ([11, 13, 10], [10, 11, 13]), ([14, 10], [10, 14]), ([10], [10]), ([16, 10], [10, 16]), ([15, 17, 10], [10, 15, 17]), ([10, 18], [10, 18])])
def revetmentlaw09_PlanParts.B12 : List Nat := [0, 1, 3, 7, 15, 31, 15, 79, 255, 511, 1023, 2047, 2047, 6143, 16383, 32767, 2047, 67583, 262143, 524287]
theorem revetmentlaw09_PlanParts.tab12 : rtab .any (opsOf Try.f7 12) = revetmentlaw09_PlanParts.T12 := by kernel_rfl
theorem revetmentlaw09_PlanParts.bits12 : waitsOk revetmentlaw09_PlanParts.T12.2 revetmentlaw09_PlanParts.B12 = true := by kernel_rfl
def revetmentlaw09_PlanParts.T14 : Bool × List (List Nat × List Nat) := (true, [([], []), ([], []), ([1], [1]), ([], []), ([], []), ([4], [4]), ([3, 5], [3, 5]), ([6], [6]), ([], []), ([8], [8]), ([7, 9], [7, 9]), ([0, 2, 0, 1, 2, 3, 4, 5, 6, 7, 8, 9, 10], [0, 2]), ([11, 10, 0, 1, 2, 3, 4, 5, 6, 7, 8, 9, 10], [10, 11])])
def revetmentlaw09_PlanParts.B14 : List Nat := [0, 0, 2, 0, 0, 16, 56, 120, 0, 256, 1016, 2047, 4095]
theorem revetmentlaw09_PlanParts.tab14 : rtab .any (opsOf Try.f7 14) = revetmentlaw09_PlanParts.T14 := by kernel_rfl
theorem revetmentlaw09_PlanParts.bits14 : waitsOk revetmentlaw09_PlanParts.T14.2 revetmentlaw09_PlanParts.B14 = true := by kernel_rfl
def revetmentlaw09_PlanParts.T18 : Bool × List (List Nat × List Nat) := (true, [([], []), ([], []), ([0, 1], [0, 1]), ([2], [2]), ([], []), ([], []), ([], []), ([4, 5, 6], [4, 5, 6]), ([3, 7], [3, 7])])
def revetmentlaw09_PlanParts.B18 : List Nat := [0, 0, 3, 7, 0, 0, 0, 112, 255]
theorem revetmentlaw09_PlanParts.tab18 : rtab .any (opsOf Try.f7 18) = revetmentlaw09_PlanParts.T18 := by kernel_rfl
theorem revetmentlaw09_PlanParts.bits18 : waitsOk revetmentlaw09_PlanParts.T18.2 revetmentlaw09_PlanParts.B18 = true := by kernel_rfl
set_option maxHeartbeats 8000000 in
set_option maxRecDepth 100000 in
theorem revetmentlaw09_PlanParts.calls (k : Nat) (a0_0 : Int) (a0_1 : Int) (a0_2 : Int) (a0_3 : Int) (a0_4 : Int) (a0_5 : Int) (a0_6 : Int) (a0_7 : Int) (a0_8 : Int) (a0_9 : Int) (a0_10 : Int) (a1 : Int) (a2 : Int) (w : World) (h : revetmentlaw09_PlanParts.f k a0_0 a0_1 a0_2 a0_3 a0_4 a0_5 a0_6 a0_7 a0_8 a0_9 a0_10 a1 a2 = some true) :
  Calls Try.prog 7 #[.agg #[.int .i64 a0_0, .int .i64 a0_1, .int .i64 a0_2, .int .i64 a0_3, .int .i64 a0_4, .int .i64 a0_5, .int .i64 a0_6, .int .i64 a0_7, .int .i64 a0_8, .int .i64 a0_9, .int .i64 a0_10], .int .i64 a1, .int .i64 a2] w fun e w' => e = .returned (.bool true) ∧ Below w.heap.size w w' := by
 have hu23 := Try.underlying23
 have hu53 := Try.underlying53
 have HB := Aside0.mk (Below.refl w.heap.size w)
 have H : ((revetmentref07_Small.f a0_0 a0_1 a0_2 a0_3 a0_4 a0_5 a0_6 a0_7 a0_8 a0_9 a0_10).bind fun t342 => (if t342 = true then ((revetmentref09_Right.f a0_0 a0_1 a0_2 a0_3 a0_4 a0_5 a0_6 a0_7 a0_8 a0_9 a0_10 0 a1).bind fun t343 => (if t343 = true then (if a2 < 0 then (revetmentlaw09_PlanParts.j0 k a1 a2 true a0_0 a0_1 a0_2 a0_3 a0_4 a0_5 a0_6 a0_7 a0_8 a0_9 a0_10) else (revetmentlaw09_PlanParts.j0 k a1 a2 (decide (a2 > a1)) a0_0 a0_1 a0_2 a0_3 a0_4 a0_5 a0_6 a0_7 a0_8 a0_9 a0_10)) else (revetmentlaw09_PlanParts.j0 k a1 a2 true a0_0 a0_1 a0_2 a0_3 a0_4 a0_5 a0_6 a0_7 a0_8 a0_9 a0_10))) else (revetmentlaw09_PlanParts.j0 k a1 a2 true a0_0 a0_1 a0_2 a0_3 a0_4 a0_5 a0_6 a0_7 a0_8 a0_9 a0_10))) = some true := h
 clear h
 have HC4 := Aside0.mk H
 clear H
 go_enter Try.func7, Try.ntmps7
 go_upto_region 1 with (first | ((with_reducible refine gate_dst (N := 3) rfl ?_); refine box_event ?hg (N := 3) ?hd (cs := #[.int .i64 a0_0, .int .i64 a0_1, .int .i64 a0_2, .int .i64 a0_3, .int .i64 a0_4, .int .i64 a0_5, .int .i64 a0_6, .int .i64 a0_7, .int .i64 a0_8, .int .i64 a0_9, .int .i64 a0_10]) (t := 23) ?hr ?_; (case hd => rfl); (case hg => rfl); (case hr => first | (go_simp; done) | (go_simp; rfl)); intro gb341 hg w5 hbox hb; have n0_ := bst HB hb; have n1_ := Aside0.mk (hbox); have n2_ := Aside0.mk ((by rw [hg]; exact (below_size (bl HB)) : w.heap.size ≤ gb341)); have n3_ := Aside0.mk ((by rw [hg]; exact (below_size (bl HB)) : w.heap.size ≤ gb341)); clear HB; have HB := n0_; have BK341 := n1_; have GW341 := n2_; have GE341 := n3_; clear n0_ n1_ n2_ n3_; clear hb hbox hg))
 (try simp only [Act.put, List.setIfInBounds_toArray, List.set_cons_zero, List.set_cons_succ])
 go_cut [30] (fun v30 wc => ∃ (kq : Nat) (x30_3 : Bool), v30 = .bool x30_3 ∧ Aside0 (revetmentlaw09_PlanParts.j0 kq a1 a2 x30_3 a0_0 a0_1 a0_2 a0_3 a0_4 a0_5 a0_6 a0_7 a0_8 a0_9 a0_10 = some true) ∧ Aside0 (kq ≤ k) ∧ Aside0 (wc.heap[gb341]? = some (.cells #[.int .i64 a0_0, .int .i64 a0_1, .int .i64 a0_2, .int .i64 a0_3, .int .i64 a0_4, .int .i64 a0_5, .int .i64 a0_6, .int .i64 a0_7, .int .i64 a0_8, .int .i64 a0_9, .int .i64 a0_10] 23 (0, 0))) ∧ Aside0 (Below w.heap.size w wc))
 case first =>
  have H := HC4.out
  clear HC4
  replace H := Option.bind_eq_some_iff.mp H
  obtain ⟨t342, A60, H⟩ := H
  replace H : (if t342 = true then ((revetmentref09_Right.f a0_0 a0_1 a0_2 a0_3 a0_4 a0_5 a0_6 a0_7 a0_8 a0_9 a0_10 0 a1).bind fun t343 => (if t343 = true then (if a2 < 0 then (revetmentlaw09_PlanParts.j0 k a1 a2 true a0_0 a0_1 a0_2 a0_3 a0_4 a0_5 a0_6 a0_7 a0_8 a0_9 a0_10) else (revetmentlaw09_PlanParts.j0 k a1 a2 (decide (a2 > a1)) a0_0 a0_1 a0_2 a0_3 a0_4 a0_5 a0_6 a0_7 a0_8 a0_9 a0_10)) else (revetmentlaw09_PlanParts.j0 k a1 a2 true a0_0 a0_1 a0_2 a0_3 a0_4 a0_5 a0_6 a0_7 a0_8 a0_9 a0_10))) else (revetmentlaw09_PlanParts.j0 k a1 a2 true a0_0 a0_1 a0_2 a0_3 a0_4 a0_5 a0_6 a0_7 a0_8 a0_9 a0_10)) = some true := H
  have A6 := Aside0.mk A60
  clear A60
  by_cases c7 : t342 = true
  ·subst c7
   have H1 : ((revetmentref09_Right.f a0_0 a0_1 a0_2 a0_3 a0_4 a0_5 a0_6 a0_7 a0_8 a0_9 a0_10 0 a1).bind fun t343 => (if t343 = true then (if a2 < 0 then (revetmentlaw09_PlanParts.j0 k a1 a2 true a0_0 a0_1 a0_2 a0_3 a0_4 a0_5 a0_6 a0_7 a0_8 a0_9 a0_10) else (revetmentlaw09_PlanParts.j0 k a1 a2 (decide (a2 > a1)) a0_0 a0_1 a0_2 a0_3 a0_4 a0_5 a0_6 a0_7 a0_8 a0_9 a0_10)) else (revetmentlaw09_PlanParts.j0 k a1 a2 true a0_0 a0_1 a0_2 a0_3 a0_4 a0_5 a0_6 a0_7 a0_8 a0_9 a0_10))) = some true := by rw [if_pos rfl] at H; exact H
   clear H
   have H := H1
   clear H1
   replace H := Option.bind_eq_some_iff.mp H
   obtain ⟨t343, A80, H⟩ := H
   replace H : (if t343 = true then (if a2 < 0 then (revetmentlaw09_PlanParts.j0 k a1 a2 true a0_0 a0_1 a0_2 a0_3 a0_4 a0_5 a0_6 a0_7 a0_8 a0_9 a0_10) else (revetmentlaw09_PlanParts.j0 k a1 a2 (decide (a2 > a1)) a0_0 a0_1 a0_2 a0_3 a0_4 a0_5 a0_6 a0_7 a0_8 a0_9 a0_10)) else (revetmentlaw09_PlanParts.j0 k a1 a2 true a0_0 a0_1 a0_2 a0_3 a0_4 a0_5 a0_6 a0_7 a0_8 a0_9 a0_10)) = some true := H
   have A8 := Aside0.mk A80
   clear A80
   by_cases c9 : t343 = true
   ·subst c9
    have H1 : (if a2 < 0 then (revetmentlaw09_PlanParts.j0 k a1 a2 true a0_0 a0_1 a0_2 a0_3 a0_4 a0_5 a0_6 a0_7 a0_8 a0_9 a0_10) else (revetmentlaw09_PlanParts.j0 k a1 a2 (decide (a2 > a1)) a0_0 a0_1 a0_2 a0_3 a0_4 a0_5 a0_6 a0_7 a0_8 a0_9 a0_10)) = some true := by rw [if_pos rfl] at H; exact H
    clear H
    have H := H1
    clear H1
    by_cases c10 : a2 < 0
    ·rw [if_pos c10] at H
     have c10b0 : decide (a2 < 0) = true := decide_eq_true c10
     clear c10
     (first | rw [c10b0] | (simp only [i64_w, i32_w]; rw [c10b0]) | skip)
     have H' := Aside0.mk H
     clear H
     obtain ⟨hcz11_0, hcz11_1, hcz11_2, hcz11_3, hcz11_4, hcz11_5, hcz11_6, hcz11_7, hcz11_8, hcz11_9, hcz11_10⟩ := cz11 BK341.out
     go_wp2_with (first | ((with_reducible refine gate_callee (f := 33) rfl ?_); refine goesL_ (some 14) rfl rfl Try.func33 (by kernel_rfl) rfl #[.agg #[.int .i64 a0_0, .int .i64 a0_1, .int .i64 a0_2, .int .i64 a0_3, .int .i64 a0_4, .int .i64 a0_5, .int .i64 a0_6, .int .i64 a0_7, .int .i64 a0_8, .int .i64 a0_9, .int .i64 a0_10]] rfl (by (try simp only [List.map_toArray, List.map_cons, List.map_nil]); first | done | rfl | (simp only [List.length_drop, List.length_take]; rfl)) ?_; (with_reducible refine (revetmentref07_Small.calls a0_0 a0_1 a0_2 a0_3 a0_4 a0_5 a0_6 a0_7 a0_8 a0_9 a0_10 true _ A6.out).mono ?_); rintro e w12 ⟨rfl, hb⟩; refine ⟨_, rfl, ?_⟩; have n0_ := bkb BK341 hb; have n1_ := bst HB hb; clear BK341; clear HB; have BK341 := n0_; have HB := n1_; clear n0_ n1_; (try clear hb); (try clear hb2); (try clear hk); (try clear hi); obtain ⟨hcz13_0, hcz13_1, hcz13_2, hcz13_3, hcz13_4, hcz13_5, hcz13_6, hcz13_7, hcz13_8, hcz13_9, hcz13_10⟩ := cz11 BK341.out) | (go_at_call 38; (with_reducible refine (revetmentref09_Right.calls a0_0 a0_1 a0_2 a0_3 a0_4 a0_5 a0_6 a0_7 a0_8 a0_9 a0_10 0 a1 true _ A8.out).mono ?_); rintro e w14 ⟨rfl, hb⟩; have n0_ := bkb BK341 hb; have n1_ := bst HB hb; clear BK341; clear HB; have BK341 := n0_; have HB := n1_; clear n0_ n1_; (try clear hb); (try clear hb2); (try clear hk); (try clear hi)))
     go_meet
     case rel => exact ⟨_, (true), (by first | rfl | (simp; done) | (simp [*]; done)), H', ⟨by first | omega | exact Nat.le_refl _⟩, ⟨by (with_reducible repeat (first | refine blk_drewN ?_ _ | refine blk_drew ?_ | refine blk_alloc ?_ _)); exact BK341.out⟩, ⟨bl HB⟩⟩
    ·rw [if_neg c10] at H
     have c10b0 : decide (a2 < 0) = false := decide_eq_false c10
     clear c10
     (first | rw [c10b0] | (simp only [i64_w, i32_w]; rw [c10b0]) | skip)
     have H' := Aside0.mk H
     clear H
     obtain ⟨hcz15_0, hcz15_1, hcz15_2, hcz15_3, hcz15_4, hcz15_5, hcz15_6, hcz15_7, hcz15_8, hcz15_9, hcz15_10⟩ := cz11 BK341.out
     go_wp2_with (first | ((with_reducible refine gate_callee (f := 33) rfl ?_); refine goesL_ (some 14) rfl rfl Try.func33 (by kernel_rfl) rfl #[.agg #[.int .i64 a0_0, .int .i64 a0_1, .int .i64 a0_2, .int .i64 a0_3, .int .i64 a0_4, .int .i64 a0_5, .int .i64 a0_6, .int .i64 a0_7, .int .i64 a0_8, .int .i64 a0_9, .int .i64 a0_10]] rfl (by (try simp only [List.map_toArray, List.map_cons, List.map_nil]); first | done | rfl | (simp only [List.length_drop, List.length_take]; rfl)) ?_; (with_reducible refine (revetmentref07_Small.calls a0_0 a0_1 a0_2 a0_3 a0_4 a0_5 a0_6 a0_7 a0_8 a0_9 a0_10 true _ A6.out).mono ?_); rintro e w16 ⟨rfl, hb⟩; refine ⟨_, rfl, ?_⟩; have n0_ := bkb BK341 hb; have n1_ := bst HB hb; clear BK341; clear HB; have BK341 := n0_; have HB := n1_; clear n0_ n1_; (try clear hb); (try clear hb2); (try clear hk); (try clear hi); obtain ⟨hcz17_0, hcz17_1, hcz17_2, hcz17_3, hcz17_4, hcz17_5, hcz17_6, hcz17_7, hcz17_8, hcz17_9, hcz17_10⟩ := cz11 BK341.out) | (go_at_call 38; (with_reducible refine (revetmentref09_Right.calls a0_0 a0_1 a0_2 a0_3 a0_4 a0_5 a0_6 a0_7 a0_8 a0_9 a0_10 0 a1 true _ A8.out).mono ?_); rintro e w18 ⟨rfl, hb⟩; have n0_ := bkb BK341 hb; have n1_ := bst HB hb; clear BK341; clear HB; have BK341 := n0_; have HB := n1_; clear n0_ n1_; (try clear hb); (try clear hb2); (try clear hk); (try clear hi)))
     go_meet
     case rel => exact ⟨_, (decide (a2 > a1)), (by first | rfl | (simp; done) | (simp [*]; done)), H', ⟨by first | omega | exact Nat.le_refl _⟩, ⟨by (with_reducible repeat (first | refine blk_drewN ?_ _ | refine blk_drew ?_ | refine blk_alloc ?_ _)); exact BK341.out⟩, ⟨bl HB⟩⟩
   ·replace c9 := Bool.eq_false_iff.mpr c9
    subst c9
    have H1 : (revetmentlaw09_PlanParts.j0 k a1 a2 true a0_0 a0_1 a0_2 a0_3 a0_4 a0_5 a0_6 a0_7 a0_8 a0_9 a0_10) = some true := by rw [if_neg (show ¬ (false = true) by decide)] at H; exact H
    clear H
    have H := H1
    clear H1
    have H' := Aside0.mk H
    clear H
    obtain ⟨hcz19_0, hcz19_1, hcz19_2, hcz19_3, hcz19_4, hcz19_5, hcz19_6, hcz19_7, hcz19_8, hcz19_9, hcz19_10⟩ := cz11 BK341.out
    go_wp2_with (first | ((with_reducible refine gate_callee (f := 33) rfl ?_); refine goesL_ (some 14) rfl rfl Try.func33 (by kernel_rfl) rfl #[.agg #[.int .i64 a0_0, .int .i64 a0_1, .int .i64 a0_2, .int .i64 a0_3, .int .i64 a0_4, .int .i64 a0_5, .int .i64 a0_6, .int .i64 a0_7, .int .i64 a0_8, .int .i64 a0_9, .int .i64 a0_10]] rfl (by (try simp only [List.map_toArray, List.map_cons, List.map_nil]); first | done | rfl | (simp only [List.length_drop, List.length_take]; rfl)) ?_; (with_reducible refine (revetmentref07_Small.calls a0_0 a0_1 a0_2 a0_3 a0_4 a0_5 a0_6 a0_7 a0_8 a0_9 a0_10 true _ A6.out).mono ?_); rintro e w20 ⟨rfl, hb⟩; refine ⟨_, rfl, ?_⟩; have n0_ := bkb BK341 hb; have n1_ := bst HB hb; clear BK341; clear HB; have BK341 := n0_; have HB := n1_; clear n0_ n1_; (try clear hb); (try clear hb2); (try clear hk); (try clear hi); obtain ⟨hcz21_0, hcz21_1, hcz21_2, hcz21_3, hcz21_4, hcz21_5, hcz21_6, hcz21_7, hcz21_8, hcz21_9, hcz21_10⟩ := cz11 BK341.out) | (go_at_call 38; (with_reducible refine (revetmentref09_Right.calls a0_0 a0_1 a0_2 a0_3 a0_4 a0_5 a0_6 a0_7 a0_8 a0_9 a0_10 0 a1 false _ A8.out).mono ?_); rintro e w22 ⟨rfl, hb⟩; have n0_ := bkb BK341 hb; have n1_ := bst HB hb; clear BK341; clear HB; have BK341 := n0_; have HB := n1_; clear n0_ n1_; (try clear hb); (try clear hb2); (try clear hk); (try clear hi)))
    go_meet
    case rel => exact ⟨_, (true), (by first | rfl | (simp; done) | (simp [*]; done)), H', ⟨by first | omega | exact Nat.le_refl _⟩, ⟨by (with_reducible repeat (first | refine blk_drewN ?_ _ | refine blk_drew ?_ | refine blk_alloc ?_ _)); exact BK341.out⟩, ⟨bl HB⟩⟩
  ·replace c7 := Bool.eq_false_iff.mpr c7
   subst c7
   have H1 : (revetmentlaw09_PlanParts.j0 k a1 a2 true a0_0 a0_1 a0_2 a0_3 a0_4 a0_5 a0_6 a0_7 a0_8 a0_9 a0_10) = some true := by rw [if_neg (show ¬ (false = true) by decide)] at H; exact H
   clear H
   have H := H1
   clear H1
   have H' := Aside0.mk H
   clear H
   obtain ⟨hcz23_0, hcz23_1, hcz23_2, hcz23_3, hcz23_4, hcz23_5, hcz23_6, hcz23_7, hcz23_8, hcz23_9, hcz23_10⟩ := cz11 BK341.out
   go_wp2_with (first | ((with_reducible refine gate_callee (f := 33) rfl ?_); refine goesL_ (some 14) rfl rfl Try.func33 (by kernel_rfl) rfl #[.agg #[.int .i64 a0_0, .int .i64 a0_1, .int .i64 a0_2, .int .i64 a0_3, .int .i64 a0_4, .int .i64 a0_5, .int .i64 a0_6, .int .i64 a0_7, .int .i64 a0_8, .int .i64 a0_9, .int .i64 a0_10]] rfl (by (try simp only [List.map_toArray, List.map_cons, List.map_nil]); first | done | rfl | (simp only [List.length_drop, List.length_take]; rfl)) ?_; (with_reducible refine (revetmentref07_Small.calls a0_0 a0_1 a0_2 a0_3 a0_4 a0_5 a0_6 a0_7 a0_8 a0_9 a0_10 false _ A6.out).mono ?_); rintro e w24 ⟨rfl, hb⟩; refine ⟨_, rfl, ?_⟩; have n0_ := bkb BK341 hb; have n1_ := bst HB hb; clear BK341; clear HB; have BK341 := n0_; have HB := n1_; clear n0_ n1_; (try clear hb); (try clear hb2); (try clear hk); (try clear hi)))
   go_meet
   case rel => exact ⟨_, (true), (by first | rfl | (simp; done) | (simp [*]; done)), H', ⟨by first | omega | exact Nat.le_refl _⟩, ⟨by (with_reducible repeat (first | refine blk_drewN ?_ _ | refine blk_drew ?_ | refine blk_alloc ?_ _)); exact BK341.out⟩, ⟨bl HB⟩⟩
 case rest =>
  clear HC4
  try clear c1
  try clear p2
  try clear c3
  try clear c7
  try clear c9
  try clear c10
  try clear c10b0
  (try clear hcz11_0 hcz11_1)
  (try clear hcz11_10)
  (try clear hcz11_2 hcz11_3 hcz11_4 hcz11_5 hcz11_6 hcz11_7 hcz11_8 hcz11_9)
  (try clear hcz13_0 hcz13_1)
  (try clear hcz13_10)
  (try clear hcz13_2 hcz13_3 hcz13_4 hcz13_5 hcz13_6 hcz13_7 hcz13_8 hcz13_9)
  (try clear hcz15_0 hcz15_1)
  (try clear hcz15_10)
  (try clear hcz15_2 hcz15_3 hcz15_4 hcz15_5 hcz15_6 hcz15_7 hcz15_8 hcz15_9)
  (try clear hcz17_0 hcz17_1)
  (try clear hcz17_10)
  (try clear hcz17_2 hcz17_3 hcz17_4 hcz17_5 hcz17_6 hcz17_7 hcz17_8 hcz17_9)
  (try clear hcz19_0 hcz19_1)
  (try clear hcz19_10)
  (try clear hcz19_2 hcz19_3 hcz19_4 hcz19_5 hcz19_6 hcz19_7 hcz19_8 hcz19_9)
  (try clear hcz21_0 hcz21_1)
  (try clear hcz21_10)
  (try clear hcz21_2 hcz21_3 hcz21_4 hcz21_5 hcz21_6 hcz21_7 hcz21_8 hcz21_9)
  (try clear hcz23_0 hcz23_1)
  (try clear hcz23_10)
  (try clear hcz23_2 hcz23_3 hcz23_4 hcz23_5 hcz23_6 hcz23_7 hcz23_8 hcz23_9)
  (try clear hfz11_0 hfz11_1)
  (try clear hfz11_10)
  (try clear hfz11_2 hfz11_3 hfz11_4 hfz11_5 hfz11_6 hfz11_7 hfz11_8 hfz11_9)
  (try clear hfz13_0 hfz13_1)
  (try clear hfz13_10)
  (try clear hfz13_2 hfz13_3 hfz13_4 hfz13_5 hfz13_6 hfz13_7 hfz13_8 hfz13_9)
  (try clear hfz15_0 hfz15_1)
  (try clear hfz15_10)
  (try clear hfz15_2 hfz15_3 hfz15_4 hfz15_5 hfz15_6 hfz15_7 hfz15_8 hfz15_9)
  (try clear hfz17_0 hfz17_1)
  (try clear hfz17_10)
  (try clear hfz17_2 hfz17_3 hfz17_4 hfz17_5 hfz17_6 hfz17_7 hfz17_8 hfz17_9)
  (try clear hfz19_0 hfz19_1)
  (try clear hfz19_10)
  (try clear hfz19_2 hfz19_3 hfz19_4 hfz19_5 hfz19_6 hfz19_7 hfz19_8 hfz19_9)
  (try clear hfz21_0 hfz21_1)
  (try clear hfz21_10)
  (try clear hfz21_2 hfz21_3 hfz21_4 hfz21_5 hfz21_6 hfz21_7 hfz21_8 hfz21_9)
  (try clear hfz23_0 hfz23_1)
  (try clear hfz23_10)
  (try clear hfz23_2 hfz23_3 hfz23_4 hfz23_5 hfz23_6 hfz23_7 hfz23_8 hfz23_9)
  obtain ⟨kq, x30_3, rfl, HA, HJ3, BK341, HB⟩ := hcut
  cases kq with
  | zero => exact absurd HA.out (by simp [revetmentlaw09_PlanParts.j0])
  | succ kj3 =>
   have H := HA.out
   clear HA
   simp only [revetmentlaw09_PlanParts.j0] at H
   by_cases c25 : x30_3 = true
   ·subst c25
    have H1 : ((revetmentlaw09_live.f).bind fun t344 => (some t344)) = some true := by rw [if_pos rfl] at H; exact H
    clear H
    have H := H1
    clear H1
    replace H := Option.bind_eq_some_iff.mp H
    obtain ⟨t344, A260, H⟩ := H
    replace H : (some t344) = some true := H
    have A26 := Aside0.mk A260
    clear A260
    obtain rfl := Option.some.inj H
    go_wp2_with (first | ((with_reducible refine gate_callee (f := 39) rfl ?_); refine goesL_ (some 31) rfl rfl Try.func39 (by kernel_rfl) rfl #[] rfl (by (try simp only [List.map_toArray, List.map_cons, List.map_nil]); first | done | rfl | (simp only [List.length_drop, List.length_take]; rfl)) ?_; (with_reducible refine (revetmentlaw09_live.calls  true _ A26.out).mono ?_); rintro e w27 ⟨rfl, hb⟩; refine ⟨_, rfl, ?_⟩; have n0_ := bkb BK341 hb; have n1_ := bst HB hb; clear BK341; clear HB; have BK341 := n0_; have HB := n1_; clear n0_ n1_; (try clear hb); (try clear hb2); (try clear hk); (try clear hi)))
    go_ret
    exact ⟨by first | rfl | (simp [errW_none, errW_some] <;> rfl) | (simp [*, errW_none, errW_some] <;> rfl), bl HB⟩
   ·replace c25 := Bool.eq_false_iff.mpr c25
    subst c25
    have H1 : ((plan_Steps.f a0_0 a0_1 a0_2 a0_3 a0_4 a0_5 a0_6 a0_7 a0_8 a0_9 a0_10 0 a1).bind fun t345 => ((some (([] : List (S53)) : List (S53))).bind fun y348 => ((plan_Steps.f a0_0 a0_1 a0_2 a0_3 a0_4 a0_5 a0_6 a0_7 a0_8 a0_9 a0_10 0 a2).bind fun t351 => (if y348.length + t351.length < 3518437208883 then ((some (y348 ++ t351 : List (S53))).bind fun y354 => ((plan_Steps.f a0_0 a0_1 a0_2 a0_3 a0_4 a0_5 a0_6 a0_7 a0_8 a0_9 a0_10 a2 (wrap64 (a1 - a2))).bind fun t357 => (if y354.length + t357.length < 3518437208883 then ((revetmentref09_Same.f kj3 t345 (y354 ++ t357)).bind fun t363 => (if t363 = true then (if 0 ≤ a0_1 then (if (a0_1 : Int).toNat ≤ 35184372088832 then (revetmentlaw09_PlanParts.l0 kj3 a1 t345 (List.replicate (a0_1 : Int).toNat 0) 0 a0_0 a0_1 a0_2 a0_3 a0_4 a0_5 a0_6 a0_7 a0_8 a0_9 a0_10) else (none)) else (none)) else (some false))) else (none)))) else (none))))) = some true := by rw [if_neg (show ¬ (false = true) by decide)] at H; exact H
    clear H
    have H := H1
    clear H1
    replace H := Option.bind_eq_some_iff.mp H
    obtain ⟨t345, A280, H⟩ := H
    replace H : ((some (([] : List (S53)) : List (S53))).bind fun y348 => ((plan_Steps.f a0_0 a0_1 a0_2 a0_3 a0_4 a0_5 a0_6 a0_7 a0_8 a0_9 a0_10 0 a2).bind fun t351 => (if y348.length + t351.length < 3518437208883 then ((some (y348 ++ t351 : List (S53))).bind fun y354 => ((plan_Steps.f a0_0 a0_1 a0_2 a0_3 a0_4 a0_5 a0_6 a0_7 a0_8 a0_9 a0_10 a2 (wrap64 (a1 - a2))).bind fun t357 => (if y354.length + t357.length < 3518437208883 then ((revetmentref09_Same.f kj3 t345 (y354 ++ t357)).bind fun t363 => (if t363 = true then (if 0 ≤ a0_1 then (if (a0_1 : Int).toNat ≤ 35184372088832 then (revetmentlaw09_PlanParts.l0 kj3 a1 t345 (List.replicate (a0_1 : Int).toNat 0) 0 a0_0 a0_1 a0_2 a0_3 a0_4 a0_5 a0_6 a0_7 a0_8 a0_9 a0_10) else (none)) else (none)) else (some false))) else (none)))) else (none)))) = some true := H
    have A28 := Aside0.mk A280
    clear A280
    obtain ⟨y348, hy348⟩ : ∃ y_ : List (S53), y_ = (([] : List (S53))) := ⟨_, rfl⟩
    replace H : ((plan_Steps.f a0_0 a0_1 a0_2 a0_3 a0_4 a0_5 a0_6 a0_7 a0_8 a0_9 a0_10 0 a2).bind fun t351 => (if y348.length + t351.length < 3518437208883 then ((some (y348 ++ t351 : List (S53))).bind fun y354 => ((plan_Steps.f a0_0 a0_1 a0_2 a0_3 a0_4 a0_5 a0_6 a0_7 a0_8 a0_9 a0_10 a2 (wrap64 (a1 - a2))).bind fun t357 => (if y354.length + t357.length < 3518437208883 then ((revetmentref09_Same.f kj3 t345 (y354 ++ t357)).bind fun t363 => (if t363 = true then (if 0 ≤ a0_1 then (if (a0_1 : Int).toNat ≤ 35184372088832 then (revetmentlaw09_PlanParts.l0 kj3 a1 t345 (List.replicate (a0_1 : Int).toNat 0) 0 a0_0 a0_1 a0_2 a0_3 a0_4 a0_5 a0_6 a0_7 a0_8 a0_9 a0_10) else (none)) else (none)) else (some false))) else (none)))) else (none))) = some true := by first | (rw [hy348]; with_reducible exact H) | (have H2_ := (Option.bind_some _ _).symm.trans H; rw [hy348]; with_reducible exact H2_) | (have H2_ := (Option.bind_some _ _).symm.trans H; with_reducible exact H2_) | with_reducible exact H | (rw [hy348]; exact H) | exact H
    have Ny348 := Aside0.mk hy348
    clear hy348
    replace H := Option.bind_eq_some_iff.mp H
    obtain ⟨t351, A290, H⟩ := H
    replace H : (if y348.length + t351.length < 3518437208883 then ((some (y348 ++ t351 : List (S53))).bind fun y354 => ((plan_Steps.f a0_0 a0_1 a0_2 a0_3 a0_4 a0_5 a0_6 a0_7 a0_8 a0_9 a0_10 a2 (wrap64 (a1 - a2))).bind fun t357 => (if y354.length + t357.length < 3518437208883 then ((revetmentref09_Same.f kj3 t345 (y354 ++ t357)).bind fun t363 => (if t363 = true then (if 0 ≤ a0_1 then (if (a0_1 : Int).toNat ≤ 35184372088832 then (revetmentlaw09_PlanParts.l0 kj3 a1 t345 (List.replicate (a0_1 : Int).toNat 0) 0 a0_0 a0_1 a0_2 a0_3 a0_4 a0_5 a0_6 a0_7 a0_8 a0_9 a0_10) else (none)) else (none)) else (some false))) else (none)))) else (none)) = some true := H
    have A29 := Aside0.mk A290
    clear A290
    by_cases c30 : y348.length + t351.length < 3518437208883
    ·rw [if_pos c30] at H
     have LMc30 := Aside0.mk c30
     clear c30
     obtain ⟨y354, hy354⟩ : ∃ y_ : List (S53), y_ = (y348 ++ t351) := ⟨_, rfl⟩
     replace H : ((plan_Steps.f a0_0 a0_1 a0_2 a0_3 a0_4 a0_5 a0_6 a0_7 a0_8 a0_9 a0_10 a2 (wrap64 (a1 - a2))).bind fun t357 => (if y354.length + t357.length < 3518437208883 then ((revetmentref09_Same.f kj3 t345 (y354 ++ t357)).bind fun t363 => (if t363 = true then (if 0 ≤ a0_1 then (if (a0_1 : Int).toNat ≤ 35184372088832 then (revetmentlaw09_PlanParts.l0 kj3 a1 t345 (List.replicate (a0_1 : Int).toNat 0) 0 a0_0 a0_1 a0_2 a0_3 a0_4 a0_5 a0_6 a0_7 a0_8 a0_9 a0_10) else (none)) else (none)) else (some false))) else (none))) = some true := by first | (rw [hy354]; with_reducible exact H) | (have H2_ := (Option.bind_some _ _).symm.trans H; rw [hy354]; with_reducible exact H2_) | (have H2_ := (Option.bind_some _ _).symm.trans H; with_reducible exact H2_) | with_reducible exact H | (rw [hy354]; exact H) | exact H
     have Ny354 := Aside0.mk hy354
     clear hy354
     replace H := Option.bind_eq_some_iff.mp H
     obtain ⟨t357, A310, H⟩ := H
     replace H : (if y354.length + t357.length < 3518437208883 then ((revetmentref09_Same.f kj3 t345 (y354 ++ t357)).bind fun t363 => (if t363 = true then (if 0 ≤ a0_1 then (if (a0_1 : Int).toNat ≤ 35184372088832 then (revetmentlaw09_PlanParts.l0 kj3 a1 t345 (List.replicate (a0_1 : Int).toNat 0) 0 a0_0 a0_1 a0_2 a0_3 a0_4 a0_5 a0_6 a0_7 a0_8 a0_9 a0_10) else (none)) else (none)) else (some false))) else (none)) = some true := H
     have A31 := Aside0.mk A310
     clear A310
     by_cases c32 : y354.length + t357.length < 3518437208883
     ·rw [if_pos c32] at H
      have LMc32 := Aside0.mk c32
      clear c32
      obtain ⟨y360, hy360⟩ : ∃ y_ : List (S53), y_ = (y354 ++ t357) := ⟨_, rfl⟩
      replace H : ((revetmentref09_Same.f kj3 t345 y360).bind fun t363 => (if t363 = true then (if 0 ≤ a0_1 then (if (a0_1 : Int).toNat ≤ 35184372088832 then (revetmentlaw09_PlanParts.l0 kj3 a1 t345 (List.replicate (a0_1 : Int).toNat 0) 0 a0_0 a0_1 a0_2 a0_3 a0_4 a0_5 a0_6 a0_7 a0_8 a0_9 a0_10) else (none)) else (none)) else (some false))) = some true := by first | (rw [hy360]; with_reducible exact H) | (have H2_ := (Option.bind_some _ _).symm.trans H; rw [hy360]; with_reducible exact H2_) | (have H2_ := (Option.bind_some _ _).symm.trans H; with_reducible exact H2_) | with_reducible exact H | (rw [hy360]; exact H) | exact H
      have Ny360 := Aside0.mk hy360
      clear hy360
      replace H := Option.bind_eq_some_iff.mp H
      obtain ⟨t363, A330, H⟩ := H
      replace H : (if t363 = true then (if 0 ≤ a0_1 then (if (a0_1 : Int).toNat ≤ 35184372088832 then (revetmentlaw09_PlanParts.l0 kj3 a1 t345 (List.replicate (a0_1 : Int).toNat 0) 0 a0_0 a0_1 a0_2 a0_3 a0_4 a0_5 a0_6 a0_7 a0_8 a0_9 a0_10) else (none)) else (none)) else (some false)) = some true := H
      have A33 := Aside0.mk A330
      clear A330
      by_cases c34 : t363 = true
      ·subst c34
       have H1 : (if 0 ≤ a0_1 then (if (a0_1 : Int).toNat ≤ 35184372088832 then (revetmentlaw09_PlanParts.l0 kj3 a1 t345 (List.replicate (a0_1 : Int).toNat 0) 0 a0_0 a0_1 a0_2 a0_3 a0_4 a0_5 a0_6 a0_7 a0_8 a0_9 a0_10) else (none)) else (none)) = some true := by rw [if_pos rfl] at H; exact H
       clear H
       have H := H1
       clear H1
       by_cases c35 : 0 ≤ a0_1
       ·rw [if_pos c35] at H
        have c35b0 := eq_true c35
        have c35b1 : decide (0 ≤ a0_1) = true := decide_eq_true c35
        clear c35
        by_cases c36 : (a0_1 : Int).toNat ≤ 35184372088832
        ·rw [if_pos c36] at H
         have c36b0 := eq_true c36
         have c36b1 : decide ((a0_1 : Int).toNat ≤ 35184372088832) = true := decide_eq_true c36
         clear c36
         obtain ⟨y364, hy364⟩ : ∃ y_ : List Int, y_ = (List.replicate (a0_1 : Int).toNat 0) := ⟨_, rfl⟩
         replace H : (revetmentlaw09_PlanParts.l0 kj3 a1 t345 y364 0 a0_0 a0_1 a0_2 a0_3 a0_4 a0_5 a0_6 a0_7 a0_8 a0_9 a0_10) = some true := by first | (rw [hy364]; with_reducible exact H) | (have H2_ := (Option.bind_some _ _).symm.trans H; rw [hy364]; with_reducible exact H2_) | (have H2_ := (Option.bind_some _ _).symm.trans H; with_reducible exact H2_) | with_reducible exact H | (rw [hy364]; exact H) | exact H
         have Ny364 := Aside0.mk hy364
         clear hy364
         have H' := Aside0.mk H
         clear H
         obtain ⟨hcz37_0, hcz37_1, hcz37_2, hcz37_3, hcz37_4, hcz37_5, hcz37_6, hcz37_7, hcz37_8, hcz37_9, hcz37_10⟩ := cz11 BK341.out
         try go_wp2_with (first | ((with_reducible refine gate_callee (f := 40) rfl ?_); refine goesL_ (some 34) rfl rfl Try.func40 (by kernel_rfl) rfl #[.agg #[.int .i64 a0_0, .int .i64 a0_1, .int .i64 a0_2, .int .i64 a0_3, .int .i64 a0_4, .int .i64 a0_5, .int .i64 a0_6, .int .i64 a0_7, .int .i64 a0_8, .int .i64 a0_9, .int .i64 a0_10], .int .i64 0, .int .i64 a1] rfl (by (try simp only [List.map_toArray, List.map_cons, List.map_nil]); first | done | rfl | (simp only [List.length_drop, List.length_take]; rfl)) ?_; (with_reducible refine (plan_Steps.calls a0_0 a0_1 a0_2 a0_3 a0_4 a0_5 a0_6 a0_7 a0_8 a0_9 a0_10 0 a1 t345 _ A28.out).mono ?_); rintro e w38 ⟨v346, rfl, ho0, hb⟩; refine ⟨_, rfl, ?_⟩; have n0_ := Aside0.mk (Kd.R_lower ho0 (below_size (bl HB))); have n1_ := bkb BK341 hb; have n2_ := bst HB hb; clear BK341; clear HB; have HO347 := n0_; have BK341 := n1_; have HB := n2_; clear n0_ n1_ n2_; (try clear hb); (try clear hb2); (try clear hk); (try clear hi); (try clear ho0)))
         replace HO347 := Aside0.mk (Kd.R_drew HO347.out)
         replace BK341 := Aside0.mk (blk_drew BK341.out)
         replace HB := Aside0.mk (below_drew1 HB.out)
         refine start_ (n := 13) (S := fun w' => w'.cell? ⟨gb341, 0, none⟩ = some (.int .i64 a0_0) ∧ w'.cell? ⟨gb341, 1, none⟩ = some (.int .i64 a0_1) ∧ w'.cell? ⟨gb341, 2, none⟩ = some (.int .i64 a0_2) ∧ w'.cell? ⟨gb341, 3, none⟩ = some (.int .i64 a0_3) ∧ w'.cell? ⟨gb341, 4, none⟩ = some (.int .i64 a0_4) ∧ w'.cell? ⟨gb341, 5, none⟩ = some (.int .i64 a0_5) ∧ w'.cell? ⟨gb341, 6, none⟩ = some (.int .i64 a0_6) ∧ w'.cell? ⟨gb341, 7, none⟩ = some (.int .i64 a0_7) ∧ w'.cell? ⟨gb341, 8, none⟩ = some (.int .i64 a0_8) ∧ w'.cell? ⟨gb341, 9, none⟩ = some (.int .i64 a0_9) ∧ w'.cell? ⟨gb341, 10, none⟩ = some (.int .i64 a0_10)) (ds := []) (bq 13 0) (by kernel_rfl) rfl rfl (cz11 BK341.out) (fun hHeld => ?_); refine with_tabW revetmentlaw09_PlanParts.tab4 revetmentlaw09_PlanParts.bits4 (fun HT_ HW_ => ?_)
         generalize w38.drew = w39 at HO347 BK341 HB hHeld ⊢
         apply pu 2 37 (bq 13 4) HT_
         apply pu 6 41 (bq 13 68) HT_
         apply pu 7 42 (bq 13 196) HT_
         apply pu 8 43 (bq 13 452) HT_
         apply pu 9 44 (bq 13 964) HT_
         apply tu 1 36 (bq 13 966) HT_ HW_ hHeld
         apply tu 5 40 (bq 13 998) HT_ HW_ hHeld
         refine join_ (σ := Value × Value) 4 (bq 13 1007) (fun s_ => [(35, s_.1), (38, s_.2)]) (fun s_ w' => (w'.cell? ⟨gb341, 0, none⟩ = some (.int .i64 a0_0) ∧ w'.cell? ⟨gb341, 1, none⟩ = some (.int .i64 a0_1) ∧ w'.cell? ⟨gb341, 2, none⟩ = some (.int .i64 a0_2) ∧ w'.cell? ⟨gb341, 3, none⟩ = some (.int .i64 a0_3) ∧ w'.cell? ⟨gb341, 4, none⟩ = some (.int .i64 a0_4) ∧ w'.cell? ⟨gb341, 5, none⟩ = some (.int .i64 a0_5) ∧ w'.cell? ⟨gb341, 6, none⟩ = some (.int .i64 a0_6) ∧ w'.cell? ⟨gb341, 7, none⟩ = some (.int .i64 a0_7) ∧ w'.cell? ⟨gb341, 8, none⟩ = some (.int .i64 a0_8) ∧ w'.cell? ⟨gb341, 9, none⟩ = some (.int .i64 a0_9) ∧ w'.cell? ⟨gb341, 10, none⟩ = some (.int .i64 a0_10)) ∧ (Kd.R k53 53 w' w.heap.size (fun k_ => some k_ ≠ (s_.1 : Value).ownBlock ∧ some k_ ≠ (s_.2 : Value).ownBlock) v346 t345) ∧ (Kd.R k53 53 w' w.heap.size (fun k_ => some k_ ≠ (v346 : Value).ownBlock ∧ some k_ ≠ (s_.2 : Value).ownBlock) s_.1 y348) ∧ (Kd.R k53 53 w' w.heap.size (fun k_ => some k_ ≠ (v346 : Value).ownBlock ∧ some k_ ≠ (s_.1 : Value).ownBlock) s_.2 t351) ∧ (w'.heap[gb341]? = some (.cells #[.int .i64 a0_0, .int .i64 a0_1, .int .i64 a0_2, .int .i64 a0_3, .int .i64 a0_4, .int .i64 a0_5, .int .i64 a0_6, .int .i64 a0_7, .int .i64 a0_8, .int .i64 a0_9, .int .i64 a0_10] 23 (0, 0))) ∧ (Below w.heap.size w w')) ?_ ?_
         rotate_left
         ·intro hCont
          refine two_ (i := 0) (j := 3) (Ni := some 35) (Nj := some 38) (bq 13 999) (bq 13 1006) rfl rfl rfl rfl (two_of HT_.out (by kernel_rfl)) (by decide) (by decide) (fun K hK => ?_) (fun K hK => ?_)
          ·skip
           refine Kd.R_lit_step k53 _ 53 ?hg (N := 35) ?hd (xs := ([] : List (S53))) (inner := []) (ok := fun _ => True) (okp := fun _ => True) ?hr ?hp (fun _ hk => hk) trivial (Below.refl _ _) (Nat.le_refl _) (by simp) ?_; (case hd => rfl); (case hg => rfl); (case hr => first | (go_simp; done) | (go_simp; rfl)); (case hp => exact (Reps.none _ _))
           intro v349 w40 ho41 hb hg_ hnew_
           clear hg_ hnew_
           (first | rw [← Ny348.out] at ho41 | (simp only [Int.reduceToNat] at ho41; rw [← Ny348.out] at ho41))
           have n0_ := Aside0.mk (Kd.R_elder' (by (with_reducible repeat (first | apply Kd.R_alloc | apply Kd.R_drewN | apply Kd.R_drew)); exact HO347.out) (Kd.R_base ho41) hb)
           have n1_ := Aside0.mk (Kd.R_lower (Kd.R_new' ho41 (Kd.R_lt (by (with_reducible repeat (first | apply Kd.R_alloc | apply Kd.R_drewN | apply Kd.R_drew)); exact HO347.out))) (below_size (bl HB)))
           have n2_ := bkb BK341 hb
           have n3_ := bst HB hb
           clear HO347
           clear BK341
           clear HB
           have HO347 := n0_
           have HO350 := n1_
           have BK341 := n2_
           have HB := n3_
           clear n0_ n1_ n2_ n3_
           clear hb ho41
           refine hK.out _ _ sc (fun hHeld => ?_)
           clear hK K
           apply nm 0
           refine one_ (i := 3) (N := some 38) (bq 13 1007) rfl rfl (one_of HT_.out (by kernel_rfl)) (by decide) (fun K hK => ?_)
           refine gs Try.func40 #[.agg #[.int .i64 a0_0, .int .i64 a0_1, .int .i64 a0_2, .int .i64 a0_3, .int .i64 a0_4, .int .i64 a0_5, .int .i64 a0_6, .int .i64 a0_7, .int .i64 a0_8, .int .i64 a0_9, .int .i64 a0_10], .int .i64 0, .int .i64 a2] ?_
           with_reducible refine (plan_Steps.calls a0_0 a0_1 a0_2 a0_3 a0_4 a0_5 a0_6 a0_7 a0_8 a0_9 a0_10 0 a2 t351 _ A29.out).mono ?_
           rintro e w42 ⟨v352, rfl, ho0, hb⟩
           refine ⟨_, rfl, ?_⟩
           have n0_ := Aside0.mk (Kd.R_elder' (by (with_reducible repeat (first | apply Kd.R_alloc | apply Kd.R_drewN | apply Kd.R_drew)); exact HO347.out) (Kd.R_base ho0) hb)
           have n1_ := Aside0.mk (Kd.R_elder' (by (with_reducible repeat (first | apply Kd.R_alloc | apply Kd.R_drewN | apply Kd.R_drew)); exact HO350.out) (Kd.R_base ho0) hb)
           have n2_ := Aside0.mk (Kd.R_lower (Kd.R_new' (Kd.R_new' ho0 (Kd.R_lt (by (with_reducible repeat (first | apply Kd.R_alloc | apply Kd.R_drewN | apply Kd.R_drew)); exact HO347.out))) (Kd.R_lt (by (with_reducible repeat (first | apply Kd.R_alloc | apply Kd.R_drewN | apply Kd.R_drew)); exact HO350.out))) (below_size (bl HB)))
           have n3_ := bkb BK341 hb
           have n4_ := bst HB hb
           clear HO347
           clear HO350
           clear BK341
           clear HB
           have HO347 := n0_
           have HO350 := n1_
           have HO353 := n2_
           have BK341 := n3_
           have HB := n4_
           clear n0_ n1_ n2_ n3_ n4_
           try clear hb; try clear hb2; try clear hk; try clear hi
           (try clear ho0)
           refine hK.out _ _ sc (fun hHeld => ?_)
           clear hK K
           apply nm 0
           exact norm_ (by simp only [putAll, Act.put, List.setIfInBounds_toArray, List.set_cons_zero, List.set_cons_succ]) (hCont (v349, v352) _ ⟨hHeld, (by (with_reducible repeat (first | apply Kd.R_alloc | apply Kd.R_drewN | apply Kd.R_drew)); exact Kd.R_mono HO347.out (fun _ hk => ⟨hk.1.2, hk.2⟩)), (by (with_reducible repeat (first | apply Kd.R_alloc | apply Kd.R_drewN | apply Kd.R_drew)); exact Kd.R_mono HO350.out (fun _ hk => ⟨hk.1.2, hk.2⟩)), (by (with_reducible repeat (first | apply Kd.R_alloc | apply Kd.R_drewN | apply Kd.R_drew)); exact Kd.R_mono HO353.out (fun _ hk => ⟨hk.1.2, hk.2⟩)), (by (with_reducible repeat (first | refine blk_drewN ?_ _ | refine blk_drew ?_ | refine blk_alloc ?_ _)); exact BK341.out), (bl HB)⟩)
          ·skip
           refine gs Try.func40 #[.agg #[.int .i64 a0_0, .int .i64 a0_1, .int .i64 a0_2, .int .i64 a0_3, .int .i64 a0_4, .int .i64 a0_5, .int .i64 a0_6, .int .i64 a0_7, .int .i64 a0_8, .int .i64 a0_9, .int .i64 a0_10], .int .i64 0, .int .i64 a2] ?_
           with_reducible refine (plan_Steps.calls a0_0 a0_1 a0_2 a0_3 a0_4 a0_5 a0_6 a0_7 a0_8 a0_9 a0_10 0 a2 t351 _ A29.out).mono ?_
           rintro e w40 ⟨v352, rfl, ho0, hb⟩
           refine ⟨_, rfl, ?_⟩
           have n0_ := Aside0.mk (Kd.R_elder' (by (with_reducible repeat (first | apply Kd.R_alloc | apply Kd.R_drewN | apply Kd.R_drew)); exact HO347.out) (Kd.R_base ho0) hb)
           have n1_ := Aside0.mk (Kd.R_lower (Kd.R_new' ho0 (Kd.R_lt (by (with_reducible repeat (first | apply Kd.R_alloc | apply Kd.R_drewN | apply Kd.R_drew)); exact HO347.out))) (below_size (bl HB)))
           have n2_ := bkb BK341 hb
           have n3_ := bst HB hb
           clear HO347
           clear BK341
           clear HB
           have HO347 := n0_
           have HO353 := n1_
           have BK341 := n2_
           have HB := n3_
           clear n0_ n1_ n2_ n3_
           try clear hb; try clear hb2; try clear hk; try clear hi
           (try clear ho0)
           refine hK.out _ _ sc (fun hHeld => ?_)
           clear hK K
           apply nm 0
           refine one_ (i := 0) (N := some 35) (bq 13 1007) rfl rfl (one_of HT_.out (by kernel_rfl)) (by decide) (fun K hK => ?_)
           refine Kd.R_lit_step k53 _ 53 ?hg (N := 35) ?hd (xs := ([] : List (S53))) (inner := []) (ok := fun _ => True) (okp := fun _ => True) ?hr ?hp (fun _ hk => hk) trivial (Below.refl _ _) (Nat.le_refl _) (by simp) ?_; (case hd => rfl); (case hg => rfl); (case hr => first | (go_simp; done) | (go_simp; rfl)); (case hp => exact (Reps.none _ _))
           intro v349 w41 ho42 hb hg_ hnew_
           clear hg_ hnew_
           (first | rw [← Ny348.out] at ho42 | (simp only [Int.reduceToNat] at ho42; rw [← Ny348.out] at ho42))
           have n0_ := Aside0.mk (Kd.R_elder' (by (with_reducible repeat (first | apply Kd.R_alloc | apply Kd.R_drewN | apply Kd.R_drew)); exact HO347.out) (Kd.R_base ho42) hb)
           have n1_ := Aside0.mk (Kd.R_elder' (by (with_reducible repeat (first | apply Kd.R_alloc | apply Kd.R_drewN | apply Kd.R_drew)); exact HO353.out) (Kd.R_base ho42) hb)
           have n2_ := Aside0.mk (Kd.R_lower (Kd.R_new' (Kd.R_new' ho42 (Kd.R_lt (by (with_reducible repeat (first | apply Kd.R_alloc | apply Kd.R_drewN | apply Kd.R_drew)); exact HO347.out))) (Kd.R_lt (by (with_reducible repeat (first | apply Kd.R_alloc | apply Kd.R_drewN | apply Kd.R_drew)); exact HO353.out))) (below_size (bl HB)))
           have n3_ := bkb BK341 hb
           have n4_ := bst HB hb
           clear HO347
           clear HO353
           clear BK341
           clear HB
           have HO347 := n0_
           have HO353 := n1_
           have HO350 := n2_
           have BK341 := n3_
           have HB := n4_
           clear n0_ n1_ n2_ n3_ n4_
           clear hb ho42
           refine hK.out _ _ sc (fun hHeld => ?_)
           clear hK K
           apply nm 0
           exact norm_ (by simp only [putAll, Act.put, List.setIfInBounds_toArray, List.set_cons_zero, List.set_cons_succ]) (hCont (v349, v352) _ ⟨hHeld, (by (with_reducible repeat (first | apply Kd.R_alloc | apply Kd.R_drewN | apply Kd.R_drew)); exact Kd.R_mono HO347.out (fun _ hk => ⟨hk.2, hk.1.2⟩)), (by (with_reducible repeat (first | apply Kd.R_alloc | apply Kd.R_drewN | apply Kd.R_drew)); exact Kd.R_mono HO350.out (fun _ hk => ⟨hk.1.2, hk.2⟩)), (by (with_reducible repeat (first | apply Kd.R_alloc | apply Kd.R_drewN | apply Kd.R_drew)); exact Kd.R_mono HO353.out (fun _ hk => ⟨hk.1.2, hk.2⟩)), (by (with_reducible repeat (first | refine blk_drewN ?_ _ | refine blk_drew ?_ | refine blk_alloc ?_ _)); exact BK341.out), (bl HB)⟩)
         rintro ⟨v349, v352⟩ w43 ⟨hS_, h0_, h1_, h2_, h3_, h4_⟩
         have n0_ : Aside0 (Kd.R k53 53 w43 w.heap.size (fun k_ => some k_ ≠ (v349 : Value).ownBlock ∧ some k_ ≠ (v352 : Value).ownBlock) v346 t345) := ⟨h0_⟩
         have n1_ : Aside0 (Kd.R k53 53 w43 w.heap.size (fun k_ => some k_ ≠ (v346 : Value).ownBlock ∧ some k_ ≠ (v352 : Value).ownBlock) v349 y348) := ⟨h1_⟩
         have n2_ : Aside0 (Kd.R k53 53 w43 w.heap.size (fun k_ => some k_ ≠ (v346 : Value).ownBlock ∧ some k_ ≠ (v349 : Value).ownBlock) v352 t351) := ⟨h2_⟩
         have n3_ : Aside0 (w43.heap[gb341]? = some (.cells #[.int .i64 a0_0, .int .i64 a0_1, .int .i64 a0_2, .int .i64 a0_3, .int .i64 a0_4, .int .i64 a0_5, .int .i64 a0_6, .int .i64 a0_7, .int .i64 a0_8, .int .i64 a0_9, .int .i64 a0_10] 23 (0, 0))) := ⟨h3_⟩
         have n4_ : Aside0 (Below w.heap.size w w43) := ⟨h4_⟩
         clear HO347
         clear BK341
         clear HB
         clear h0_ h1_ h2_ h3_ h4_
         have HO347 := n0_
         have HO350 := n1_
         have HO353 := n2_
         have BK341 := n3_
         have HB := n4_
         clear n0_ n1_ n2_ n3_ n4_
         have hHeld : w43.cell? ⟨gb341, 0, none⟩ = some (.int .i64 a0_0) ∧ w43.cell? ⟨gb341, 1, none⟩ = some (.int .i64 a0_1) ∧ w43.cell? ⟨gb341, 2, none⟩ = some (.int .i64 a0_2) ∧ w43.cell? ⟨gb341, 3, none⟩ = some (.int .i64 a0_3) ∧ w43.cell? ⟨gb341, 4, none⟩ = some (.int .i64 a0_4) ∧ w43.cell? ⟨gb341, 5, none⟩ = some (.int .i64 a0_5) ∧ w43.cell? ⟨gb341, 6, none⟩ = some (.int .i64 a0_6) ∧ w43.cell? ⟨gb341, 7, none⟩ = some (.int .i64 a0_7) ∧ w43.cell? ⟨gb341, 8, none⟩ = some (.int .i64 a0_8) ∧ w43.cell? ⟨gb341, 9, none⟩ = some (.int .i64 a0_9) ∧ w43.cell? ⟨gb341, 10, none⟩ = some (.int .i64 a0_10) := hS_
         obtain ⟨Ao45, co45, eo45⟩ := Kd.R_slice HO353.out
         (first | subst eo45 | (injection eo45 with f1_ f2_ f3_; have f4_ := f1_.symm; have f5_ := f3_.symm; clear f1_ f2_ f3_; subst f4_; subst f5_))
         refine norm_ (a' := ?_) ?_ ?_
         rotate_left
         ·simp only [putAll, Act.put, List.setIfInBounds_toArray, List.set_cons_zero, List.set_cons_succ]
          rfl
         refine one_ (i := 4) (N := some 39) (bq 13 1023) rfl rfl (one_of HT_.out (by kernel_rfl)) (by decide) (fun K hK => ?_)
         refine Kd.R_append_rows_step k53 (w0 := w) w.heap.size (by rfl) (.tmp 35) (.tmp 38) 49 53 (.agg #[(.bool false), (.int .i64 0), (.int .i64 0), (.int .i64 0), (.int .i64 0)]) 40 rfl Try.underlying49 info53 rfl (by decide) (by omega) v349 y348 t351 _ _ _ (fun k_ => some k_ ≠ (v346 : Value).ownBlock ∧ some k_ ≠ (.slice Ao45 t351.length co45 : Value).ownBlock) (fun _ => False) rfl rfl ?aO ?aR (fun _ _ h => h) (fun _ h => h.elim) ?aF ?aB ?aS ?aL ?_
         (case aR => repeat (first | exact (Kd.R_reads' HO353.out).2.2 | (with_reducible refine Kd.C_alloc ?_ _) | (with_reducible refine Kd.C_drewN ?_ _) | (with_reducible refine Kd.C_drew ?_)))
         (case aB => exact (bl HB))
         (case aF => exact (fun k_ hk => ⟨Kd.fresh' (Kd.R_lt (by (with_reducible repeat (first | apply Kd.R_alloc | apply Kd.R_drewN | apply Kd.R_drew)); exact HO347.out)) k_ hk, Kd.fresh' (Kd.R_lt (by (with_reducible repeat (first | apply Kd.R_alloc | apply Kd.R_drewN | apply Kd.R_drew)); exact HO353.out)) k_ hk⟩))
         (case aO => exact (by (with_reducible repeat (first | apply Kd.R_alloc | apply Kd.R_drewN | apply Kd.R_drew)); exact HO350.out))
         (case aS => exact (below_size (bl HB)))
         (case aL => have := LMc30.out; omega)
         intro v355 w44 ho hb hg hat
         rw [← Ny354.out] at ho
         have n0_ := Aside0.mk (blk_grown (g := gb341) (o := .cells #[.int .i64 a0_0, .int .i64 a0_1, .int .i64 a0_2, .int .i64 a0_3, .int .i64 a0_4, .int .i64 a0_5, .int .i64 a0_6, .int .i64 a0_7, .int .i64 a0_8, .int .i64 a0_9, .int .i64 a0_10] 23 (0, 0)) (by (with_reducible repeat (first | refine blk_drewN ?_ _ | refine blk_drew ?_ | refine blk_alloc ?_ _)); exact BK341.out) hg (Kd.R_ne HO350.out BK341.out (by decide)))
         have n1_ := Aside0.mk (Kd.R_after (ok := (fun k_ => some k_ ≠ (.slice Ao45 t351.length co45 : Value).ownBlock)) (by (with_reducible repeat (first | apply Kd.R_alloc | apply Kd.R_drewN | apply Kd.R_drew)); exact Kd.R_mono HO347.out (fun _ hk => ⟨hk.2, hk.1⟩)) hg hat)
         have n2_ := Aside0.mk (Kd.R_after (ok := (fun k_ => some k_ ≠ (v346 : Value).ownBlock)) (by (with_reducible repeat (first | apply Kd.R_alloc | apply Kd.R_drewN | apply Kd.R_drew)); exact HO353.out) hg hat)
         have n3_ := Aside0.mk (hb)
         have n4_ := Aside0.mk (ho)
         clear BK341
         clear HO347
         clear HO353
         clear HB
         clear HO350
         have BK341 := n0_
         have HO347 := n1_
         have HO353 := n2_
         have HB := n3_
         have HO356 := n4_
         clear n0_ n1_ n2_ n3_ n4_
         clear ho hb hg hat
         refine hK.out _ _ sc (fun hHeld => ?_)
         clear hK K
         apply nm 0
         refine one_ (i := 10) (N := some 45) (bq 13 2047) rfl rfl (one_of HT_.out (by kernel_rfl)) (by decide) (fun K hK => ?_)
         refine gs Try.func40 #[.agg #[.int .i64 a0_0, .int .i64 a0_1, .int .i64 a0_2, .int .i64 a0_3, .int .i64 a0_4, .int .i64 a0_5, .int .i64 a0_6, .int .i64 a0_7, .int .i64 a0_8, .int .i64 a0_9, .int .i64 a0_10], .int .i64 a2, .int .i64 (wrap64 (a1 - a2))] ?_
         with_reducible refine (plan_Steps.calls a0_0 a0_1 a0_2 a0_3 a0_4 a0_5 a0_6 a0_7 a0_8 a0_9 a0_10 a2 (wrap64 (a1 - a2)) t357 _ A31.out).mono ?_
         rintro e w46 ⟨v358, rfl, ho0, hb⟩
         refine ⟨_, rfl, ?_⟩
         have n0_ := Aside0.mk (Kd.R_elder' (by (with_reducible repeat (first | apply Kd.R_alloc | apply Kd.R_drewN | apply Kd.R_drew)); exact HO347.out) (Kd.R_base ho0) hb)
         have n1_ := Aside0.mk (Kd.R_elder' (by (with_reducible repeat (first | apply Kd.R_alloc | apply Kd.R_drewN | apply Kd.R_drew)); exact HO353.out) (Kd.R_base ho0) hb)
         have n2_ := Aside0.mk (Kd.R_elder' (by (with_reducible repeat (first | apply Kd.R_alloc | apply Kd.R_drewN | apply Kd.R_drew)); exact HO356.out) (Kd.R_base ho0) hb)
         have n3_ := Aside0.mk (Kd.R_lower (Kd.R_new' (Kd.R_new' (Kd.R_new' ho0 (Kd.R_lt (by (with_reducible repeat (first | apply Kd.R_alloc | apply Kd.R_drewN | apply Kd.R_drew)); exact HO347.out))) (Kd.R_lt (by (with_reducible repeat (first | apply Kd.R_alloc | apply Kd.R_drewN | apply Kd.R_drew)); exact HO353.out))) (Kd.R_lt (by (with_reducible repeat (first | apply Kd.R_alloc | apply Kd.R_drewN | apply Kd.R_drew)); exact HO356.out))) (below_size (bl HB)))
         have n4_ := bkb BK341 hb
         have n5_ := bst HB hb
         clear HO347
         clear HO353
         clear HO356
         clear BK341
         clear HB
         have HO347 := n0_
         have HO353 := n1_
         have HO356 := n2_
         have HO359 := n3_
         have BK341 := n4_
         have HB := n5_
         clear n0_ n1_ n2_ n3_ n4_ n5_
         try clear hb; try clear hb2; try clear hk; try clear hi
         (try clear ho0)
         obtain ⟨Ao48, co48, eo48⟩ := Kd.R_slice HO359.out
         (first | subst eo48 | (injection eo48 with f1_ f2_ f3_; have f4_ := f1_.symm; have f5_ := f3_.symm; clear f1_ f2_ f3_; subst f4_; subst f5_))
         refine hK.out _ _ sc (fun hHeld => ?_)
         clear hK K
         apply nm 0
         refine one_ (i := 11) (N := some 46) (bq 13 4095) rfl rfl (one_of HT_.out (by kernel_rfl)) (by decide) (fun K hK => ?_)
         refine Kd.R_append_rows_step k53 (w0 := w) w.heap.size (by rfl) (.tmp 39) (.tmp 45) 49 53 (.agg #[(.bool false), (.int .i64 0), (.int .i64 0), (.int .i64 0), (.int .i64 0)]) 40 rfl Try.underlying49 info53 rfl (by decide) (by omega) v355 y354 t357 _ _ _ (fun k_ => some k_ ≠ (v346 : Value).ownBlock ∧ some k_ ≠ (.slice Ao45 t351.length co45 : Value).ownBlock ∧ some k_ ≠ (.slice Ao48 t357.length co48 : Value).ownBlock) (fun _ => False) rfl rfl ?aO ?aR (fun _ _ h => h) (fun _ h => h.elim) ?aF ?aB ?aS ?aL ?_
         (case aR => repeat (first | exact (Kd.R_reads' HO359.out).2.2 | (with_reducible refine Kd.C_alloc ?_ _) | (with_reducible refine Kd.C_drewN ?_ _) | (with_reducible refine Kd.C_drew ?_)))
         (case aB => exact (bl HB))
         (case aF => exact (fun k_ hk => ⟨Kd.fresh' (Kd.R_lt (by (with_reducible repeat (first | apply Kd.R_alloc | apply Kd.R_drewN | apply Kd.R_drew)); exact HO347.out)) k_ hk, Kd.fresh' (Kd.R_lt (by (with_reducible repeat (first | apply Kd.R_alloc | apply Kd.R_drewN | apply Kd.R_drew)); exact HO353.out)) k_ hk, Kd.fresh' (Kd.R_lt (by (with_reducible repeat (first | apply Kd.R_alloc | apply Kd.R_drewN | apply Kd.R_drew)); exact HO359.out)) k_ hk⟩))
         (case aO => exact (by (with_reducible repeat (first | apply Kd.R_alloc | apply Kd.R_drewN | apply Kd.R_drew)); exact Kd.R_mono HO356.out (fun _ hk => ⟨hk.1.1, ⟨hk.1.2, hk.2⟩⟩)))
         (case aS => exact (below_size (bl HB)))
         (case aL => have := LMc32.out; omega)
         intro v361 w47 ho hb hg hat
         rw [← Ny360.out] at ho
         have n0_ := Aside0.mk (blk_grown (g := gb341) (o := .cells #[.int .i64 a0_0, .int .i64 a0_1, .int .i64 a0_2, .int .i64 a0_3, .int .i64 a0_4, .int .i64 a0_5, .int .i64 a0_6, .int .i64 a0_7, .int .i64 a0_8, .int .i64 a0_9, .int .i64 a0_10] 23 (0, 0)) (by (with_reducible repeat (first | refine blk_drewN ?_ _ | refine blk_drew ?_ | refine blk_alloc ?_ _)); exact BK341.out) hg (Kd.R_ne HO356.out BK341.out (by decide)))
         have n1_ := Aside0.mk (Kd.R_after (ok := (fun k_ => some k_ ≠ (.slice Ao45 t351.length co45 : Value).ownBlock ∧ some k_ ≠ (.slice Ao48 t357.length co48 : Value).ownBlock)) (by (with_reducible repeat (first | apply Kd.R_alloc | apply Kd.R_drewN | apply Kd.R_drew)); exact Kd.R_mono HO347.out (fun _ hk => ⟨⟨hk.1.1, hk.2⟩, hk.1.2⟩)) hg hat)
         have n2_ := Aside0.mk (Kd.R_after (ok := (fun k_ => some k_ ≠ (v346 : Value).ownBlock ∧ some k_ ≠ (.slice Ao48 t357.length co48 : Value).ownBlock)) (by (with_reducible repeat (first | apply Kd.R_alloc | apply Kd.R_drewN | apply Kd.R_drew)); exact Kd.R_mono HO353.out (fun _ hk => ⟨⟨hk.1.1, hk.2⟩, hk.1.2⟩)) hg hat)
         have n3_ := Aside0.mk (Kd.R_after (ok := (fun k_ => some k_ ≠ (v346 : Value).ownBlock ∧ some k_ ≠ (.slice Ao45 t351.length co45 : Value).ownBlock)) (by (with_reducible repeat (first | apply Kd.R_alloc | apply Kd.R_drewN | apply Kd.R_drew)); exact Kd.R_mono HO359.out (fun _ hk => ⟨⟨hk.1.1.2, hk.1.2⟩, hk.2⟩)) hg hat)
         have n4_ := Aside0.mk (hb)
         have n5_ := Aside0.mk (ho)
         clear BK341
         clear HO347
         clear HO353
         clear HO359
         clear HB
         clear HO356
         have BK341 := n0_
         have HO347 := n1_
         have HO353 := n2_
         have HO359 := n3_
         have HB := n4_
         have HO362 := n5_
         clear n0_ n1_ n2_ n3_ n4_ n5_
         clear ho hb hg hat
         refine hK.out _ _ sc (fun hHeld => ?_)
         clear hK K
         apply nm 0
         apply pu 12 8 (bq 13 8191) HT_
         refine done_ (done_of HT_.out (by kernel_rfl)) ?_
         obtain ⟨Ao49, co49, eo49⟩ := Kd.R_slice HO347.out
         subst eo49
         obtain ⟨Ao50, co50, eo50⟩ := Kd.R_slice HO362.out
         subst eo50
         try go_wp2_with (first | ((with_reducible refine gate_callee (f := 41) rfl ?_); refine goesL_ (some 49) rfl rfl Try.func41 (by kernel_rfl) rfl #[.slice Ao49 t345.length co49, .slice Ao50 y360.length co50] rfl (by (try simp only [List.map_toArray, List.map_cons, List.map_nil]); first | done | rfl | (simp only [List.length_drop, List.length_take]; rfl)) ?_; (with_reducible refine (revetmentref09_Same.calls kj3 _ _ t345 _ _ y360 true _ ?side1 ?side2 ?side3 ?side4 A33.out).mono ?_); (case side1 => repeat (first | exact (Kd.R_reads' HO347.out).2.2 | (with_reducible refine Kd.C_alloc ?_ _) | (with_reducible refine Kd.C_drewN ?_ _) | (with_reducible refine Kd.C_drew ?_))); (case side2 => exact (Kd.R_reads' HO347.out).2.1); (case side3 => repeat (first | exact (Kd.R_reads' HO362.out).2.2 | (with_reducible refine Kd.C_alloc ?_ _) | (with_reducible refine Kd.C_drewN ?_ _) | (with_reducible refine Kd.C_drew ?_))); (case side4 => exact (Kd.R_reads' HO362.out).2.1); rintro e w' ⟨rfl, ⟨nd, rfl⟩⟩; refine ⟨_, rfl, ?_⟩; obtain ⟨hcz51_0, hcz51_1, hcz51_2, hcz51_3, hcz51_4, hcz51_5, hcz51_6, hcz51_7, hcz51_8, hcz51_9, hcz51_10⟩ := cz11 BK341.out) | ((with_reducible refine gate_dst (N := 53) rfl ?_); refine Kd.R_make (Kd.int .i64) _ 3 rfl (N := 53) rfl 34 _ _ rfl a0_1 rfl rfl Try.underlying34 (.int .i64 0) 8 info3 rfl (by decide) (by omega) 0 (ok := fun _ => True) (okp := fun _ => True) rfl (fun _ hk => hk) trivial (of_decide_eq_true (by first | (with_reducible assumption) | assumption)) (Nat.le_trans (Nat.mul_le_mul_right _ (of_decide_eq_true (by first | (with_reducible assumption) | assumption) : a0_1.toNat ≤ 35184372088832)) (by omega)) (Below.refl _ _) (Nat.le_refl _) ?_; intro v365 w52 ho53 hb hg_ hnew_; clear hg_ hnew_; (first | rw [← Ny364.out] at ho53 | (simp only [Int.reduceToNat] at ho53; rw [← Ny364.out] at ho53)); have n0_ := Aside0.mk (Kd.R_below (by (with_reducible repeat (first | apply Kd.R_alloc | apply Kd.R_drewN | apply Kd.R_drew)); exact HO347.out) hb); have n1_ := Aside0.mk (Kd.R_below (by (with_reducible repeat (first | apply Kd.R_alloc | apply Kd.R_drewN | apply Kd.R_drew)); exact HO353.out) hb); have n2_ := Aside0.mk (Kd.R_below (by (with_reducible repeat (first | apply Kd.R_alloc | apply Kd.R_drewN | apply Kd.R_drew)); exact HO359.out) hb); have n3_ := Aside0.mk (Kd.R_below (by (with_reducible repeat (first | apply Kd.R_alloc | apply Kd.R_drewN | apply Kd.R_drew)); exact HO362.out) hb); have n4_ := Aside0.mk (Kd.R_lower ho53 (below_size (bl HB))); have n5_ := bkb BK341 hb; have n6_ := bst HB hb; clear HO347; clear HO353; clear HO359; clear HO362; clear BK341; clear HB; have HO347 := n0_; have HO353 := n1_; have HO359 := n2_; have HO362 := n3_; have HO366 := n4_; have BK341 := n5_; have HB := n6_; clear n0_ n1_ n2_ n3_ n4_ n5_ n6_; clear hb ho53))
         go_loopg [10] kj3 (fun kq v10 w' => ∃ (x9_2 : List Int) (x10_2 : Int), v10 = .int .i64 x10_2 ∧ Aside0 (revetmentlaw09_PlanParts.l0 kq a1 t345 x9_2 x10_2 a0_0 a0_1 a0_2 a0_3 a0_4 a0_5 a0_6 a0_7 a0_8 a0_9 a0_10 = some true) ∧ Aside0 (kq ≤ kj3) ∧ Aside0 (Kd.R k53 53 w' w.heap.size (fun _ => True) (.slice Ao49 t345.length co49) t345) ∧ Aside0 (Kd.R (Kd.int .i64) 3 w' w.heap.size (fun _ => True) v365 x9_2) ∧ Aside0 (w'.heap[gb341]? = some (.cells #[.int .i64 a0_0, .int .i64 a0_1, .int .i64 a0_2, .int .i64 a0_3, .int .i64 a0_4, .int .i64 a0_5, .int .i64 a0_6, .int .i64 a0_7, .int .i64 a0_8, .int .i64 a0_9, .int .i64 a0_10] 23 (0, 0))) ∧ Aside0 (Below w.heap.size w w'))
         case atStart => exact ⟨(y364), (0), (by first | rfl | (simp; done) | (simp [*]; done)), H', ⟨Nat.le_refl _⟩, ⟨by (with_reducible repeat (first | apply Kd.R_alloc | apply Kd.R_drewN | apply Kd.R_drew)); exact Kd.R_mono HO347.out (fun _ hk => trivial)⟩, ⟨by (with_reducible repeat (first | apply Kd.R_alloc | apply Kd.R_drewN | apply Kd.R_drew)); exact HO366.out⟩, ⟨by (with_reducible repeat (first | refine blk_drewN ?_ _ | refine blk_drew ?_ | refine blk_alloc ?_ _)); exact BK341.out⟩, ⟨bl HB⟩⟩
         case round =>
          clear H'
          try clear c2
          try clear p2
          try clear c3
          try clear c4
          try clear p6
          try clear c25
          try clear c30
          try clear c32
          try clear c34
          try clear c35
          try clear c35b0
          try clear c35b1
          try clear c36
          try clear c36b0
          try clear c36b1
          try clear c39
          try clear c40
          try clear c41
          (try clear hcz11_3 hcz11_4 hcz11_5 hcz11_6 hcz11_7 hcz11_8 hcz11_9)
          (try clear hcz13_0 hcz13_1)
          (try clear hcz13_10)
          (try clear hcz13_2 hcz13_3 hcz13_4 hcz13_5 hcz13_6 hcz13_7 hcz13_8 hcz13_9)
          (try clear hcz15_0 hcz15_1)
          (try clear hcz15_10)
          (try clear hcz15_2 hcz15_3 hcz15_4 hcz15_5 hcz15_6 hcz15_7 hcz15_8 hcz15_9)
          (try clear hcz17_0 hcz17_1)
          (try clear hcz17_10)
          (try clear hcz17_2 hcz17_3 hcz17_4 hcz17_5 hcz17_6 hcz17_7 hcz17_8 hcz17_9)
          (try clear hcz19_0 hcz19_1)
          (try clear hcz19_10)
          (try clear hcz19_2 hcz19_3 hcz19_4 hcz19_5 hcz19_6 hcz19_7 hcz19_8 hcz19_9)
          (try clear hcz21_0 hcz21_1)
          (try clear hcz21_10)
          (try clear hcz21_2 hcz21_3 hcz21_4 hcz21_5 hcz21_6 hcz21_7 hcz21_8 hcz21_9)
          (try clear hcz23_0 hcz23_1)
          (try clear hcz23_10)
          (try clear hcz23_2 hcz23_3 hcz23_4 hcz23_5 hcz23_6 hcz23_7 hcz23_8 hcz23_9)
          (try clear hcz37_0 hcz37_1)
          (try clear hcz37_10)
          (try clear hcz37_2 hcz37_3 hcz37_4 hcz37_5 hcz37_6 hcz37_7 hcz37_8 hcz37_9)
          (try clear hcz51_0 hcz51_1)
          (try clear hcz51_10)
          (try clear hcz51_2 hcz51_3 hcz51_4 hcz51_5 hcz51_6 hcz51_7 hcz51_8 hcz51_9)
          (try clear hfz11_0 hfz11_1)
          (try clear hfz11_10)
          (try clear hfz11_2 hfz11_3 hfz11_4 hfz11_5 hfz11_6 hfz11_7 hfz11_8 hfz11_9)
          (try clear hfz13_0 hfz13_1)
          (try clear hfz13_10)
          (try clear hfz13_2 hfz13_3 hfz13_4 hfz13_5 hfz13_6 hfz13_7 hfz13_8 hfz13_9)
          (try clear hfz15_0 hfz15_1)
          (try clear hfz15_10)
          (try clear hfz15_2 hfz15_3 hfz15_4 hfz15_5 hfz15_6 hfz15_7 hfz15_8 hfz15_9)
          (try clear hfz17_0 hfz17_1)
          (try clear hfz17_10)
          (try clear hfz17_2 hfz17_3 hfz17_4 hfz17_5 hfz17_6 hfz17_7 hfz17_8 hfz17_9)
          (try clear hfz19_0 hfz19_1)
          (try clear hfz19_10)
          (try clear hfz19_2 hfz19_3 hfz19_4 hfz19_5 hfz19_6 hfz19_7 hfz19_8 hfz19_9)
          (try clear hfz21_0 hfz21_1)
          (try clear hfz21_10)
          (try clear hfz21_2 hfz21_3 hfz21_4 hfz21_5 hfz21_6 hfz21_7 hfz21_8 hfz21_9)
          (try clear hfz23_0 hfz23_1)
          (try clear hfz23_10)
          (try clear hfz23_2 hfz23_3 hfz23_4 hfz23_5 hfz23_6 hfz23_7 hfz23_8 hfz23_9)
          (try clear hfz37_0 hfz37_1)
          (try clear hfz37_10)
          (try clear hfz37_2 hfz37_3 hfz37_4 hfz37_5 hfz37_6 hfz37_7 hfz37_8 hfz37_9)
          (try clear hfz51_0 hfz51_1)
          (try clear hfz51_10)
          (try clear hfz51_2 hfz51_3 hfz51_4 hfz51_5 hfz51_6 hfz51_7 hfz51_8 hfz51_9)
          obtain ⟨x9_2, x10_2, rfl, HA, HK2, HO_7, HO_9, BK341, HB⟩ := hrel
          cases gk with
          | zero => exact absurd HA.out (by simp [revetmentlaw09_PlanParts.l0])
          | succ k2 =>
           have H := HA.out
           clear HA
           simp only [revetmentlaw09_PlanParts.l0] at H
           by_cases c54 : x10_2 < (t345.length : Int)
           ·rw [if_pos c54] at H
            have c54b0 : decide (x10_2 < (t345.length : Int)) = true := decide_eq_true c54
            clear c54
            by_cases c55 : 0 ≤ x10_2
            ·rw [if_pos c55] at H
             have c55b0 : decide (0 ≤ x10_2) = true := decide_eq_true c55
             clear c55
             by_cases c56 : ((rd_T53 t345 x10_2).f1) < 0
             ·rw [if_pos c56] at H
              have c56b0 : decide (((rd_T53 t345 x10_2).f1) < 0) = true := decide_eq_true c56
              clear c56
              exact absurd H (by simp)
             ·rw [if_neg c56] at H
              have c56b0 : decide (((rd_T53 t345 x10_2).f1) < 0) = false := decide_eq_false c56
              clear c56
              by_cases c62 : ((rd_T53 t345 x10_2).f1) ≥ a0_1
              ·rw [if_pos c62] at H
               have c62b0 : decide (a0_1 ≤ ((rd_T53 t345 x10_2).f1)) = true := decide_eq_true c62
               clear c62
               exact absurd H (by simp)
              ·rw [if_neg c62] at H
               have c62b0 : decide (a0_1 ≤ ((rd_T53 t345 x10_2).f1)) = false := decide_eq_false c62
               clear c62
               by_cases c68 : 0 ≤ ((rd_T53 t345 x10_2).f1)
               ·rw [if_pos c68] at H
                have c68b0 : decide (0 ≤ ((rd_T53 t345 x10_2).f1)) = true := decide_eq_true c68
                clear c68
                by_cases c69 : ((rd_T53 t345 x10_2).f1) < (x9_2.length : Int)
                ·rw [if_pos c69] at H
                 have c69b0 : decide (((rd_T53 t345 x10_2).f1) < (x9_2.length : Int)) = true := decide_eq_true c69
                 clear c69
                 by_cases c70 : (rd x9_2 ((rd_T53 t345 x10_2).f1)) = ((rd_T53 t345 x10_2).f2)
                 ·rw [if_pos c70] at H
                  have c70b0 : ((rd x9_2 ((rd_T53 t345 x10_2).f1)) == ((rd_T53 t345 x10_2).f2)) = true := beq_iff_eq.mpr c70
                  have c70b1 : ((rd x9_2 ((rd_T53 t345 x10_2).f1)) != ((rd_T53 t345 x10_2).f2)) = false := bne_eq_false_iff_eq.mpr c70
                  clear c70
                  obtain ⟨y371, hy371⟩ : ∃ y_ : List Int, y_ = (x9_2.set (((rd_T53 t345 x10_2).f1) : Int).toNat (wrap64 ((rd x9_2 ((rd_T53 t345 x10_2).f1)) + ((rd_T53 t345 x10_2).f4)))) := ⟨_, rfl⟩
                  replace H : (revetmentlaw09_PlanParts.l0 k2 a1 t345 y371 (wrap64 (x10_2 + 1)) a0_0 a0_1 a0_2 a0_3 a0_4 a0_5 a0_6 a0_7 a0_8 a0_9 a0_10) = some true := by first | (rw [hy371]; with_reducible exact H) | (have H2_ := (Option.bind_some _ _).symm.trans H; rw [hy371]; with_reducible exact H2_) | (have H2_ := (Option.bind_some _ _).symm.trans H; with_reducible exact H2_) | with_reducible exact H | (rw [hy371]; exact H) | exact H
                  have Ny371 := Aside0.mk hy371
                  clear hy371
                  have H' := Aside0.mk H
                  clear H
                  have p367 : 0 ≤ (x10_2 : Int) := of_decide_eq_true (by first | (with_reducible assumption) | assumption)
                  have q367 : x10_2 < (t345.length : Int) := of_decide_eq_true (by first | (with_reducible assumption) | assumption)
                  obtain ⟨ad367, e367, hx367_0, hx367_1, hx367_2, hx367_3, hx367_4⟩ := at_T53 (Kd.R_reads' HO_7.out).2.2 x10_2 p367 q367
                  cases e367
                  replace p367 := eq_true p367
                  replace q367 := eq_true q367
                  try go_wp2_with (first | ((with_reducible refine gate_dst (N := 11) rfl ?_); refine box_event ?hg (N := 11) ?hd (cs := #[.bool false, .int .i64 0, .int .i64 0, .int .i64 0, .int .i64 0]) (t := 53) ?hr ?_; (case hd => rfl); (case hg => rfl); (case hr => first | (go_simp; done) | (go_simp; rfl)); intro gb368 hg w72 hbox hb; have n0_ := Aside0.mk (Kd.R_below (Kd.R_elderB (by (with_reducible repeat (first | apply Kd.R_alloc | apply Kd.R_drewN | apply Kd.R_drew)); exact HO_7.out) gb368 (Nat.le_of_eq hg.symm)) hb); have n1_ := Aside0.mk (Kd.R_below (by (with_reducible repeat (first | apply Kd.R_alloc | apply Kd.R_drewN | apply Kd.R_drew)); exact HO_9.out) hb); have n2_ := bkb BK341 hb; have n3_ := bst HB hb; have n4_ := Aside0.mk (hbox); have n5_ := Aside0.mk ((by rw [hg]; exact (below_size (bl HB)) : w.heap.size ≤ gb368)); have n6_ := Aside0.mk ((by rw [hg]; exact (below_size (bl HB)) : w.heap.size ≤ gb368)); have n7_ := Aside0.mk ((by rw [hg]; exact Nat.ne_of_lt (blk_lt (g := gb341) (o := .cells #[.int .i64 a0_0, .int .i64 a0_1, .int .i64 a0_2, .int .i64 a0_3, .int .i64 a0_4, .int .i64 a0_5, .int .i64 a0_6, .int .i64 a0_7, .int .i64 a0_8, .int .i64 a0_9, .int .i64 a0_10] 23 (0, 0)) (by (with_reducible repeat (first | refine blk_drewN ?_ _ | refine blk_drew ?_ | refine blk_alloc ?_ _)); exact BK341.out)) : gb341 ≠ gb368)); have n8_ := Aside0.mk ((by rw [hg]; exact Nat.ne_of_gt (blk_lt (g := gb341) (o := .cells #[.int .i64 a0_0, .int .i64 a0_1, .int .i64 a0_2, .int .i64 a0_3, .int .i64 a0_4, .int .i64 a0_5, .int .i64 a0_6, .int .i64 a0_7, .int .i64 a0_8, .int .i64 a0_9, .int .i64 a0_10] 23 (0, 0)) (by (with_reducible repeat (first | refine blk_drewN ?_ _ | refine blk_drew ?_ | refine blk_alloc ?_ _)); exact BK341.out)) : gb368 ≠ gb341)); clear HO_7; clear HO_9; clear BK341; clear HB; have HO_7 := n0_; have HO_9 := n1_; have BK341 := n2_; have HB := n3_; have BK368 := n4_; have GW368 := n5_; have GE368 := n6_; have NB341_368 := n7_; have NB368_341 := n8_; clear n0_ n1_ n2_ n3_ n4_ n5_ n6_ n7_ n8_; clear hb hbox hg; have hnb73 := NB368_341.out; have hnc73 := NB341_368.out; obtain ⟨hcz74_0, hcz74_1, hcz74_2, hcz74_3, hcz74_4⟩ := cz5 BK368.out; obtain ⟨hfz74_0, hfz74_1, hfz74_2, hfz74_3, hfz74_4⟩ := fz5 BK368.out))
                  have n0_ : Aside0 (Kd.R k53 53 (((((w72.setCell ⟨gb368, 0, none⟩ (.bool ((rd_T53 t345 x10_2).f0))).setCell ⟨gb368, 1, none⟩ (.int .i64 ((rd_T53 t345 x10_2).f1))).setCell ⟨gb368, 2, none⟩ (.int .i64 ((rd_T53 t345 x10_2).f2))).setCell ⟨gb368, 3, none⟩ (.int .i64 ((rd_T53 t345 x10_2).f3))).setCell ⟨gb368, 4, none⟩ (.int .i64 ((rd_T53 t345 x10_2).f4))) w.heap.size (fun k_ => k_ ≠ gb368) (.slice (some ad367) t345.length co49) t345) := ⟨by (with_reducible repeat (first | apply Kd.R_alloc | apply Kd.R_drewN | apply Kd.R_drew)); exact Kd.R_mono (Kd.R_far (p := ⟨gb368, 4, none⟩) (Kd.R_far (p := ⟨gb368, 3, none⟩) (Kd.R_far (p := ⟨gb368, 2, none⟩) (Kd.R_far (p := ⟨gb368, 1, none⟩) (Kd.R_far (p := ⟨gb368, 0, none⟩) (Kd.R_mono HO_7.out (fun k_ hk => (⟨hk, hk.2⟩ : _ ∧ k_ ≠ gb368))) (fun _ hk => hk.2) (.bool ((rd_T53 t345 x10_2).f0))) (fun _ hk => hk.2) (.int .i64 ((rd_T53 t345 x10_2).f1))) (fun _ hk => hk.2) (.int .i64 ((rd_T53 t345 x10_2).f2))) (fun _ hk => hk.2) (.int .i64 ((rd_T53 t345 x10_2).f3))) (fun _ hk => hk.2) (.int .i64 ((rd_T53 t345 x10_2).f4))) (fun _ hk => hk.1.2)⟩
                  have n1_ : Aside0 (Kd.R (Kd.int .i64) 3 (((((w72.setCell ⟨gb368, 0, none⟩ (.bool ((rd_T53 t345 x10_2).f0))).setCell ⟨gb368, 1, none⟩ (.int .i64 ((rd_T53 t345 x10_2).f1))).setCell ⟨gb368, 2, none⟩ (.int .i64 ((rd_T53 t345 x10_2).f2))).setCell ⟨gb368, 3, none⟩ (.int .i64 ((rd_T53 t345 x10_2).f3))).setCell ⟨gb368, 4, none⟩ (.int .i64 ((rd_T53 t345 x10_2).f4))) w.heap.size (fun _ => True) v365 x9_2) := ⟨by (with_reducible repeat (first | apply Kd.R_alloc | apply Kd.R_drewN | apply Kd.R_drew)); exact Kd.R_mono (Kd.R_far (p := ⟨gb368, 4, none⟩) (Kd.R_far (p := ⟨gb368, 3, none⟩) (Kd.R_far (p := ⟨gb368, 2, none⟩) (Kd.R_far (p := ⟨gb368, 1, none⟩) (Kd.R_far (p := ⟨gb368, 0, none⟩) (Kd.R_types HO_9.out BK368.out (by decide)) (fun _ hk => hk.2) (.bool ((rd_T53 t345 x10_2).f0))) (fun _ hk => hk.2) (.int .i64 ((rd_T53 t345 x10_2).f1))) (fun _ hk => hk.2) (.int .i64 ((rd_T53 t345 x10_2).f2))) (fun _ hk => hk.2) (.int .i64 ((rd_T53 t345 x10_2).f3))) (fun _ hk => hk.2) (.int .i64 ((rd_T53 t345 x10_2).f4))) (fun _ hk => trivial)⟩
                  have n2_ : Aside0 ((((((w72.setCell ⟨gb368, 0, none⟩ (.bool ((rd_T53 t345 x10_2).f0))).setCell ⟨gb368, 1, none⟩ (.int .i64 ((rd_T53 t345 x10_2).f1))).setCell ⟨gb368, 2, none⟩ (.int .i64 ((rd_T53 t345 x10_2).f2))).setCell ⟨gb368, 3, none⟩ (.int .i64 ((rd_T53 t345 x10_2).f3))).setCell ⟨gb368, 4, none⟩ (.int .i64 ((rd_T53 t345 x10_2).f4))).heap[gb341]? = some (.cells #[.int .i64 a0_0, .int .i64 a0_1, .int .i64 a0_2, .int .i64 a0_3, .int .i64 a0_4, .int .i64 a0_5, .int .i64 a0_6, .int .i64 a0_7, .int .i64 a0_8, .int .i64 a0_9, .int .i64 a0_10] 23 (0, 0))) := ⟨by (with_reducible repeat (first | refine blk_drewN ?_ _ | refine blk_drew ?_ | refine blk_alloc ?_ _)); refine blk_far ?_ NB341_368.out _; (with_reducible repeat (first | refine blk_drewN ?_ _ | refine blk_drew ?_ | refine blk_alloc ?_ _)); refine blk_far ?_ NB341_368.out _; (with_reducible repeat (first | refine blk_drewN ?_ _ | refine blk_drew ?_ | refine blk_alloc ?_ _)); refine blk_far ?_ NB341_368.out _; (with_reducible repeat (first | refine blk_drewN ?_ _ | refine blk_drew ?_ | refine blk_alloc ?_ _)); refine blk_far ?_ NB341_368.out _; (with_reducible repeat (first | refine blk_drewN ?_ _ | refine blk_drew ?_ | refine blk_alloc ?_ _)); refine blk_far ?_ NB341_368.out _; (with_reducible repeat (first | refine blk_drewN ?_ _ | refine blk_drew ?_ | refine blk_alloc ?_ _)); exact BK341.out⟩
                  have n3_ : Aside0 ((((((w72.setCell ⟨gb368, 0, none⟩ (.bool ((rd_T53 t345 x10_2).f0))).setCell ⟨gb368, 1, none⟩ (.int .i64 ((rd_T53 t345 x10_2).f1))).setCell ⟨gb368, 2, none⟩ (.int .i64 ((rd_T53 t345 x10_2).f2))).setCell ⟨gb368, 3, none⟩ (.int .i64 ((rd_T53 t345 x10_2).f3))).setCell ⟨gb368, 4, none⟩ (.int .i64 ((rd_T53 t345 x10_2).f4))).heap[gb368]? = some (.cells #[.bool ((rd_T53 t345 x10_2).f0), .int .i64 ((rd_T53 t345 x10_2).f1), .int .i64 ((rd_T53 t345 x10_2).f2), .int .i64 ((rd_T53 t345 x10_2).f3), .int .i64 ((rd_T53 t345 x10_2).f4)] 53 (0, 0))) := ⟨by (with_reducible repeat (first | refine blk_drewN ?_ _ | refine blk_drew ?_ | refine blk_alloc ?_ _)); refine blk_put (cs := #[.bool ((rd_T53 t345 x10_2).f0), .int .i64 ((rd_T53 t345 x10_2).f1), .int .i64 ((rd_T53 t345 x10_2).f2), .int .i64 ((rd_T53 t345 x10_2).f3), .int .i64 0]) ?_ 4 _ rfl; (with_reducible repeat (first | refine blk_drewN ?_ _ | refine blk_drew ?_ | refine blk_alloc ?_ _)); refine blk_put (cs := #[.bool ((rd_T53 t345 x10_2).f0), .int .i64 ((rd_T53 t345 x10_2).f1), .int .i64 ((rd_T53 t345 x10_2).f2), .int .i64 0, .int .i64 0]) ?_ 3 _ rfl; (with_reducible repeat (first | refine blk_drewN ?_ _ | refine blk_drew ?_ | refine blk_alloc ?_ _)); refine blk_put (cs := #[.bool ((rd_T53 t345 x10_2).f0), .int .i64 ((rd_T53 t345 x10_2).f1), .int .i64 0, .int .i64 0, .int .i64 0]) ?_ 2 _ rfl; (with_reducible repeat (first | refine blk_drewN ?_ _ | refine blk_drew ?_ | refine blk_alloc ?_ _)); refine blk_put (cs := #[.bool ((rd_T53 t345 x10_2).f0), .int .i64 0, .int .i64 0, .int .i64 0, .int .i64 0]) ?_ 1 _ rfl; (with_reducible repeat (first | refine blk_drewN ?_ _ | refine blk_drew ?_ | refine blk_alloc ?_ _)); refine blk_put (cs := #[.bool false, .int .i64 0, .int .i64 0, .int .i64 0, .int .i64 0]) ?_ 0 _ rfl; (with_reducible repeat (first | refine blk_drewN ?_ _ | refine blk_drew ?_ | refine blk_alloc ?_ _)); exact BK368.out⟩
                  have n4_ : Aside0 (Below w.heap.size w (((((w72.setCell ⟨gb368, 0, none⟩ (.bool ((rd_T53 t345 x10_2).f0))).setCell ⟨gb368, 1, none⟩ (.int .i64 ((rd_T53 t345 x10_2).f1))).setCell ⟨gb368, 2, none⟩ (.int .i64 ((rd_T53 t345 x10_2).f2))).setCell ⟨gb368, 3, none⟩ (.int .i64 ((rd_T53 t345 x10_2).f3))).setCell ⟨gb368, 4, none⟩ (.int .i64 ((rd_T53 t345 x10_2).f4)))) := ⟨bl HB⟩
                  (try clear HO_7)
                  (try clear HO_9)
                  (try clear BK341)
                  (try clear BK368)
                  (try clear HB)
                  generalize (((((w72.setCell ⟨gb368, 0, none⟩ (.bool ((rd_T53 t345 x10_2).f0))).setCell ⟨gb368, 1, none⟩ (.int .i64 ((rd_T53 t345 x10_2).f1))).setCell ⟨gb368, 2, none⟩ (.int .i64 ((rd_T53 t345 x10_2).f2))).setCell ⟨gb368, 3, none⟩ (.int .i64 ((rd_T53 t345 x10_2).f3))).setCell ⟨gb368, 4, none⟩ (.int .i64 ((rd_T53 t345 x10_2).f4))) = w75 at n0_ n1_ n2_ n3_ n4_ ⊢
                  have HO_7 := n0_
                  have HO_9 := n1_
                  have BK341 := n2_
                  have BK368 := n3_
                  have HB := n4_
                  clear n0_ n1_ n2_ n3_ n4_
                  replace HO_7 := Aside0.mk (Kd.R_drew HO_7.out)
                  replace HO_9 := Aside0.mk (Kd.R_drew HO_9.out)
                  replace BK341 := Aside0.mk (blk_drew BK341.out)
                  replace BK368 := Aside0.mk (blk_drew BK368.out)
                  replace HB := Aside0.mk (below_drew1 HB.out)
                  obtain ⟨Ao77, co77, eo77⟩ := Kd.R_slice HO_9.out
                  (first | subst eo77 | (injection eo77 with f1_ f2_ f3_; have f4_ := f1_.symm; have f5_ := f3_.symm; clear f1_ f2_ f3_; subst f4_; subst f5_))
                  have p369 : 0 ≤ (((rd_T53 t345 x10_2).f1) : Int) := of_decide_eq_true (by first | (with_reducible assumption) | assumption)
                  have q369 : ((rd_T53 t345 x10_2).f1) < (x9_2.length : Int) := of_decide_eq_true (by first | (with_reducible assumption) | assumption)
                  obtain ⟨ad369, e369, hx369_0⟩ := Kd.at_int (Kd.R_reads' HO_9.out).2.2 ((rd_T53 t345 x10_2).f1) p369 q369
                  cases e369
                  replace p369 := eq_true p369
                  replace q369 := eq_true q369
                  refine start_ (n := 20) (S := fun w' => w'.cell? ⟨gb368, 0, none⟩ = some (.bool ((rd_T53 t345 x10_2).f0)) ∧ w'.cell? ⟨gb368, 1, none⟩ = some (.int .i64 ((rd_T53 t345 x10_2).f1)) ∧ w'.cell? ⟨gb368, 2, none⟩ = some (.int .i64 ((rd_T53 t345 x10_2).f2)) ∧ w'.cell? ⟨gb368, 3, none⟩ = some (.int .i64 ((rd_T53 t345 x10_2).f3)) ∧ w'.cell? ⟨gb368, 4, none⟩ = some (.int .i64 ((rd_T53 t345 x10_2).f4)) ∧ w'.cell? ⟨gb341, 0, none⟩ = some (.int .i64 a0_0) ∧ w'.cell? ⟨gb341, 1, none⟩ = some (.int .i64 a0_1) ∧ w'.cell? ⟨gb341, 2, none⟩ = some (.int .i64 a0_2) ∧ w'.cell? ⟨gb341, 3, none⟩ = some (.int .i64 a0_3) ∧ w'.cell? ⟨gb341, 4, none⟩ = some (.int .i64 a0_4) ∧ w'.cell? ⟨gb341, 5, none⟩ = some (.int .i64 a0_5) ∧ w'.cell? ⟨gb341, 6, none⟩ = some (.int .i64 a0_6) ∧ w'.cell? ⟨gb341, 7, none⟩ = some (.int .i64 a0_7) ∧ w'.cell? ⟨gb341, 8, none⟩ = some (.int .i64 a0_8) ∧ w'.cell? ⟨gb341, 9, none⟩ = some (.int .i64 a0_9) ∧ w'.cell? ⟨gb341, 10, none⟩ = some (.int .i64 a0_10) ∧ w'.cell? (ad369.add (((rd_T53 t345 x10_2).f1)).toNat) = some (.int .i64 (rd x9_2 ((rd_T53 t345 x10_2).f1)))) (ds := []) (bq 20 0) (by kernel_rfl) rfl rfl ⟨(blk_cell BK368.out 0).trans rfl, (blk_cell BK368.out 1).trans rfl, (blk_cell BK368.out 2).trans rfl, (blk_cell BK368.out 3).trans rfl, (blk_cell BK368.out 4).trans rfl, (blk_cell BK341.out 0).trans rfl, (blk_cell BK341.out 1).trans rfl, (blk_cell BK341.out 2).trans rfl, (blk_cell BK341.out 3).trans rfl, (blk_cell BK341.out 4).trans rfl, (blk_cell BK341.out 5).trans rfl, (blk_cell BK341.out 6).trans rfl, (blk_cell BK341.out 7).trans rfl, (blk_cell BK341.out 8).trans rfl, (blk_cell BK341.out 9).trans rfl, (blk_cell BK341.out 10).trans rfl, hx369_0⟩ (fun hHeld => ?_); refine with_tabW revetmentlaw09_PlanParts.tab12 revetmentlaw09_PlanParts.bits12 (fun HT_ HW_ => ?_)
                  generalize w75.drew = w76 at HO_7 HO_9 BK341 BK368 HB hx369_0 hHeld ⊢
                  apply pu 0 64 (bq 20 1) HT_
                  apply tu 1 65 (bq 20 3) HT_ HW_ hHeld
                  apply pu 2 66 (bq 20 7) HT_
                  apply pu 3 67 (bq 20 15) HT_
                  apply pu 4 68 (bq 20 31) HT_
                  apply pu 6 70 (bq 20 95) HT_
                  apply tu 5 69 (bq 20 127) HT_ HW_ hHeld
                  apply tu 7 71 (bq 20 255) HT_ HW_ hHeld
                  apply pu 8 72 (bq 20 511) HT_
                  apply pu 9 73 (bq 20 1023) HT_
                  apply pu 10 74 (bq 20 2047) HT_
                  apply pu 11 75 (bq 20 4095) HT_
                  apply pu 12 76 (bq 20 8191) HT_
                  apply pu 16 80 (bq 20 73727) HT_
                  apply tu 13 77 (bq 20 81919) HT_ HW_ hHeld
                  apply pu 14 78 (bq 20 98303) HT_
                  apply tu 15 79 (bq 20 131071) HT_ HW_ hHeld
                  apply tu 17 81 (bq 20 262143) HT_ HW_ hHeld
                  apply pu 18 82 (bq 20 524287) HT_
                  apply pu 19 83 (bq 20 1048575) HT_
                  refine done_ (done_of HT_.out (by kernel_rfl)) ?_
                  try go_wp2
                  replace HO_7 := Aside0.mk (Kd.R_drew HO_7.out)
                  replace HO_9 := Aside0.mk (Kd.R_drew HO_9.out)
                  replace BK341 := Aside0.mk (blk_drew BK341.out)
                  replace BK368 := Aside0.mk (blk_drew BK368.out)
                  replace HB := Aside0.mk (below_drew1 HB.out)
                  have p370 : 0 ≤ (((rd_T53 t345 x10_2).f1) : Int) := of_decide_eq_true (by first | (with_reducible assumption) | assumption)
                  have q370 : ((rd_T53 t345 x10_2).f1) < (x9_2.length : Int) := of_decide_eq_true (by first | (with_reducible assumption) | assumption)
                  obtain ⟨ad370, e370, hx370_0⟩ := Kd.at_int (Kd.R_reads' HO_9.out).2.2 ((rd_T53 t345 x10_2).f1) p370 q370
                  obtain rfl : ad369 = ad370 := (by injection e370)
                  replace p370 := eq_true p370
                  replace q370 := eq_true q370
                  have p71 : 0 ≤ (((rd_T53 t345 x10_2).f1) : Int) := of_decide_eq_true (by first | (with_reducible assumption) | assumption)
                  have q71 : (((rd_T53 t345 x10_2).f1) : Int) < ((x9_2.length : Int) : Int) := of_decide_eq_true (by first | (with_reducible assumption) | assumption)
                  obtain ⟨go71, co71, eo71, gb71, gl71, cl71, HG71⟩ := Kd.R_form HO_9.out (by omega)
                  (first | cases eo71 | (injection eo71 with ea_ en_ ec_; (first | subst ea_ | (injection ea_ with ea_; subst ea_)); subst ec_; clear en_))
                  have GB71 := Aside0.mk gb71
                  have GG71 := Aside0.mk HG71
                  clear gb71 gl71 HG71
                  (first | simp only [add_plain] at hx369_0 | skip)
                  (first | simp only [add_plain] at hx370_0 | skip)
                  obtain ⟨hx71_0, hf71_0⟩ := Kd.R_celln 0 HO_9.out (((rd_T53 t345 x10_2).f1) : Int) p71 q71
                  replace p71 := eq_true p71
                  replace q71 := eq_true q71
                  have HP79 := Kd.R_putn HO_9.out (((rd_T53 t345 x10_2).f1) : Int) (wrap64 ((rd x9_2 ((rd_T53 t345 x10_2).f1)) + ((rd_T53 t345 x10_2).f4)))
                  rw [← Ny371.out] at HP79
                  have HQ79 := Aside0.mk HP79
                  clear HP79
                  refine start_ (n := 13) (S := fun w' => w'.cell? ⟨gb368, 0, none⟩ = some (.bool ((rd_T53 t345 x10_2).f0)) ∧ w'.cell? ⟨gb368, 1, none⟩ = some (.int .i64 ((rd_T53 t345 x10_2).f1)) ∧ w'.cell? ⟨gb368, 2, none⟩ = some (.int .i64 ((rd_T53 t345 x10_2).f2)) ∧ w'.cell? ⟨gb368, 3, none⟩ = some (.int .i64 ((rd_T53 t345 x10_2).f3)) ∧ w'.cell? ⟨gb368, 4, none⟩ = some (.int .i64 ((rd_T53 t345 x10_2).f4)) ∧ w'.cell? ⟨go71, (((rd_T53 t345 x10_2).f1)).toNat, none⟩ = some (.int .i64 (rd x9_2 ((rd_T53 t345 x10_2).f1)))) (ds := [12]) (bq 13 0) (by kernel_rfl) rfl rfl ⟨(blk_cell BK368.out 0).trans rfl, (blk_cell BK368.out 1).trans rfl, (blk_cell BK368.out 2).trans rfl, (blk_cell BK368.out 3).trans rfl, (blk_cell BK368.out 4).trans rfl, hx370_0⟩ (fun hHeld => ?_); refine with_tabW revetmentlaw09_PlanParts.tab14 revetmentlaw09_PlanParts.bits14 (fun HT_ HW_ => ?_)
                  generalize w76.drew = w78 at HO_7 HO_9 BK341 BK368 HB GG71 HQ79 hf71_0 hx369_0 hx370_0 hx71_0 hHeld ⊢
                  apply pu 0 84 (bq 13 1) HT_
                  apply pu 1 85 (bq 13 3) HT_
                  apply pu 3 87 (bq 13 11) HT_
                  apply pu 4 88 (bq 13 27) HT_
                  apply pu 8 92 (bq 13 283) HT_
                  apply tu 2 86 (bq 13 287) HT_ HW_ hHeld
                  apply tu 5 89 (bq 13 319) HT_ HW_ hHeld
                  apply pu 6 90 (bq 13 383) HT_
                  apply tu 7 91 (bq 13 511) HT_ HW_ hHeld
                  apply tu 9 93 (bq 13 1023) HT_ HW_ hHeld
                  apply pu 10 94 (bq 13 2047) HT_
                  apply pu 11 95 (bq 13 4095) HT_
                  refine last_ (i := 12) (N := none) (bq 13 8191) rfl rfl (one_of HT_.out (by kernel_rfl)) (by decide) (fun K hK => ?_)
                  refine skip_ (w1 := ?_) (by rfl) rfl ?_ ?_
                  rotate_left
                  ·go_simp
                   rfl
                  refine hK.out _ _ ?_
                  clear hK K
                  refine done_ (done_of HT_.out (by kernel_rfl)) ?_
                  try go_wp2
                  go_roundg k2
                  case measure => have := HJ3.out; have := HK2.out; omega
                  case rel => exact ⟨(y371), (wrap64 (x10_2 + 1)), (by first | rfl | (simp; done) | (simp [*]; done)), H', ⟨by have := HJ3.out; have := HK2.out; omega⟩, ⟨by (with_reducible repeat (first | apply Kd.R_alloc | apply Kd.R_drewN | apply Kd.R_drew)); exact Kd.R_mono (Kd.R_far (p := ⟨go71, (((rd_T53 t345 x10_2).f1) : Int).toNat, none⟩) (Kd.R_types HO_7.out GG71.out (by decide)) (fun _ hk => hk.2) (.int .i64 (wrap64 ((rd x9_2 ((rd_T53 t345 x10_2).f1)) + ((rd_T53 t345 x10_2).f4))))) (fun _ hk => trivial)⟩, ⟨by (with_reducible repeat (first | apply Kd.R_alloc | apply Kd.R_drewN | apply Kd.R_drew)); exact HQ79.out⟩, ⟨by (with_reducible repeat (first | refine blk_drewN ?_ _ | refine blk_drew ?_ | refine blk_alloc ?_ _)); refine blk_far ?_ (by have h_ := Kd.R_ne HO_9.out BK341.out (by decide); intro e_; exact h_ (by rw [e_]; rfl)) _; (with_reducible repeat (first | refine blk_drewN ?_ _ | refine blk_drew ?_ | refine blk_alloc ?_ _)); exact BK341.out⟩, ⟨bl HB⟩⟩
                 ·rw [if_neg c70] at H
                  have c70b0 : ((rd x9_2 ((rd_T53 t345 x10_2).f1)) == ((rd_T53 t345 x10_2).f2)) = false := beq_eq_false_iff_ne.mpr c70
                  have c70b1 : ((rd x9_2 ((rd_T53 t345 x10_2).f1)) != ((rd_T53 t345 x10_2).f2)) = true := bne_iff_ne.mpr c70
                  exact absurd H (by simp)
                ·rw [if_neg c69] at H
                 exact absurd H (by simp)
               ·rw [if_neg c68] at H
                exact absurd H (by simp)
            ·rw [if_neg c55] at H
             exact absurd H (by simp)
           ·rw [if_neg c54] at H
            have c54b0 : decide (x10_2 < (t345.length : Int)) = false := decide_eq_false c54
            clear c54
            have H' := Aside0.mk H
            clear H
            go_wp2
            go_loopg [12] k2 (fun kq v12 w' => ∃ (x12_3 : Int), v12 = .int .i64 x12_3 ∧ Aside0 (revetmentlaw09_PlanParts.l1 kq a1 x9_2 x12_3 a0_0 a0_1 a0_2 a0_3 a0_4 a0_5 a0_6 a0_7 a0_8 a0_9 a0_10 = some true) ∧ Aside0 (kq ≤ k2) ∧ Aside0 (Kd.R (Kd.int .i64) 3 w' w.heap.size (fun _ => True) v365 x9_2) ∧ Aside0 (w'.heap[gb341]? = some (.cells #[.int .i64 a0_0, .int .i64 a0_1, .int .i64 a0_2, .int .i64 a0_3, .int .i64 a0_4, .int .i64 a0_5, .int .i64 a0_6, .int .i64 a0_7, .int .i64 a0_8, .int .i64 a0_9, .int .i64 a0_10] 23 (0, 0))) ∧ Aside0 (Below w.heap.size w w'))
            case atStart => exact ⟨(0), (by first | rfl | (simp; done) | (simp [*]; done)), H', ⟨Nat.le_refl _⟩, ⟨by (with_reducible repeat (first | apply Kd.R_alloc | apply Kd.R_drewN | apply Kd.R_drew)); exact HO_9.out⟩, ⟨by (with_reducible repeat (first | refine blk_drewN ?_ _ | refine blk_drew ?_ | refine blk_alloc ?_ _)); exact BK341.out⟩, ⟨bl HB⟩⟩
            case round =>
             clear H'
             try clear p2
             try clear p3
             try clear q3
             try clear hx3
             try clear c5
             try clear c6
             try clear p6
             try clear c7
             try clear p7
             try clear q7
             try clear hx7
             try clear hf7
             try clear c8
             try clear p36
             try clear q36
             try clear hx36
             try clear p37
             try clear q37
             try clear hx37
             try clear c54
             try clear c54b0
             try clear c55
             try clear p64
             try clear c68
             try clear c69
             try clear c70
             try clear c70b0
             try clear c70b1
             try clear p71
             try clear q71
             try clear hx71
             try clear hf71
             try clear c73
             try clear c81
             (try clear hcz74_0 hcz74_1 hcz74_2 hcz74_3 hcz74_4)
             (try clear hcz82_0 hcz82_1 hcz82_2 hcz82_3 hcz82_4)
             (try clear hfz74_0 hfz74_1 hfz74_2 hfz74_3 hfz74_4)
             (try clear hfz82_0 hfz82_1 hfz82_2 hfz82_3 hfz82_4)
             try clear hx367_0
             try clear hx367_1
             try clear hx367_2
             try clear hx367_3
             try clear hx367_4
             try clear hx369_0
             try clear hx370_0
             try clear hx71_0
             try clear p367
             try clear p369
             try clear p370
             try clear p71
             try clear q367
             try clear q369
             try clear q370
             try clear q71
             obtain ⟨x12_3, rfl, HA, HK3, HO_9, BK341, HB⟩ := hrel
             cases gk with
             | zero => exact absurd HA.out (by simp [revetmentlaw09_PlanParts.l1])
             | succ k3 =>
              have H := HA.out
              clear HA
              simp only [revetmentlaw09_PlanParts.l1] at H
              by_cases c86 : x12_3 < a0_1
              ·rw [if_pos c86] at H
               have c86b0 : decide (x12_3 < a0_1) = true := decide_eq_true c86
               clear c86
               by_cases c87 : 0 ≤ x12_3
               ·rw [if_pos c87] at H
                have c87b0 : decide (0 ≤ x12_3) = true := decide_eq_true c87
                clear c87
                by_cases c88 : x12_3 < (x9_2.length : Int)
                ·rw [if_pos c88] at H
                 have c88b0 : decide (x12_3 < (x9_2.length : Int)) = true := decide_eq_true c88
                 clear c88
                 replace H := Option.bind_eq_some_iff.mp H
                 obtain ⟨t373, A890, H⟩ := H
                 replace H : (if (rd x9_2 x12_3) = t373 then (revetmentlaw09_PlanParts.l1 k3 a1 x9_2 (wrap64 (x12_3 + 1)) a0_0 a0_1 a0_2 a0_3 a0_4 a0_5 a0_6 a0_7 a0_8 a0_9 a0_10) else (some false)) = some true := H
                 have A89 := Aside0.mk A890
                 clear A890
                 by_cases c90 : (rd x9_2 x12_3) = t373
                 ·rw [if_pos c90] at H
                  have c90b0 : ((rd x9_2 x12_3) == t373) = true := beq_iff_eq.mpr c90
                  have c90b1 : ((rd x9_2 x12_3) != t373) = false := bne_eq_false_iff_eq.mpr c90
                  clear c90
                  have H' := Aside0.mk H
                  clear H
                  obtain ⟨hcz91_0, hcz91_1, hcz91_2, hcz91_3, hcz91_4, hcz91_5, hcz91_6, hcz91_7, hcz91_8, hcz91_9, hcz91_10⟩ := cz11 BK341.out
                  try go_wp2
                  replace HO_9 := Aside0.mk (Kd.R_drew HO_9.out)
                  replace BK341 := Aside0.mk (blk_drew BK341.out)
                  replace HB := Aside0.mk (below_drew1 HB.out)
                  obtain ⟨Ao93, co93, eo93⟩ := Kd.R_slice HO_9.out
                  (first | subst eo93 | (injection eo93 with f1_ f2_ f3_; have f4_ := f1_.symm; have f5_ := f3_.symm; clear f1_ f2_ f3_; subst f4_; subst f5_))
                  have p372 : 0 ≤ (x12_3 : Int) := of_decide_eq_true (by first | (with_reducible assumption) | assumption)
                  have q372 : x12_3 < (x9_2.length : Int) := of_decide_eq_true (by first | (with_reducible assumption) | assumption)
                  obtain ⟨ad372, e372, hx372_0⟩ := Kd.at_int (Kd.R_reads' HO_9.out).2.2 x12_3 p372 q372
                  cases e372
                  replace p372 := eq_true p372
                  replace q372 := eq_true q372
                  refine start_ (n := 9) (S := fun w' => w'.cell? ⟨gb341, 0, none⟩ = some (.int .i64 a0_0) ∧ w'.cell? ⟨gb341, 1, none⟩ = some (.int .i64 a0_1) ∧ w'.cell? ⟨gb341, 2, none⟩ = some (.int .i64 a0_2) ∧ w'.cell? ⟨gb341, 3, none⟩ = some (.int .i64 a0_3) ∧ w'.cell? ⟨gb341, 4, none⟩ = some (.int .i64 a0_4) ∧ w'.cell? ⟨gb341, 5, none⟩ = some (.int .i64 a0_5) ∧ w'.cell? ⟨gb341, 6, none⟩ = some (.int .i64 a0_6) ∧ w'.cell? ⟨gb341, 7, none⟩ = some (.int .i64 a0_7) ∧ w'.cell? ⟨gb341, 8, none⟩ = some (.int .i64 a0_8) ∧ w'.cell? ⟨gb341, 9, none⟩ = some (.int .i64 a0_9) ∧ w'.cell? ⟨gb341, 10, none⟩ = some (.int .i64 a0_10) ∧ w'.cell? (ad372.add (x12_3).toNat) = some (.int .i64 (rd x9_2 x12_3))) (ds := []) (bq 9 0) (by kernel_rfl) rfl rfl ⟨(blk_cell BK341.out 0).trans rfl, (blk_cell BK341.out 1).trans rfl, (blk_cell BK341.out 2).trans rfl, (blk_cell BK341.out 3).trans rfl, (blk_cell BK341.out 4).trans rfl, (blk_cell BK341.out 5).trans rfl, (blk_cell BK341.out 6).trans rfl, (blk_cell BK341.out 7).trans rfl, (blk_cell BK341.out 8).trans rfl, (blk_cell BK341.out 9).trans rfl, (blk_cell BK341.out 10).trans rfl, hx372_0⟩ (fun hHeld => ?_); refine with_tabW revetmentlaw09_PlanParts.tab18 revetmentlaw09_PlanParts.bits18 (fun HT_ HW_ => ?_)
                  generalize wr.drew = w92 at HO_9 BK341 HB hx372_0 hHeld ⊢
                  apply pu 0 102 (bq 9 1) HT_
                  apply pu 1 103 (bq 9 3) HT_
                  apply pu 2 104 (bq 9 7) HT_
                  apply pu 5 107 (bq 9 39) HT_
                  apply pu 6 108 (bq 9 103) HT_
                  apply tu 3 105 (bq 9 111) HT_ HW_ hHeld
                  apply tu 4 106 (bq 9 127) HT_ HW_ hHeld
                  refine one_ (i := 7) (N := some 109) (bq 9 255) rfl rfl (one_of HT_.out (by kernel_rfl)) (by decide) (fun K hK => ?_)
                  refine gs Try.func30 #[.agg #[.int .i64 a0_0, .int .i64 a0_1, .int .i64 a0_2, .int .i64 a0_3, .int .i64 a0_4, .int .i64 a0_5, .int .i64 a0_6, .int .i64 a0_7, .int .i64 a0_8, .int .i64 a0_9, .int .i64 a0_10], .int .i64 x12_3, .int .i64 a1] ?_
                  with_reducible refine (revetmentref08_Need.calls k3 a0_0 a0_1 a0_2 a0_3 a0_4 a0_5 a0_6 a0_7 a0_8 a0_9 a0_10 x12_3 a1 t373 _ A89.out).mono ?_
                  rintro e w94 ⟨rfl, hb⟩
                  have HS11_ := (hb.cell (World.block_lt_of_cell? _ _ (hHeld.2.2.2.2.2.2.2.2.2.2.2))).trans (hHeld.2.2.2.2.2.2.2.2.2.2.2)
                  refine ⟨_, rfl, ?_⟩
                  replace HO_9 := Aside0.mk (Kd.R_below (by (with_reducible repeat (first | apply Kd.R_alloc | apply Kd.R_drewN | apply Kd.R_drew)); exact HO_9.out) hb)
                  replace BK341 := bkb BK341 hb
                  replace HB := bst HB hb
                  try clear hb; try clear hb2; try clear hk; try clear hi
                  refine hK.out _ _ ⟨(blk_cell BK341.out 0).trans rfl, (blk_cell BK341.out 1).trans rfl, (blk_cell BK341.out 2).trans rfl, (blk_cell BK341.out 3).trans rfl, (blk_cell BK341.out 4).trans rfl, (blk_cell BK341.out 5).trans rfl, (blk_cell BK341.out 6).trans rfl, (blk_cell BK341.out 7).trans rfl, (blk_cell BK341.out 8).trans rfl, (blk_cell BK341.out 9).trans rfl, (blk_cell BK341.out 10).trans rfl, HS11_⟩ (fun hHeld => ?_)
                  clear hK K
                  apply nm 0
                  apply pu 8 110 (bq 9 511) HT_
                  refine done_ (done_of HT_.out (by kernel_rfl)) ?_
                  try go_wp2
                  go_roundg k3
                  case measure => have := HJ3.out; have := HK2.out; have := HK3.out; omega
                  case rel => exact ⟨(wrap64 (x12_3 + 1)), (by first | rfl | (simp; done) | (simp [*]; done)), H', ⟨by have := HJ3.out; have := HK2.out; have := HK3.out; omega⟩, ⟨by (with_reducible repeat (first | apply Kd.R_alloc | apply Kd.R_drewN | apply Kd.R_drew)); exact HO_9.out⟩, ⟨by (with_reducible repeat (first | refine blk_drewN ?_ _ | refine blk_drew ?_ | refine blk_alloc ?_ _)); exact BK341.out⟩, ⟨bl HB⟩⟩
                 ·rw [if_neg c90] at H
                  have c90b0 : ((rd x9_2 x12_3) == t373) = false := beq_eq_false_iff_ne.mpr c90
                  have c90b1 : ((rd x9_2 x12_3) != t373) = true := bne_iff_ne.mpr c90
                  exact absurd H (by simp)
                ·rw [if_neg c88] at H
                 exact absurd H (by simp)
               ·rw [if_neg c87] at H
                exact absurd H (by simp)
              ·rw [if_neg c86] at H
               have c86b0 : decide (x12_3 < a0_1) = false := decide_eq_false c86
               clear c86
               replace H := Option.bind_eq_some_iff.mp H
               obtain ⟨t374, A990, H⟩ := H
               replace H : (some t374) = some true := H
               have A99 := Aside0.mk A990
               clear A990
               obtain rfl := Option.some.inj H
               obtain ⟨hcz100_0, hcz100_1, hcz100_2, hcz100_3, hcz100_4, hcz100_5, hcz100_6, hcz100_7, hcz100_8, hcz100_9, hcz100_10⟩ := cz11 BK341.out
               go_wp2_with (first | ((with_reducible refine gate_callee (f := 39) rfl ?_); refine goesL_ (some 111) rfl rfl Try.func39 (by kernel_rfl) rfl #[] rfl (by (try simp only [List.map_toArray, List.map_cons, List.map_nil]); first | done | rfl | (simp only [List.length_drop, List.length_take]; rfl)) ?_; (with_reducible refine (revetmentlaw09_live.calls  true _ A99.out).mono ?_); rintro e w101 ⟨rfl, hb⟩; refine ⟨_, rfl, ?_⟩; have n0_ := Aside0.mk (Kd.R_below (by (with_reducible repeat (first | apply Kd.R_alloc | apply Kd.R_drewN | apply Kd.R_drew)); exact HO_9.out) hb); have n1_ := bkb BK341 hb; have n2_ := bst HB hb; clear HO_9; clear BK341; clear HB; have HO_9 := n0_; have BK341 := n1_; have HB := n2_; clear n0_ n1_ n2_; (try clear hb); (try clear hb2); (try clear hk); (try clear hi)))
               go_ret
               exact ⟨by first | rfl | (simp [errW_none, errW_some] <;> rfl) | (simp [*, errW_none, errW_some] <;> rfl), bl HB⟩
        ·rw [if_neg c36] at H
         exact absurd H (by simp)
       ·rw [if_neg c35] at H
        exact absurd H (by simp)
      ·replace c34 := Bool.eq_false_iff.mpr c34
       subst c34
       have H1 : (some false) = some true := by rw [if_neg (show ¬ (false = true) by decide)] at H; exact H
       clear H
       have H := H1
       clear H1
       exact absurd H (by simp)
     ·rw [if_neg c32] at H
      exact absurd H (by simp)
    ·rw [if_neg c30] at H
     exact absurd H (by simp)

end Go.Proofs.Ytekihhbihnmakaa.PA
