/- Printed by the kit's print over stand-ins for some functions (xprint.py), with contracts of my own in their place. -/
import Derived.Test.YtekihhbihnmakaaPAx0
import Derived.Test.YtekihhbihnmakaaPAx9
import Derived.Test.YtekihhbihnmakaaPAx22
import Derived.Test.YtekihhbihnmakaaPAx54
import Derived.Test.YtekihhbihnmakaaPAx57
import Derived.Test.YtekihhbihnmakaaPAx58
import Derived.Test.YtekihhbihnmakaaPAx59
import Derived.Test.YtekihhbihnmakaaPAx903
import Derived.Test.YtekihhbihnmakaaPAx802
namespace Go.Proofs.Ytekihhbihnmakaa.PA
open Go.RowKit Go.Proofs.YtekihhbihnmakaaW.PrintWords Go.Proofs.YtekihhbihnmakaaW.PrintLast
set_option linter.unusedVariables false
set_option linter.unusedSimpArgs false

/-! ### revetmentlaw44_LoadsEven: function 15 -/
mutual
def revetmentlaw44_LoadsEven.j0 : Nat → Int → Bool → Int → Int → Int → Int → Int → Int → Int → Int → Int → Int → Int → Option (Bool)
  | 0, _, _, _, _, _, _, _, _, _, _, _, _, _ => none
  | k + 1, x1, x21, x697000, x697001, x697002, x697003, x697004, x697005, x697006, x697007, x697008, x697009, x697010 => if x21 = true then ((revetmentlaw44_live.f).bind fun t699 => (some t699)) else ((revetmentref07_Size.f x697000 x697001 x697002 x697003 x697004 x697005 x697006 x697007 x697008 x697009 x697010).bind fun t700 => ((loads_Of.f x697000 x697001 x697002 x697003 x697004 x697005 x697006 x697007 x697008 x697009 x697010 0 t700).bind fun t701 => (revetmentlaw44_LoadsEven.l0 k x1 t701 0 x697000 x697001 x697002 x697003 x697004 x697005 x697006 x697007 x697008 x697009 x697010)))
def revetmentlaw44_LoadsEven.l0 : Nat → Int → List (S75) → Int → Int → Int → Int → Int → Int → Int → Int → Int → Int → Int → Int → Option (Bool)
  | 0, _, _, _, _, _, _, _, _, _, _, _, _, _, _ => none
  | k + 1, x1, x5, x6, x697000, x697001, x697002, x697003, x697004, x697005, x697006, x697007, x697008, x697009, x697010 => if x6 < (x5.length : Int) then (if 0 ≤ x6 then (if (wrap64 (((rd_T75 x5 x6).f0) + ((rd_T75 x5 x6).f1))) = x697004 then (revetmentlaw44_LoadsEven.l0 k x1 x5 (wrap64 (x6 + 1)) x697000 x697001 x697002 x697003 x697004 x697005 x697006 x697007 x697008 x697009 x697010) else (some false)) else (none)) else ((loads_Sum.f k x5).bind fun bt706 => ((loads_Part.f k bt706.1 bt706.2).bind fun bt708 => ((loads_Even.f k x5).bind fun t710 => (if t710 = 0 then (if bt708.1 = 1 then (if bt708.2 = x697001 then ((loads_Of.f x697000 x697001 x697002 x697003 x697004 x697005 x697006 x697007 x697008 x697009 x697010 0 x1).bind fun t711 => ((loads_Even.f k t711).bind fun t714 => (if t714 ≤ x697002 then ((revetmentlaw44_live.f).bind fun t715 => (some t715)) else (some false)))) else (some false)) else (some false)) else (some false)))))
end
def revetmentlaw44_LoadsEven.f (k : Nat) (a0_0 : Int) (a0_1 : Int) (a0_2 : Int) (a0_3 : Int) (a0_4 : Int) (a0_5 : Int) (a0_6 : Int) (a0_7 : Int) (a0_8 : Int) (a0_9 : Int) (a0_10 : Int) (a1 : Int) : Option (Bool) := (revetmentref07_Small.f a0_0 a0_1 a0_2 a0_3 a0_4 a0_5 a0_6 a0_7 a0_8 a0_9 a0_10).bind fun t697 => (if t697 = true then (if a1 < 0 then (revetmentlaw44_LoadsEven.j0 k a1 true a0_0 a0_1 a0_2 a0_3 a0_4 a0_5 a0_6 a0_7 a0_8 a0_9 a0_10) else ((revetmentref07_Size.f a0_0 a0_1 a0_2 a0_3 a0_4 a0_5 a0_6 a0_7 a0_8 a0_9 a0_10).bind fun t698 => (revetmentlaw44_LoadsEven.j0 k a1 (decide (a1 > t698)) a0_0 a0_1 a0_2 a0_3 a0_4 a0_5 a0_6 a0_7 a0_8 a0_9 a0_10))) else (revetmentlaw44_LoadsEven.j0 k a1 true a0_0 a0_1 a0_2 a0_3 a0_4 a0_5 a0_6 a0_7 a0_8 a0_9 a0_10))
theorem revetmentlaw44_LoadsEven.mono_l : ∀ k, (∀ y0 y1 y2 y3 y4 y5 y6 y7 y8 y9 y10 y11 y12, LeO (revetmentlaw44_LoadsEven.j0 k y0 y1 y2 y3 y4 y5 y6 y7 y8 y9 y10 y11 y12) (revetmentlaw44_LoadsEven.j0 (k + 1) y0 y1 y2 y3 y4 y5 y6 y7 y8 y9 y10 y11 y12)) ∧ (∀ y0 y1 y2 y3 y4 y5 y6 y7 y8 y9 y10 y11 y12 y13, LeO (revetmentlaw44_LoadsEven.l0 k y0 y1 y2 y3 y4 y5 y6 y7 y8 y9 y10 y11 y12 y13) (revetmentlaw44_LoadsEven.l0 (k + 1) y0 y1 y2 y3 y4 y5 y6 y7 y8 y9 y10 y11 y12 y13))
 | 0 => ⟨fun _ _ _ _ _ _ _ _ _ _ _ _ _ r h => by simp [revetmentlaw44_LoadsEven.j0] at h, fun _ _ _ _ _ _ _ _ _ _ _ _ _ _ r h => by simp [revetmentlaw44_LoadsEven.l0] at h⟩
 | k + 1 => by
  obtain ⟨ih0, ih1⟩ := revetmentlaw44_LoadsEven.mono_l k
  refine ⟨?_, ?_⟩
  ·intro y0 y1 y2 y3 y4 y5 y6 y7 y8 y9 y10 y11 y12
   unfold revetmentlaw44_LoadsEven.j0
   repeat' first
   | (with_reducible exact ih0 _ _ _ _ _ _ _ _ _ _ _ _ _)
   | (with_reducible exact ih1 _ _ _ _ _ _ _ _ _ _ _ _ _ _)
   | (with_reducible exact loads_Even.mono _ _)
   | (with_reducible exact loads_Part.mono _ _ _)
   | (with_reducible exact loads_Sum.mono _ _)
   | (with_reducible exact LeO.refl _)
   | (with_reducible exact LeO.none _)
   | (with_reducible refine LeO.ite ?_ ?_)
   | (with_reducible refine LeO.bind ?_ (fun _ => ?_))
   | exact ih0 _ _ _ _ _ _ _ _ _ _ _ _ _
   | exact ih1 _ _ _ _ _ _ _ _ _ _ _ _ _ _
   | exact loads_Even.mono _ _
   | exact loads_Part.mono _ _ _
   | exact loads_Sum.mono _ _
   | exact LeO.none _
   | refine LeO.ite ?_ ?_
   | refine LeO.bind ?_ (fun _ => ?_)
  ·intro y0 y1 y2 y3 y4 y5 y6 y7 y8 y9 y10 y11 y12 y13
   unfold revetmentlaw44_LoadsEven.l0
   repeat' first
   | (with_reducible exact ih0 _ _ _ _ _ _ _ _ _ _ _ _ _)
   | (with_reducible exact ih1 _ _ _ _ _ _ _ _ _ _ _ _ _ _)
   | (with_reducible exact loads_Even.mono _ _)
   | (with_reducible exact loads_Part.mono _ _ _)
   | (with_reducible exact loads_Sum.mono _ _)
   | (with_reducible exact LeO.refl _)
   | (with_reducible exact LeO.none _)
   | (with_reducible refine LeO.ite ?_ ?_)
   | (with_reducible refine LeO.bind ?_ (fun _ => ?_))
   | exact ih0 _ _ _ _ _ _ _ _ _ _ _ _ _
   | exact ih1 _ _ _ _ _ _ _ _ _ _ _ _ _ _
   | exact loads_Even.mono _ _
   | exact loads_Part.mono _ _ _
   | exact loads_Sum.mono _ _
   | exact LeO.none _
   | refine LeO.ite ?_ ?_
   | refine LeO.bind ?_ (fun _ => ?_)
theorem revetmentlaw44_LoadsEven.mono : ∀ a0 a1 a2 a3 a4 a5 a6 a7 a8 a9 a10 a11 k, LeO (revetmentlaw44_LoadsEven.f k a0 a1 a2 a3 a4 a5 a6 a7 a8 a9 a10 a11) (revetmentlaw44_LoadsEven.f (k + 1) a0 a1 a2 a3 a4 a5 a6 a7 a8 a9 a10 a11) := by
 intro a0 a1 a2 a3 a4 a5 a6 a7 a8 a9 a10 a11 k
 obtain ⟨ih0, ih1⟩ := revetmentlaw44_LoadsEven.mono_l k
 unfold revetmentlaw44_LoadsEven.f
 repeat' first
   | (with_reducible exact ih0 _ _ _ _ _ _ _ _ _ _ _ _ _)
   | (with_reducible exact ih1 _ _ _ _ _ _ _ _ _ _ _ _ _ _)
   | (with_reducible exact loads_Even.mono _ _)
   | (with_reducible exact loads_Part.mono _ _ _)
   | (with_reducible exact loads_Sum.mono _ _)
   | (with_reducible exact LeO.refl _)
   | (with_reducible exact LeO.none _)
   | (with_reducible refine LeO.ite ?_ ?_)
   | (with_reducible refine LeO.bind ?_ (fun _ => ?_))
   | exact ih0 _ _ _ _ _ _ _ _ _ _ _ _ _
   | exact ih1 _ _ _ _ _ _ _ _ _ _ _ _ _ _
   | exact loads_Even.mono _ _
   | exact loads_Part.mono _ _ _
   | exact loads_Sum.mono _ _
   | exact LeO.none _
   | refine LeO.ite ?_ ?_
   | refine LeO.bind ?_ (fun _ => ?_)
def revetmentlaw44_LoadsEven.T7 : Bool × List (List Nat × List Nat) := (true, [([], []), ([], []), ([0, 1], [0, 1]), ([2], [2]), ([3], [3]), ([], []), ([], []), ([5, 6], [5, 6]), ([7], [7]), ([8], [8]), ([4, 9], [4, 9]), ([], []), ([11], [11]), ([10, 12], [10, 12])])
def revetmentlaw44_LoadsEven.B7 : List Nat := [0, 0, 3, 7, 15, 0, 0, 96, 224, 480, 1023, 0, 2048, 8191]
theorem revetmentlaw44_LoadsEven.tab7 : rtab .any (opsOf Try.f15 7) = revetmentlaw44_LoadsEven.T7 := by kernel_rfl
theorem revetmentlaw44_LoadsEven.bits7 : waitsOk revetmentlaw44_LoadsEven.T7.2 revetmentlaw44_LoadsEven.B7 = true := by kernel_rfl
def revetmentlaw44_LoadsEven.T10 : Bool × List (List Nat × List Nat) := (true, [([], []), ([0], [0]), ([1], [1]), ([2, 1], [2]), ([3], [3]), ([4, 3], [3, 4]), ([3, 5], [3, 5]), ([6, 3], [6]), ([7], [7]), ([7], [7]), ([9, 7], [7, 9]), ([8, 10, 7], [7, 8, 10]), ([7, 11], [7, 11]), ([12, 7], [12]), ([13], [13]), ([13], [13]), ([14, 15, 13, 13], [13, 14, 15]), ([16, 16, 13], [13, 16]), ([13], [13]), ([18, 13], [13, 18]), ([17, 19, 13], [13, 17, 19]), ([13, 20], [13, 20]), ([21, 17], [21]), ([22, 22], [22]), ([22, 23], [22, 23]), ([24, 23, 0, 1, 2, 3, 4, 5, 6, 7, 8, 9, 10, 11, 12, 13, 14, 15, 16, 17, 18, 19, 20, 21, 22, 23, 24], [24])])
def revetmentlaw44_LoadsEven.B10 : List Nat := [0, 1, 3, 7, 15, 31, 63, 127, 255, 255, 767, 2047, 4095, 8191, 16383, 16383, 65535, 131071, 16383, 278527, 1048575, 2097151, 4194303, 8388607, 16777215, 33554431]
theorem revetmentlaw44_LoadsEven.tab10 : rtab .any (opsOf Try.f15 10) = revetmentlaw44_LoadsEven.T10 := by kernel_rfl
theorem revetmentlaw44_LoadsEven.bits10 : waitsOk revetmentlaw44_LoadsEven.T10.2 revetmentlaw44_LoadsEven.B10 = true := by kernel_rfl
set_option maxHeartbeats 8000000 in
set_option maxRecDepth 100000 in
theorem revetmentlaw44_LoadsEven.calls (k : Nat) (a0_0 : Int) (a0_1 : Int) (a0_2 : Int) (a0_3 : Int) (a0_4 : Int) (a0_5 : Int) (a0_6 : Int) (a0_7 : Int) (a0_8 : Int) (a0_9 : Int) (a0_10 : Int) (a1 : Int) (w : World) (h : revetmentlaw44_LoadsEven.f k a0_0 a0_1 a0_2 a0_3 a0_4 a0_5 a0_6 a0_7 a0_8 a0_9 a0_10 a1 = some true) :
  Calls Try.prog 15 #[.agg #[.int .i64 a0_0, .int .i64 a0_1, .int .i64 a0_2, .int .i64 a0_3, .int .i64 a0_4, .int .i64 a0_5, .int .i64 a0_6, .int .i64 a0_7, .int .i64 a0_8, .int .i64 a0_9, .int .i64 a0_10], .int .i64 a1] w fun e w' => e = .returned (.bool true) ∧ Below w.heap.size w w' := by
 have hu23 := Try.underlying23
 have HB := Aside0.mk (Below.refl w.heap.size w)
 have H : ((revetmentref07_Small.f a0_0 a0_1 a0_2 a0_3 a0_4 a0_5 a0_6 a0_7 a0_8 a0_9 a0_10).bind fun t697 => (if t697 = true then (if a1 < 0 then (revetmentlaw44_LoadsEven.j0 k a1 true a0_0 a0_1 a0_2 a0_3 a0_4 a0_5 a0_6 a0_7 a0_8 a0_9 a0_10) else ((revetmentref07_Size.f a0_0 a0_1 a0_2 a0_3 a0_4 a0_5 a0_6 a0_7 a0_8 a0_9 a0_10).bind fun t698 => (revetmentlaw44_LoadsEven.j0 k a1 (decide (a1 > t698)) a0_0 a0_1 a0_2 a0_3 a0_4 a0_5 a0_6 a0_7 a0_8 a0_9 a0_10))) else (revetmentlaw44_LoadsEven.j0 k a1 true a0_0 a0_1 a0_2 a0_3 a0_4 a0_5 a0_6 a0_7 a0_8 a0_9 a0_10))) = some true := h
 clear h
 have HC3 := Aside0.mk H
 clear H
 go_enter Try.func15, Try.ntmps15
 go_upto_region 1 with (first | ((with_reducible refine gate_dst (N := 2) rfl ?_); refine box_event ?hg (N := 2) ?hd (cs := #[.int .i64 a0_0, .int .i64 a0_1, .int .i64 a0_2, .int .i64 a0_3, .int .i64 a0_4, .int .i64 a0_5, .int .i64 a0_6, .int .i64 a0_7, .int .i64 a0_8, .int .i64 a0_9, .int .i64 a0_10]) (t := 23) ?hr ?_; (case hd => rfl); (case hg => rfl); (case hr => first | (go_simp; done) | (go_simp; rfl)); intro gb696 hg w4 hbox hb; have n0_ := bst HB hb; have n1_ := Aside0.mk (hbox); have n2_ := Aside0.mk ((by rw [hg]; exact (below_size (bl HB)) : w.heap.size ≤ gb696)); have n3_ := Aside0.mk ((by rw [hg]; exact (below_size (bl HB)) : w.heap.size ≤ gb696)); clear HB; have HB := n0_; have BK696 := n1_; have GW696 := n2_; have GE696 := n3_; clear n0_ n1_ n2_ n3_; clear hb hbox hg))
 (try simp only [Act.put, List.setIfInBounds_toArray, List.set_cons_zero, List.set_cons_succ])
 go_cut [21] (fun v21 wc => ∃ (kq : Nat) (x21_2 : Bool), v21 = .bool x21_2 ∧ Aside0 (revetmentlaw44_LoadsEven.j0 kq a1 x21_2 a0_0 a0_1 a0_2 a0_3 a0_4 a0_5 a0_6 a0_7 a0_8 a0_9 a0_10 = some true) ∧ Aside0 (kq ≤ k) ∧ Aside0 (wc.heap[gb696]? = some (.cells #[.int .i64 a0_0, .int .i64 a0_1, .int .i64 a0_2, .int .i64 a0_3, .int .i64 a0_4, .int .i64 a0_5, .int .i64 a0_6, .int .i64 a0_7, .int .i64 a0_8, .int .i64 a0_9, .int .i64 a0_10] 23 (0, 0))) ∧ Aside0 (Below w.heap.size w wc))
 case first =>
  have H := HC3.out
  clear HC3
  replace H := Option.bind_eq_some_iff.mp H
  obtain ⟨t697, A50, H⟩ := H
  replace H : (if t697 = true then (if a1 < 0 then (revetmentlaw44_LoadsEven.j0 k a1 true a0_0 a0_1 a0_2 a0_3 a0_4 a0_5 a0_6 a0_7 a0_8 a0_9 a0_10) else ((revetmentref07_Size.f a0_0 a0_1 a0_2 a0_3 a0_4 a0_5 a0_6 a0_7 a0_8 a0_9 a0_10).bind fun t698 => (revetmentlaw44_LoadsEven.j0 k a1 (decide (a1 > t698)) a0_0 a0_1 a0_2 a0_3 a0_4 a0_5 a0_6 a0_7 a0_8 a0_9 a0_10))) else (revetmentlaw44_LoadsEven.j0 k a1 true a0_0 a0_1 a0_2 a0_3 a0_4 a0_5 a0_6 a0_7 a0_8 a0_9 a0_10)) = some true := H
  have A5 := Aside0.mk A50
  clear A50
  by_cases c6 : t697 = true
  ·subst c6
   have H1 : (if a1 < 0 then (revetmentlaw44_LoadsEven.j0 k a1 true a0_0 a0_1 a0_2 a0_3 a0_4 a0_5 a0_6 a0_7 a0_8 a0_9 a0_10) else ((revetmentref07_Size.f a0_0 a0_1 a0_2 a0_3 a0_4 a0_5 a0_6 a0_7 a0_8 a0_9 a0_10).bind fun t698 => (revetmentlaw44_LoadsEven.j0 k a1 (decide (a1 > t698)) a0_0 a0_1 a0_2 a0_3 a0_4 a0_5 a0_6 a0_7 a0_8 a0_9 a0_10))) = some true := by rw [if_pos rfl] at H; exact H
   clear H
   have H := H1
   clear H1
   by_cases c7 : a1 < 0
   ·rw [if_pos c7] at H
    have c7b0 : decide (a1 < 0) = true := decide_eq_true c7
    clear c7
    (first | rw [c7b0] | (simp only [i64_w, i32_w]; rw [c7b0]) | skip)
    have H' := Aside0.mk H
    clear H
    obtain ⟨hcz8_0, hcz8_1, hcz8_2, hcz8_3, hcz8_4, hcz8_5, hcz8_6, hcz8_7, hcz8_8, hcz8_9, hcz8_10⟩ := cz11 BK696.out
    go_wp2_with (first | ((with_reducible refine gate_callee (f := 33) rfl ?_); refine goesL_ (some 10) rfl rfl Try.func33 (by kernel_rfl) rfl #[.agg #[.int .i64 a0_0, .int .i64 a0_1, .int .i64 a0_2, .int .i64 a0_3, .int .i64 a0_4, .int .i64 a0_5, .int .i64 a0_6, .int .i64 a0_7, .int .i64 a0_8, .int .i64 a0_9, .int .i64 a0_10]] rfl (by (try simp only [List.map_toArray, List.map_cons, List.map_nil]); first | done | rfl | (simp only [List.length_drop, List.length_take]; rfl)) ?_; (with_reducible refine (revetmentref07_Small.calls a0_0 a0_1 a0_2 a0_3 a0_4 a0_5 a0_6 a0_7 a0_8 a0_9 a0_10 true _ A5.out).mono ?_); rintro e w9 ⟨rfl, hb⟩; refine ⟨_, rfl, ?_⟩; have n0_ := bkb BK696 hb; have n1_ := bst HB hb; clear BK696; clear HB; have BK696 := n0_; have HB := n1_; clear n0_ n1_; (try clear hb); (try clear hb2); (try clear hk); (try clear hi)))
    go_meet
    case rel => exact ⟨_, (true), (by first | rfl | (simp; done) | (simp [*]; done)), H', ⟨by first | omega | exact Nat.le_refl _⟩, ⟨by (with_reducible repeat (first | refine blk_drewN ?_ _ | refine blk_drew ?_ | refine blk_alloc ?_ _)); exact BK696.out⟩, ⟨bl HB⟩⟩
   ·rw [if_neg c7] at H
    have c7b0 : decide (a1 < 0) = false := decide_eq_false c7
    clear c7
    (first | rw [c7b0] | (simp only [i64_w, i32_w]; rw [c7b0]) | skip)
    replace H := Option.bind_eq_some_iff.mp H
    obtain ⟨t698, A100, H⟩ := H
    replace H : (revetmentlaw44_LoadsEven.j0 k a1 (decide (a1 > t698)) a0_0 a0_1 a0_2 a0_3 a0_4 a0_5 a0_6 a0_7 a0_8 a0_9 a0_10) = some true := H
    have A10 := Aside0.mk A100
    clear A100
    have H' := Aside0.mk H
    clear H
    obtain ⟨hcz11_0, hcz11_1, hcz11_2, hcz11_3, hcz11_4, hcz11_5, hcz11_6, hcz11_7, hcz11_8, hcz11_9, hcz11_10⟩ := cz11 BK696.out
    go_wp2_with (first | ((with_reducible refine gate_callee (f := 33) rfl ?_); refine goesL_ (some 10) rfl rfl Try.func33 (by kernel_rfl) rfl #[.agg #[.int .i64 a0_0, .int .i64 a0_1, .int .i64 a0_2, .int .i64 a0_3, .int .i64 a0_4, .int .i64 a0_5, .int .i64 a0_6, .int .i64 a0_7, .int .i64 a0_8, .int .i64 a0_9, .int .i64 a0_10]] rfl (by (try simp only [List.map_toArray, List.map_cons, List.map_nil]); first | done | rfl | (simp only [List.length_drop, List.length_take]; rfl)) ?_; (with_reducible refine (revetmentref07_Small.calls a0_0 a0_1 a0_2 a0_3 a0_4 a0_5 a0_6 a0_7 a0_8 a0_9 a0_10 true _ A5.out).mono ?_); rintro e w12 ⟨rfl, hb⟩; refine ⟨_, rfl, ?_⟩; have n0_ := bkb BK696 hb; have n1_ := bst HB hb; clear BK696; clear HB; have BK696 := n0_; have HB := n1_; clear n0_ n1_; (try clear hb); (try clear hb2); (try clear hk); (try clear hi); obtain ⟨hcz13_0, hcz13_1, hcz13_2, hcz13_3, hcz13_4, hcz13_5, hcz13_6, hcz13_7, hcz13_8, hcz13_9, hcz13_10⟩ := cz11 BK696.out) | (go_at_call 58; (with_reducible refine (revetmentref07_Size.calls a0_0 a0_1 a0_2 a0_3 a0_4 a0_5 a0_6 a0_7 a0_8 a0_9 a0_10 t698 _ A10.out).mono ?_); rintro e w14 ⟨rfl, hb⟩; have n0_ := bkb BK696 hb; have n1_ := bst HB hb; clear BK696; clear HB; have BK696 := n0_; have HB := n1_; clear n0_ n1_; (try clear hb); (try clear hb2); (try clear hk); (try clear hi)))
    go_meet
    case rel => exact ⟨_, (decide (a1 > t698)), (by first | rfl | (simp; done) | (simp [*]; done)), H', ⟨by first | omega | exact Nat.le_refl _⟩, ⟨by (with_reducible repeat (first | refine blk_drewN ?_ _ | refine blk_drew ?_ | refine blk_alloc ?_ _)); exact BK696.out⟩, ⟨bl HB⟩⟩
  ·replace c6 := Bool.eq_false_iff.mpr c6
   subst c6
   have H1 : (revetmentlaw44_LoadsEven.j0 k a1 true a0_0 a0_1 a0_2 a0_3 a0_4 a0_5 a0_6 a0_7 a0_8 a0_9 a0_10) = some true := by rw [if_neg (show ¬ (false = true) by decide)] at H; exact H
   clear H
   have H := H1
   clear H1
   have H' := Aside0.mk H
   clear H
   obtain ⟨hcz15_0, hcz15_1, hcz15_2, hcz15_3, hcz15_4, hcz15_5, hcz15_6, hcz15_7, hcz15_8, hcz15_9, hcz15_10⟩ := cz11 BK696.out
   go_wp2_with (first | ((with_reducible refine gate_callee (f := 33) rfl ?_); refine goesL_ (some 10) rfl rfl Try.func33 (by kernel_rfl) rfl #[.agg #[.int .i64 a0_0, .int .i64 a0_1, .int .i64 a0_2, .int .i64 a0_3, .int .i64 a0_4, .int .i64 a0_5, .int .i64 a0_6, .int .i64 a0_7, .int .i64 a0_8, .int .i64 a0_9, .int .i64 a0_10]] rfl (by (try simp only [List.map_toArray, List.map_cons, List.map_nil]); first | done | rfl | (simp only [List.length_drop, List.length_take]; rfl)) ?_; (with_reducible refine (revetmentref07_Small.calls a0_0 a0_1 a0_2 a0_3 a0_4 a0_5 a0_6 a0_7 a0_8 a0_9 a0_10 false _ A5.out).mono ?_); rintro e w16 ⟨rfl, hb⟩; refine ⟨_, rfl, ?_⟩; have n0_ := bkb BK696 hb; have n1_ := bst HB hb; clear BK696; clear HB; have BK696 := n0_; have HB := n1_; clear n0_ n1_; (try clear hb); (try clear hb2); (try clear hk); (try clear hi)))
   go_meet
   case rel => exact ⟨_, (true), (by first | rfl | (simp; done) | (simp [*]; done)), H', ⟨by first | omega | exact Nat.le_refl _⟩, ⟨by (with_reducible repeat (first | refine blk_drewN ?_ _ | refine blk_drew ?_ | refine blk_alloc ?_ _)); exact BK696.out⟩, ⟨bl HB⟩⟩
 case rest =>
  clear HC3
  try clear c1
  try clear p2
  try clear c3
  try clear c6
  try clear c7
  try clear c7b0
  try clear c15
  (try clear hcz11_0 hcz11_1)
  (try clear hcz11_10)
  (try clear hcz11_2 hcz11_3 hcz11_4 hcz11_5 hcz11_6 hcz11_7 hcz11_8 hcz11_9)
  (try clear hcz13_0 hcz13_1)
  (try clear hcz13_10)
  (try clear hcz13_2 hcz13_3 hcz13_4 hcz13_5 hcz13_6 hcz13_7 hcz13_8 hcz13_9)
  (try clear hcz15_0 hcz15_1)
  (try clear hcz15_10)
  (try clear hcz15_2 hcz15_3 hcz15_4 hcz15_5 hcz15_6 hcz15_7 hcz15_8 hcz15_9)
  (try clear hcz8_0 hcz8_1)
  (try clear hcz8_10)
  (try clear hcz8_2 hcz8_3 hcz8_4 hcz8_5 hcz8_6 hcz8_7 hcz8_8 hcz8_9)
  (try clear hfz11_0 hfz11_1)
  (try clear hfz11_10)
  (try clear hfz11_2 hfz11_3 hfz11_4 hfz11_5 hfz11_6 hfz11_7 hfz11_8 hfz11_9)
  (try clear hfz13_0 hfz13_1)
  (try clear hfz13_10)
  (try clear hfz13_2 hfz13_3 hfz13_4 hfz13_5 hfz13_6 hfz13_7 hfz13_8 hfz13_9)
  (try clear hfz15_0 hfz15_1)
  (try clear hfz15_10)
  (try clear hfz15_2 hfz15_3 hfz15_4 hfz15_5 hfz15_6 hfz15_7 hfz15_8 hfz15_9)
  (try clear hfz8_0 hfz8_1)
  (try clear hfz8_10)
  (try clear hfz8_2 hfz8_3 hfz8_4 hfz8_5 hfz8_6 hfz8_7 hfz8_8 hfz8_9)
  obtain ⟨kq, x21_2, rfl, HA, HJ2, BK696, HB⟩ := hcut
  cases kq with
  | zero => exact absurd HA.out (by simp [revetmentlaw44_LoadsEven.j0])
  | succ kj2 =>
   have H := HA.out
   clear HA
   simp only [revetmentlaw44_LoadsEven.j0] at H
   by_cases c17 : x21_2 = true
   ·subst c17
    have H1 : ((revetmentlaw44_live.f).bind fun t699 => (some t699)) = some true := by rw [if_pos rfl] at H; exact H
    clear H
    have H := H1
    clear H1
    replace H := Option.bind_eq_some_iff.mp H
    obtain ⟨t699, A180, H⟩ := H
    replace H : (some t699) = some true := H
    have A18 := Aside0.mk A180
    clear A180
    obtain rfl := Option.some.inj H
    go_wp2_with (first | ((with_reducible refine gate_callee (f := 60) rfl ?_); refine goesL_ (some 22) rfl rfl Try.func60 (by kernel_rfl) rfl #[] rfl (by (try simp only [List.map_toArray, List.map_cons, List.map_nil]); first | done | rfl | (simp only [List.length_drop, List.length_take]; rfl)) ?_; (with_reducible refine (revetmentlaw44_live.calls  true _ A18.out).mono ?_); rintro e w19 ⟨rfl, hb⟩; refine ⟨_, rfl, ?_⟩; have n0_ := bkb BK696 hb; have n1_ := bst HB hb; clear BK696; clear HB; have BK696 := n0_; have HB := n1_; clear n0_ n1_; (try clear hb); (try clear hb2); (try clear hk); (try clear hi)))
    go_ret
    exact ⟨by first | rfl | (simp [errW_none, errW_some] <;> rfl) | (simp [*, errW_none, errW_some] <;> rfl), bl HB⟩
   ·replace c17 := Bool.eq_false_iff.mpr c17
    subst c17
    have H1 : ((revetmentref07_Size.f a0_0 a0_1 a0_2 a0_3 a0_4 a0_5 a0_6 a0_7 a0_8 a0_9 a0_10).bind fun t700 => ((loads_Of.f a0_0 a0_1 a0_2 a0_3 a0_4 a0_5 a0_6 a0_7 a0_8 a0_9 a0_10 0 t700).bind fun t701 => (revetmentlaw44_LoadsEven.l0 kj2 a1 t701 0 a0_0 a0_1 a0_2 a0_3 a0_4 a0_5 a0_6 a0_7 a0_8 a0_9 a0_10))) = some true := by rw [if_neg (show ¬ (false = true) by decide)] at H; exact H
    clear H
    have H := H1
    clear H1
    replace H := Option.bind_eq_some_iff.mp H
    obtain ⟨t700, A200, H⟩ := H
    replace H : ((loads_Of.f a0_0 a0_1 a0_2 a0_3 a0_4 a0_5 a0_6 a0_7 a0_8 a0_9 a0_10 0 t700).bind fun t701 => (revetmentlaw44_LoadsEven.l0 kj2 a1 t701 0 a0_0 a0_1 a0_2 a0_3 a0_4 a0_5 a0_6 a0_7 a0_8 a0_9 a0_10)) = some true := H
    have A20 := Aside0.mk A200
    clear A200
    replace H := Option.bind_eq_some_iff.mp H
    obtain ⟨t701, A210, H⟩ := H
    replace H : (revetmentlaw44_LoadsEven.l0 kj2 a1 t701 0 a0_0 a0_1 a0_2 a0_3 a0_4 a0_5 a0_6 a0_7 a0_8 a0_9 a0_10) = some true := H
    have A21 := Aside0.mk A210
    clear A210
    have H' := Aside0.mk H
    clear H
    try go_wp2
    replace BK696 := Aside0.mk (blk_drew BK696.out)
    replace HB := Aside0.mk (below_drew1 HB.out)
    refine start_ (n := 5) (S := fun w' => w'.cell? ⟨gb696, 0, none⟩ = some (.int .i64 a0_0) ∧ w'.cell? ⟨gb696, 1, none⟩ = some (.int .i64 a0_1) ∧ w'.cell? ⟨gb696, 2, none⟩ = some (.int .i64 a0_2) ∧ w'.cell? ⟨gb696, 3, none⟩ = some (.int .i64 a0_3) ∧ w'.cell? ⟨gb696, 4, none⟩ = some (.int .i64 a0_4) ∧ w'.cell? ⟨gb696, 5, none⟩ = some (.int .i64 a0_5) ∧ w'.cell? ⟨gb696, 6, none⟩ = some (.int .i64 a0_6) ∧ w'.cell? ⟨gb696, 7, none⟩ = some (.int .i64 a0_7) ∧ w'.cell? ⟨gb696, 8, none⟩ = some (.int .i64 a0_8) ∧ w'.cell? ⟨gb696, 9, none⟩ = some (.int .i64 a0_9) ∧ w'.cell? ⟨gb696, 10, none⟩ = some (.int .i64 a0_10)) (ds := []) #[false, false, false, false, false] (by kernel_rfl) rfl rfl (cz11 BK696.out) (fun hHeld => ?_)
    generalize wc.drew = w22 at BK696 HB hHeld ⊢
    refine take_ (i := 0) (N := some 23) (v := ?_) (a' := ?_) #[true, false, false, false, false] rfl rfl (by kernel_rfl) (fun _ _ _ h => h) (Or.inl ⟨by rfl, ?_⟩) hHeld ?_ ?_
    rotate_left
    ·rintro w' ⟨s0, s1, s2, s3, s4, s5, s6, s7, s8, s9, s10⟩
     go_simp
     with_reducible rfl
    rotate_left
    ·simp only [pq]
     rfl
    refine take_ (i := 1) (N := some 24) (v := ?_) (a' := ?_) #[true, true, false, false, false] rfl rfl (by kernel_rfl) (fun _ _ _ h => h) (Or.inl ⟨by rfl, ?_⟩) hHeld ?_ ?_
    rotate_left
    ·rintro w' ⟨s0, s1, s2, s3, s4, s5, s6, s7, s8, s9, s10⟩
     go_simp
     with_reducible rfl
    rotate_left
    ·simp only [pq]
     rfl
    refine one_ (i := 2) (N := some 25) #[true, true, true, false, false] rfl rfl (by kernel_rfl) (by decide) (fun K hK => ?_)
    refine gs Try.func58 #[.agg #[.int .i64 a0_0, .int .i64 a0_1, .int .i64 a0_2, .int .i64 a0_3, .int .i64 a0_4, .int .i64 a0_5, .int .i64 a0_6, .int .i64 a0_7, .int .i64 a0_8, .int .i64 a0_9, .int .i64 a0_10]] ?_
    with_reducible refine (revetmentref07_Size.calls a0_0 a0_1 a0_2 a0_3 a0_4 a0_5 a0_6 a0_7 a0_8 a0_9 a0_10 t700 _ A20.out).mono ?_
    rintro e w23 ⟨rfl, hb⟩
    refine ⟨_, rfl, ?_⟩
    replace BK696 := bkb BK696 hb
    replace HB := bst HB hb
    try clear hb; try clear hb2; try clear hk; try clear hi
    refine hK.out _ _ sc (fun hHeld => ?_)
    clear hK K
    apply nm 0
    refine one_ (i := 3) (N := some 26) #[true, true, true, true, false] rfl rfl (by kernel_rfl) (by decide) (fun K hK => ?_)
    refine gs Try.func61 #[.agg #[.int .i64 a0_0, .int .i64 a0_1, .int .i64 a0_2, .int .i64 a0_3, .int .i64 a0_4, .int .i64 a0_5, .int .i64 a0_6, .int .i64 a0_7, .int .i64 a0_8, .int .i64 a0_9, .int .i64 a0_10], .int .i64 0, .int .i64 t700] ?_
    with_reducible refine (loads_Of.calls a0_0 a0_1 a0_2 a0_3 a0_4 a0_5 a0_6 a0_7 a0_8 a0_9 a0_10 0 t700 t701 _ A21.out).mono ?_
    rintro e w24 ⟨v702, rfl, ho0, hb⟩
    refine ⟨_, rfl, ?_⟩
    have n0_ := Aside0.mk (Kd.R_lower ho0 (below_size (bl HB)))
    have n1_ := bkb BK696 hb
    have n2_ := bst HB hb
    clear BK696
    clear HB
    have HO703 := n0_
    have BK696 := n1_
    have HB := n2_
    clear n0_ n1_ n2_
    try clear hb; try clear hb2; try clear hk; try clear hi
    (try clear ho0)
    refine hK.out _ _ sc (fun hHeld => ?_)
    clear hK K
    apply nm 0
    refine pure_ (i := 4) (N := some 5) (v := ?_) (a' := ?_) #[true, true, true, true, true] rfl rfl (by kernel_rfl) (fun _ _ _ h => h) (Or.inl ⟨by rfl, ?_⟩) ?_ ?_
    rotate_left
    ·intro w'
     go_simp
     with_reducible rfl
    rotate_left
    ·simp only [pq]
     rfl
    refine done_ (by kernel_rfl) ?_
    try go_wp2
    go_loopg [6] kj2 (fun kq v6 w' => ∃ (x6_2 : Int), v6 = .int .i64 x6_2 ∧ Aside0 (revetmentlaw44_LoadsEven.l0 kq a1 t701 x6_2 a0_0 a0_1 a0_2 a0_3 a0_4 a0_5 a0_6 a0_7 a0_8 a0_9 a0_10 = some true) ∧ Aside0 (kq ≤ kj2) ∧ Aside0 (Kd.R k75 75 w' w.heap.size (fun _ => True) v702 t701) ∧ Aside0 (w'.heap[gb696]? = some (.cells #[.int .i64 a0_0, .int .i64 a0_1, .int .i64 a0_2, .int .i64 a0_3, .int .i64 a0_4, .int .i64 a0_5, .int .i64 a0_6, .int .i64 a0_7, .int .i64 a0_8, .int .i64 a0_9, .int .i64 a0_10] 23 (0, 0))) ∧ Aside0 (Below w.heap.size w w'))
    case atStart => exact ⟨(0), (by first | rfl | (simp; done) | (simp [*]; done)), H', ⟨Nat.le_refl _⟩, ⟨by (with_reducible repeat (first | apply Kd.R_alloc | apply Kd.R_drewN | apply Kd.R_drew)); exact HO703.out⟩, ⟨by (with_reducible repeat (first | refine blk_drewN ?_ _ | refine blk_drew ?_ | refine blk_alloc ?_ _)); exact BK696.out⟩, ⟨bl HB⟩⟩
    case round =>
     clear H'
     try clear c1
     try clear p2
     try clear c3
     try clear c5
     try clear c6
     try clear c7
     try clear c7b0
     try clear c15
     try clear c17
     (try clear hcz11_0 hcz11_1)
     (try clear hcz11_10)
     (try clear hcz11_2 hcz11_3 hcz11_4 hcz11_5 hcz11_6 hcz11_7 hcz11_8 hcz11_9)
     (try clear hcz13_0 hcz13_1)
     (try clear hcz13_10)
     (try clear hcz13_2 hcz13_3 hcz13_4 hcz13_5 hcz13_6 hcz13_7 hcz13_8 hcz13_9)
     (try clear hcz15_0 hcz15_1)
     (try clear hcz15_10)
     (try clear hcz15_2 hcz15_3 hcz15_4 hcz15_5 hcz15_6 hcz15_7 hcz15_8 hcz15_9)
     (try clear hcz8_0 hcz8_1)
     (try clear hcz8_10)
     (try clear hcz8_2 hcz8_3 hcz8_4 hcz8_5 hcz8_6 hcz8_7 hcz8_8 hcz8_9)
     (try clear hfz11_0 hfz11_1)
     (try clear hfz11_10)
     (try clear hfz11_2 hfz11_3 hfz11_4 hfz11_5 hfz11_6 hfz11_7 hfz11_8 hfz11_9)
     (try clear hfz13_0 hfz13_1)
     (try clear hfz13_10)
     (try clear hfz13_2 hfz13_3 hfz13_4 hfz13_5 hfz13_6 hfz13_7 hfz13_8 hfz13_9)
     (try clear hfz15_0 hfz15_1)
     (try clear hfz15_10)
     (try clear hfz15_2 hfz15_3 hfz15_4 hfz15_5 hfz15_6 hfz15_7 hfz15_8 hfz15_9)
     (try clear hfz8_0 hfz8_1)
     (try clear hfz8_10)
     (try clear hfz8_2 hfz8_3 hfz8_4 hfz8_5 hfz8_6 hfz8_7 hfz8_8 hfz8_9)
     try clear p2
     obtain ⟨x6_2, rfl, HA, HK2, HO_5, BK696, HB⟩ := hrel
     cases gk with
     | zero => exact absurd HA.out (by simp [revetmentlaw44_LoadsEven.l0])
     | succ k2 =>
      have H := HA.out
      clear HA
      simp only [revetmentlaw44_LoadsEven.l0] at H
      by_cases c25 : x6_2 < (t701.length : Int)
      ·rw [if_pos c25] at H
       have c25b0 : decide (x6_2 < (t701.length : Int)) = true := decide_eq_true c25
       clear c25
       by_cases c26 : 0 ≤ x6_2
       ·rw [if_pos c26] at H
        have c26b0 : decide (0 ≤ x6_2) = true := decide_eq_true c26
        clear c26
        by_cases c27 : (wrap64 (((rd_T75 t701 x6_2).f0) + ((rd_T75 t701 x6_2).f1))) = a0_4
        ·rw [if_pos c27] at H
         have c27b0 : ((wrap64 (((rd_T75 t701 x6_2).f0) + ((rd_T75 t701 x6_2).f1))) == a0_4) = true := beq_iff_eq.mpr c27
         have c27b1 : ((wrap64 (((rd_T75 t701 x6_2).f0) + ((rd_T75 t701 x6_2).f1))) != a0_4) = false := bne_eq_false_iff_eq.mpr c27
         clear c27
         have H' := Aside0.mk H
         clear H
         obtain ⟨Ao28, co28, eo28⟩ := Kd.R_slice HO_5.out
         subst eo28
         try go_wp2
         replace HO_5 := Aside0.mk (Kd.R_drew HO_5.out)
         replace BK696 := Aside0.mk (blk_drew BK696.out)
         replace HB := Aside0.mk (below_drew1 HB.out)
         have p704 : 0 ≤ (x6_2 : Int) := of_decide_eq_true (by first | (with_reducible assumption) | assumption)
         have q704 : x6_2 < (t701.length : Int) := of_decide_eq_true (by first | (with_reducible assumption) | assumption)
         obtain ⟨ad704, e704, hx704_0, hx704_1⟩ := at_T75 (Kd.R_reads' HO_5.out).2.2 x6_2 p704 q704
         cases e704
         replace p704 := eq_true p704
         replace q704 := eq_true q704
         have p705 : 0 ≤ (x6_2 : Int) := of_decide_eq_true (by first | (with_reducible assumption) | assumption)
         have q705 : x6_2 < (t701.length : Int) := of_decide_eq_true (by first | (with_reducible assumption) | assumption)
         obtain ⟨ad705, e705, hx705_0, hx705_1⟩ := at_T75 (Kd.R_reads' HO_5.out).2.2 x6_2 p705 q705
         obtain rfl : ad704 = ad705 := (by injection e705)
         replace p705 := eq_true p705
         replace q705 := eq_true q705
         refine start_ (n := 14) (S := fun w' => w'.cell? ⟨gb696, 0, none⟩ = some (.int .i64 a0_0) ∧ w'.cell? ⟨gb696, 1, none⟩ = some (.int .i64 a0_1) ∧ w'.cell? ⟨gb696, 2, none⟩ = some (.int .i64 a0_2) ∧ w'.cell? ⟨gb696, 3, none⟩ = some (.int .i64 a0_3) ∧ w'.cell? ⟨gb696, 4, none⟩ = some (.int .i64 a0_4) ∧ w'.cell? ⟨gb696, 5, none⟩ = some (.int .i64 a0_5) ∧ w'.cell? ⟨gb696, 6, none⟩ = some (.int .i64 a0_6) ∧ w'.cell? ⟨gb696, 7, none⟩ = some (.int .i64 a0_7) ∧ w'.cell? ⟨gb696, 8, none⟩ = some (.int .i64 a0_8) ∧ w'.cell? ⟨gb696, 9, none⟩ = some (.int .i64 a0_9) ∧ w'.cell? ⟨gb696, 10, none⟩ = some (.int .i64 a0_10) ∧ w'.cell? (ad704.add ((x6_2).toNat * 2)) = some (.int .i64 ((rd_T75 t701 x6_2).f0)) ∧ w'.cell? ⟨(ad704.add ((x6_2).toNat * 2)).block, (ad704.add ((x6_2).toNat * 2)).off + 1, none⟩ = some (.int .i64 ((rd_T75 t701 x6_2).f1)) ∧ w'.cell? (ad704.add ((x6_2).toNat * 2)) = some (.int .i64 ((rd_T75 t701 x6_2).f0)) ∧ w'.cell? ⟨(ad704.add ((x6_2).toNat * 2)).block, (ad704.add ((x6_2).toNat * 2)).off + 1, none⟩ = some (.int .i64 ((rd_T75 t701 x6_2).f1))) (ds := []) (bq 14 0) (by kernel_rfl) rfl rfl ⟨(blk_cell BK696.out 0).trans rfl, (blk_cell BK696.out 1).trans rfl, (blk_cell BK696.out 2).trans rfl, (blk_cell BK696.out 3).trans rfl, (blk_cell BK696.out 4).trans rfl, (blk_cell BK696.out 5).trans rfl, (blk_cell BK696.out 6).trans rfl, (blk_cell BK696.out 7).trans rfl, (blk_cell BK696.out 8).trans rfl, (blk_cell BK696.out 9).trans rfl, (blk_cell BK696.out 10).trans rfl, hx704_0, hx704_1, hx705_0, hx705_1⟩ (fun hHeld => ?_); refine with_tabW revetmentlaw44_LoadsEven.tab7 revetmentlaw44_LoadsEven.bits7 (fun HT_ HW_ => ?_)
         generalize wr.drew = w29 at HO_5 BK696 HB hx704_0 hx704_1 hx705_0 hx705_1 hHeld ⊢
         apply pu 0 33 (bq 14 1) HT_
         apply pu 1 34 (bq 14 3) HT_
         apply pu 2 35 (bq 14 7) HT_
         apply pu 3 36 (bq 14 15) HT_
         apply pu 5 38 (bq 14 47) HT_
         apply pu 6 39 (bq 14 111) HT_
         apply pu 7 40 (bq 14 239) HT_
         apply pu 8 41 (bq 14 495) HT_
         apply pu 11 44 (bq 14 2543) HT_
         apply tu 4 37 (bq 14 2559) HT_ HW_ hHeld
         apply tu 9 42 (bq 14 3071) HT_ HW_ hHeld
         apply pu 10 43 (bq 14 4095) HT_
         apply tu 12 45 (bq 14 8191) HT_ HW_ hHeld
         apply pu 13 46 (bq 14 16383) HT_
         refine done_ (done_of HT_.out (by kernel_rfl)) ?_
         try go_wp2
         go_roundg k2
         case measure => have := HJ2.out; have := HK2.out; omega
         case rel => exact ⟨(wrap64 (x6_2 + 1)), (by first | rfl | (simp; done) | (simp [*]; done)), H', ⟨by have := HJ2.out; have := HK2.out; omega⟩, ⟨by (with_reducible repeat (first | apply Kd.R_alloc | apply Kd.R_drewN | apply Kd.R_drew)); exact HO_5.out⟩, ⟨by (with_reducible repeat (first | refine blk_drewN ?_ _ | refine blk_drew ?_ | refine blk_alloc ?_ _)); exact BK696.out⟩, ⟨bl HB⟩⟩
        ·rw [if_neg c27] at H
         have c27b0 : ((wrap64 (((rd_T75 t701 x6_2).f0) + ((rd_T75 t701 x6_2).f1))) == a0_4) = false := beq_eq_false_iff_ne.mpr c27
         have c27b1 : ((wrap64 (((rd_T75 t701 x6_2).f0) + ((rd_T75 t701 x6_2).f1))) != a0_4) = true := bne_iff_ne.mpr c27
         exact absurd H (by simp)
       ·rw [if_neg c26] at H
        exact absurd H (by simp)
      ·rw [if_neg c25] at H
       have c25b0 : decide (x6_2 < (t701.length : Int)) = false := decide_eq_false c25
       clear c25
       replace H := Option.bind_eq_some_iff.mp H
       obtain ⟨⟨t706, t707⟩, A320, H⟩ := H
       replace H : ((loads_Part.f k2 t706 t707).bind fun bt708 => ((loads_Even.f k2 t701).bind fun t710 => (if t710 = 0 then (if bt708.1 = 1 then (if bt708.2 = a0_1 then ((loads_Of.f a0_0 a0_1 a0_2 a0_3 a0_4 a0_5 a0_6 a0_7 a0_8 a0_9 a0_10 0 a1).bind fun t711 => ((loads_Even.f k2 t711).bind fun t714 => (if t714 ≤ a0_2 then ((revetmentlaw44_live.f).bind fun t715 => (some t715)) else (some false)))) else (some false)) else (some false)) else (some false)))) = some true := H
       have A32 := Aside0.mk A320
       clear A320
       replace H := Option.bind_eq_some_iff.mp H
       obtain ⟨⟨t708, t709⟩, A330, H⟩ := H
       replace H : ((loads_Even.f k2 t701).bind fun t710 => (if t710 = 0 then (if t708 = 1 then (if t709 = a0_1 then ((loads_Of.f a0_0 a0_1 a0_2 a0_3 a0_4 a0_5 a0_6 a0_7 a0_8 a0_9 a0_10 0 a1).bind fun t711 => ((loads_Even.f k2 t711).bind fun t714 => (if t714 ≤ a0_2 then ((revetmentlaw44_live.f).bind fun t715 => (some t715)) else (some false)))) else (some false)) else (some false)) else (some false))) = some true := H
       have A33 := Aside0.mk A330
       clear A330
       replace H := Option.bind_eq_some_iff.mp H
       obtain ⟨t710, A340, H⟩ := H
       replace H : (if t710 = 0 then (if t708 = 1 then (if t709 = a0_1 then ((loads_Of.f a0_0 a0_1 a0_2 a0_3 a0_4 a0_5 a0_6 a0_7 a0_8 a0_9 a0_10 0 a1).bind fun t711 => ((loads_Even.f k2 t711).bind fun t714 => (if t714 ≤ a0_2 then ((revetmentlaw44_live.f).bind fun t715 => (some t715)) else (some false)))) else (some false)) else (some false)) else (some false)) = some true := H
       have A34 := Aside0.mk A340
       clear A340
       by_cases c35 : t710 = 0
       ·rw [if_pos c35] at H
        have c35b0 : (t710 == 0) = true := beq_iff_eq.mpr c35
        have c35b1 : (t710 != 0) = false := bne_eq_false_iff_eq.mpr c35
        clear c35
        by_cases c36 : t708 = 1
        ·rw [if_pos c36] at H
         have c36b0 : (t708 == 1) = true := beq_iff_eq.mpr c36
         have c36b1 : (t708 != 1) = false := bne_eq_false_iff_eq.mpr c36
         clear c36
         by_cases c37 : t709 = a0_1
         ·rw [if_pos c37] at H
          have c37b0 : (t709 == a0_1) = true := beq_iff_eq.mpr c37
          have c37b1 : (t709 != a0_1) = false := bne_eq_false_iff_eq.mpr c37
          clear c37
          replace H := Option.bind_eq_some_iff.mp H
          obtain ⟨t711, A380, H⟩ := H
          replace H : ((loads_Even.f k2 t711).bind fun t714 => (if t714 ≤ a0_2 then ((revetmentlaw44_live.f).bind fun t715 => (some t715)) else (some false))) = some true := H
          have A38 := Aside0.mk A380
          clear A380
          replace H := Option.bind_eq_some_iff.mp H
          obtain ⟨t714, A390, H⟩ := H
          replace H : (if t714 ≤ a0_2 then ((revetmentlaw44_live.f).bind fun t715 => (some t715)) else (some false)) = some true := H
          have A39 := Aside0.mk A390
          clear A390
          by_cases c40 : t714 ≤ a0_2
          ·rw [if_pos c40] at H
           have c40b0 : decide (t714 ≤ a0_2) = true := decide_eq_true c40
           clear c40
           replace H := Option.bind_eq_some_iff.mp H
           obtain ⟨t715, A410, H⟩ := H
           replace H : (some t715) = some true := H
           have A41 := Aside0.mk A410
           clear A410
           obtain rfl := Option.some.inj H
           obtain ⟨Ao42, co42, eo42⟩ := Kd.R_slice HO_5.out
           subst eo42
           try go_wp2_with (first | ((with_reducible refine gate_callee (f := 63) rfl ?_); refine goesL_ (some 49) rfl rfl Try.func63 (by kernel_rfl) rfl #[.slice Ao42 t701.length co42] rfl (by (try simp only [List.map_toArray, List.map_cons, List.map_nil]); first | done | rfl | (simp only [List.length_drop, List.length_take]; rfl)) ?_; (with_reducible refine (loads_Sum.calls k2 _ _ t701 t706 t707 _ ?side1 ?side2 A32.out).mono ?_); (case side1 => repeat (first | exact (Kd.R_reads' HO_5.out).2.2 | (with_reducible refine Kd.C_alloc ?_ _) | (with_reducible refine Kd.C_drewN ?_ _) | (with_reducible refine Kd.C_drew ?_))); (case side2 => exact (Kd.R_reads' HO_5.out).2.1); rintro e w43 ⟨rfl, hb⟩; refine ⟨_, rfl, ?_⟩; have n0_ := Aside0.mk (Kd.R_below (by (with_reducible repeat (first | apply Kd.R_alloc | apply Kd.R_drewN | apply Kd.R_drew)); exact HO_5.out) hb); have n1_ := bkb BK696 hb; have n2_ := bst HB hb; clear HO_5; clear BK696; clear HB; have HO_5 := n0_; have BK696 := n1_; have HB := n2_; clear n0_ n1_ n2_; (try clear hb); (try clear hb2); (try clear hk); (try clear hi)) | ((with_reducible refine gate_callee (f := 62) rfl ?_); refine goesL_ (some 50) rfl rfl Try.func62 (by kernel_rfl) rfl #[.agg #[.int .i64 t706, .int .i64 t707]] rfl (by (try simp only [List.map_toArray, List.map_cons, List.map_nil]); first | done | rfl | (simp only [List.length_drop, List.length_take]; rfl)) ?_; (with_reducible refine (loads_Part.calls k2 t706 t707 t708 t709 _ A33.out).mono ?_); rintro e w44 ⟨rfl, hb⟩; refine ⟨_, rfl, ?_⟩; have n0_ := Aside0.mk (Kd.R_below (by (with_reducible repeat (first | apply Kd.R_alloc | apply Kd.R_drewN | apply Kd.R_drew)); exact HO_5.out) hb); have n1_ := bkb BK696 hb; have n2_ := bst HB hb; clear HO_5; clear BK696; clear HB; have HO_5 := n0_; have BK696 := n1_; have HB := n2_; clear n0_ n1_ n2_; (try clear hb); (try clear hb2); (try clear hk); (try clear hi)))
           replace HO_5 := Aside0.mk (Kd.R_drew HO_5.out)
           replace BK696 := Aside0.mk (blk_drew BK696.out)
           replace HB := Aside0.mk (below_drew1 HB.out)
           refine start_ (n := 26) (S := fun w' => w'.cell? ⟨gb696, 0, none⟩ = some (.int .i64 a0_0) ∧ w'.cell? ⟨gb696, 1, none⟩ = some (.int .i64 a0_1) ∧ w'.cell? ⟨gb696, 2, none⟩ = some (.int .i64 a0_2) ∧ w'.cell? ⟨gb696, 3, none⟩ = some (.int .i64 a0_3) ∧ w'.cell? ⟨gb696, 4, none⟩ = some (.int .i64 a0_4) ∧ w'.cell? ⟨gb696, 5, none⟩ = some (.int .i64 a0_5) ∧ w'.cell? ⟨gb696, 6, none⟩ = some (.int .i64 a0_6) ∧ w'.cell? ⟨gb696, 7, none⟩ = some (.int .i64 a0_7) ∧ w'.cell? ⟨gb696, 8, none⟩ = some (.int .i64 a0_8) ∧ w'.cell? ⟨gb696, 9, none⟩ = some (.int .i64 a0_9) ∧ w'.cell? ⟨gb696, 10, none⟩ = some (.int .i64 a0_10)) (ds := []) (bq 26 0) (by kernel_rfl) rfl rfl (cz11 BK696.out) (fun hHeld => ?_); refine with_tabW revetmentlaw44_LoadsEven.tab10 revetmentlaw44_LoadsEven.bits10 (fun HT_ HW_ => ?_)
           generalize w44.drew = w45 at HO_5 BK696 HB hHeld ⊢
           apply pu 0 53 (bq 26 1) HT_
           refine one_ (i := 1) (N := some 54) (bq 26 3) rfl rfl (one_of HT_.out (by kernel_rfl)) (by decide) (fun K hK => ?_)
           refine gs Try.func64 #[.slice Ao42 t701.length co42] ?_
           with_reducible refine (loads_Even.calls k2 _ _ t701 t710 _ ?side1 ?side2 A34.out).mono ?_
           (case side1 => repeat (first | exact (Kd.R_reads' HO_5.out).2.2 | (with_reducible refine Kd.C_alloc ?_ _) | (with_reducible refine Kd.C_drewN ?_ _) | (with_reducible refine Kd.C_drew ?_)))
           (case side2 => exact (Kd.R_reads' HO_5.out).2.1)
           rintro e w46 ⟨rfl, hb⟩
           refine ⟨_, rfl, ?_⟩
           replace HO_5 := Aside0.mk (Kd.R_below (by (with_reducible repeat (first | apply Kd.R_alloc | apply Kd.R_drewN | apply Kd.R_drew)); exact HO_5.out) hb)
           replace BK696 := bkb BK696 hb
           replace HB := bst HB hb
           try clear hb; try clear hb2; try clear hk; try clear hi
           refine hK.out _ _ sc (fun hHeld => ?_)
           clear hK K
           apply nm 0
           apply pu 2 55 (bq 26 7) HT_
           apply pu 3 56 (bq 26 15) HT_
           apply pu 4 57 (bq 26 31) HT_
           apply pu 5 58 (bq 26 63) HT_
           apply pu 6 59 (bq 26 127) HT_
           apply pu 7 60 (bq 26 255) HT_
           apply pu 8 61 (bq 26 511) HT_
           apply pu 9 62 (bq 26 1023) HT_
           apply tu 10 63 (bq 26 2047) HT_ HW_ hHeld
           apply pu 11 64 (bq 26 4095) HT_
           apply pu 12 65 (bq 26 8191) HT_
           apply pu 13 66 (bq 26 16383) HT_
           apply pu 15 68 (bq 26 49151) HT_
           apply pu 18 71 (bq 26 311295) HT_
           apply tu 14 67 (bq 26 327679) HT_ HW_ hHeld
           apply tu 19 72 (bq 26 851967) HT_ HW_ hHeld
           refine one_ (i := 16) (N := some 69) (bq 26 917503) rfl rfl (one_of HT_.out (by kernel_rfl)) (by decide) (fun K hK => ?_)
           refine gs Try.func61 #[.agg #[.int .i64 a0_0, .int .i64 a0_1, .int .i64 a0_2, .int .i64 a0_3, .int .i64 a0_4, .int .i64 a0_5, .int .i64 a0_6, .int .i64 a0_7, .int .i64 a0_8, .int .i64 a0_9, .int .i64 a0_10], .int .i64 0, .int .i64 a1] ?_
           with_reducible refine (loads_Of.calls a0_0 a0_1 a0_2 a0_3 a0_4 a0_5 a0_6 a0_7 a0_8 a0_9 a0_10 0 a1 t711 _ A38.out).mono ?_
           rintro e w47 ⟨v712, rfl, ho0, hb⟩
           refine ⟨_, rfl, ?_⟩
           have n0_ := Aside0.mk (Kd.R_elder' (by (with_reducible repeat (first | apply Kd.R_alloc | apply Kd.R_drewN | apply Kd.R_drew)); exact HO_5.out) (Kd.R_base ho0) hb)
           have n1_ := Aside0.mk (Kd.R_lower (Kd.R_new' ho0 (Kd.R_lt (by (with_reducible repeat (first | apply Kd.R_alloc | apply Kd.R_drewN | apply Kd.R_drew)); exact HO_5.out))) (below_size (bl HB)))
           have n2_ := bkb BK696 hb
           have n3_ := bst HB hb
           clear HO_5
           clear BK696
           clear HB
           have HO_5 := n0_
           have HO713 := n1_
           have BK696 := n2_
           have HB := n3_
           clear n0_ n1_ n2_ n3_
           try clear hb; try clear hb2; try clear hk; try clear hi
           (try clear ho0)
           obtain ⟨Ao48, co48, eo48⟩ := Kd.R_slice HO713.out
           (first | subst eo48 | (injection eo48 with f1_ f2_ f3_; have f4_ := f1_.symm; have f5_ := f3_.symm; clear f1_ f2_ f3_; subst f4_; subst f5_))
           refine hK.out _ _ sc (fun hHeld => ?_)
           clear hK K
           apply nm 0
           refine one_ (i := 17) (N := some 70) (bq 26 1048575) rfl rfl (one_of HT_.out (by kernel_rfl)) (by decide) (fun K hK => ?_)
           refine gs Try.func64 #[.slice Ao48 t711.length co48] ?_
           with_reducible refine (loads_Even.calls k2 _ _ t711 t714 _ ?side1 ?side2 A39.out).mono ?_
           (case side1 => repeat (first | exact (Kd.R_reads' HO713.out).2.2 | (with_reducible refine Kd.C_alloc ?_ _) | (with_reducible refine Kd.C_drewN ?_ _) | (with_reducible refine Kd.C_drew ?_)))
           (case side2 => exact (Kd.R_reads' HO713.out).2.1)
           rintro e w49 ⟨rfl, hb⟩
           refine ⟨_, rfl, ?_⟩
           replace HO_5 := Aside0.mk (Kd.R_below (by (with_reducible repeat (first | apply Kd.R_alloc | apply Kd.R_drewN | apply Kd.R_drew)); exact HO_5.out) hb)
           replace HO713 := Aside0.mk (Kd.R_below (by (with_reducible repeat (first | apply Kd.R_alloc | apply Kd.R_drewN | apply Kd.R_drew)); exact HO713.out) hb)
           replace BK696 := bkb BK696 hb
           replace HB := bst HB hb
           try clear hb; try clear hb2; try clear hk; try clear hi
           refine hK.out _ _ sc (fun hHeld => ?_)
           clear hK K
           apply nm 0
           apply pu 20 73 (bq 26 2097151) HT_
           apply pu 21 74 (bq 26 4194303) HT_
           apply pu 22 75 (bq 26 8388607) HT_
           refine one_ (i := 23) (N := some 76) (bq 26 16777215) rfl rfl (one_of HT_.out (by kernel_rfl)) (by decide) (fun K hK => ?_)
           refine gs Try.func60 #[] ?_
           with_reducible refine (revetmentlaw44_live.calls  true _ A41.out).mono ?_
           rintro e w50 ⟨rfl, hb⟩
           refine ⟨_, rfl, ?_⟩
           replace HO_5 := Aside0.mk (Kd.R_below (by (with_reducible repeat (first | apply Kd.R_alloc | apply Kd.R_drewN | apply Kd.R_drew)); exact HO_5.out) hb)
           replace HO713 := Aside0.mk (Kd.R_below (by (with_reducible repeat (first | apply Kd.R_alloc | apply Kd.R_drewN | apply Kd.R_drew)); exact HO713.out) hb)
           replace BK696 := bkb BK696 hb
           replace HB := bst HB hb
           try clear hb; try clear hb2; try clear hk; try clear hi
           refine hK.out _ _ sc (fun hHeld => ?_)
           clear hK K
           apply nm 0
           apply pu 24 77 (bq 26 33554431) HT_
           apply pu 25 4 (bq 26 67108863) HT_
           refine done_ (done_of HT_.out (by kernel_rfl)) ?_
           try go_wp2
           go_ret
           exact ⟨by first | rfl | (simp [errW_none, errW_some] <;> rfl) | (simp [*, errW_none, errW_some] <;> rfl), bl HB⟩
          ·rw [if_neg c40] at H
           have c40b0 : decide (t714 ≤ a0_2) = false := decide_eq_false c40
           clear c40
           exact absurd H (by simp)
         ·rw [if_neg c37] at H
          have c37b0 : (t709 == a0_1) = false := beq_eq_false_iff_ne.mpr c37
          have c37b1 : (t709 != a0_1) = true := bne_iff_ne.mpr c37
          exact absurd H (by simp)
        ·rw [if_neg c36] at H
         have c36b0 : (t708 == 1) = false := beq_eq_false_iff_ne.mpr c36
         have c36b1 : (t708 != 1) = true := bne_iff_ne.mpr c36
         exact absurd H (by simp)
       ·rw [if_neg c35] at H
        have c35b0 : (t710 == 0) = false := beq_eq_false_iff_ne.mpr c35
        have c35b1 : (t710 != 0) = true := bne_iff_ne.mpr c35
        exact absurd H (by simp)end Go.Proofs.Ytekihhbihnmakaa.PA
