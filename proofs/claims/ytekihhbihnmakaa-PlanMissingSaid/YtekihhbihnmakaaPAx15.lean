/- Printed by the kit's print over stand-ins for some functions (xprint.py), with contracts of my own in their place. -/
import Derived.Test.YtekihhbihnmakaaPAx0
import Derived.Test.YtekihhbihnmakaaPAx9
import Derived.Test.YtekihhbihnmakaaPAx13
import Derived.Test.YtekihhbihnmakaaPAx14
namespace Go.Proofs.Ytekihhbihnmakaa.PA
open Go.RowKit Go.Proofs.YtekihhbihnmakaaW.PrintWords Go.Proofs.YtekihhbihnmakaaW.PrintLast
set_option linter.unusedVariables false
set_option linter.unusedSimpArgs false

/-! ### revetmentref08_Back: function 20 -/
def revetmentref08_Back.j0 : Nat → Int → Int → Bool → Int → Int → Int → Int → Int → Int → Int → Int → Int → Int → Int → Option (Int × Bool)
  | 0, _, _, _, _, _, _, _, _, _, _, _, _, _, _ => none
  | k + 1, x1, x2, x35, x159000, x159001, x159002, x159003, x159004, x159005, x159006, x159007, x159008, x159009, x159010 => if x35 = true then (some (0, false)) else (if x159002 = 0 then (none) else ((revetmentref08_Unit.f k x159000 x159001 x159002 x159003 x159004 x159005 x159006 x159007 x159008 x159009 x159010 (wrap64 (Int.tdiv x2 x159002)) x1).bind fun t161 => (if t161 = (-1) then ((revetmentref07_Row.f x159000 x159001 x159002 x159003 x159004 x159005 x159006 x159007 x159008 x159009 x159010).bind fun t162 => (some (wrap64 ((wrap64 (Int.tdiv x2 x159002)) * t162), false))) else ((revetmentref07_Row.f x159000 x159001 x159002 x159003 x159004 x159005 x159006 x159007 x159008 x159009 x159010).bind fun t163 => (some (wrap64 ((wrap64 ((wrap64 ((wrap64 ((wrap64 (Int.tdiv x2 x159002)) * t163)) + (wrap64 (t161 * x159002)))) + x2)) - (wrap64 ((wrap64 (Int.tdiv x2 x159002)) * x159002))), true))))))
def revetmentref08_Back.f (k : Nat) (a0_0 : Int) (a0_1 : Int) (a0_2 : Int) (a0_3 : Int) (a0_4 : Int) (a0_5 : Int) (a0_6 : Int) (a0_7 : Int) (a0_8 : Int) (a0_9 : Int) (a0_10 : Int) (a1 : Int) (a2 : Int) : Option (Int × Bool) := (revetmentref07_Check.f a0_0 a0_1 a0_2 a0_3 a0_4 a0_5 a0_6 a0_7 a0_8 a0_9 a0_10).bind fun t159 => (if t159 = 0 then (if a1 < 0 then (revetmentref08_Back.j0 k a1 a2 true a0_0 a0_1 a0_2 a0_3 a0_4 a0_5 a0_6 a0_7 a0_8 a0_9 a0_10) else (if a1 ≥ a0_1 then (revetmentref08_Back.j0 k a1 a2 true a0_0 a0_1 a0_2 a0_3 a0_4 a0_5 a0_6 a0_7 a0_8 a0_9 a0_10) else (if a2 < 0 then (revetmentref08_Back.j0 k a1 a2 true a0_0 a0_1 a0_2 a0_3 a0_4 a0_5 a0_6 a0_7 a0_8 a0_9 a0_10) else ((revetmentref07_Stripes.f a0_0 a0_1 a0_2 a0_3 a0_4 a0_5 a0_6 a0_7 a0_8 a0_9 a0_10).bind fun t160 => (revetmentref08_Back.j0 k a1 a2 (decide (a2 ≥ (wrap64 (t160 * a0_2)))) a0_0 a0_1 a0_2 a0_3 a0_4 a0_5 a0_6 a0_7 a0_8 a0_9 a0_10))))) else (revetmentref08_Back.j0 k a1 a2 true a0_0 a0_1 a0_2 a0_3 a0_4 a0_5 a0_6 a0_7 a0_8 a0_9 a0_10))
theorem revetmentref08_Back.mono_l : ∀ k, (∀ y0 y1 y2 y3 y4 y5 y6 y7 y8 y9 y10 y11 y12 y13, LeO (revetmentref08_Back.j0 k y0 y1 y2 y3 y4 y5 y6 y7 y8 y9 y10 y11 y12 y13) (revetmentref08_Back.j0 (k + 1) y0 y1 y2 y3 y4 y5 y6 y7 y8 y9 y10 y11 y12 y13))
 | 0 => fun _ _ _ _ _ _ _ _ _ _ _ _ _ _ r h => by simp [revetmentref08_Back.j0] at h
 | k + 1 => by
  have ih0 := revetmentref08_Back.mono_l k
  ·intro y0 y1 y2 y3 y4 y5 y6 y7 y8 y9 y10 y11 y12 y13
   unfold revetmentref08_Back.j0
   repeat' first
   | (with_reducible exact ih0 _ _ _ _ _ _ _ _ _ _ _ _ _ _)
   | (with_reducible exact revetmentref08_Unit.mono _ _ _ _ _ _ _ _ _ _ _ _ _ _)
   | (with_reducible exact LeO.refl _)
   | (with_reducible exact LeO.none _)
   | (with_reducible refine LeO.ite ?_ ?_)
   | (with_reducible refine LeO.bind ?_ (fun _ => ?_))
   | exact ih0 _ _ _ _ _ _ _ _ _ _ _ _ _ _
   | exact revetmentref08_Unit.mono _ _ _ _ _ _ _ _ _ _ _ _ _ _
   | exact LeO.none _
   | refine LeO.ite ?_ ?_
   | refine LeO.bind ?_ (fun _ => ?_)
theorem revetmentref08_Back.mono : ∀ a0 a1 a2 a3 a4 a5 a6 a7 a8 a9 a10 a11 a12 k, LeO (revetmentref08_Back.f k a0 a1 a2 a3 a4 a5 a6 a7 a8 a9 a10 a11 a12) (revetmentref08_Back.f (k + 1) a0 a1 a2 a3 a4 a5 a6 a7 a8 a9 a10 a11 a12) := by
 intro a0 a1 a2 a3 a4 a5 a6 a7 a8 a9 a10 a11 a12 k
 have ih0 := revetmentref08_Back.mono_l k
 unfold revetmentref08_Back.f
 repeat' first
   | (with_reducible exact ih0 _ _ _ _ _ _ _ _ _ _ _ _ _ _)
   | (with_reducible exact revetmentref08_Unit.mono _ _ _ _ _ _ _ _ _ _ _ _ _ _)
   | (with_reducible exact LeO.refl _)
   | (with_reducible exact LeO.none _)
   | (with_reducible refine LeO.ite ?_ ?_)
   | (with_reducible refine LeO.bind ?_ (fun _ => ?_))
   | exact ih0 _ _ _ _ _ _ _ _ _ _ _ _ _ _
   | exact revetmentref08_Unit.mono _ _ _ _ _ _ _ _ _ _ _ _ _ _
   | exact LeO.none _
   | refine LeO.ite ?_ ?_
   | refine LeO.bind ?_ (fun _ => ?_)
def revetmentref08_Back.T1 : Bool × List (List Nat × List Nat) := (true, [([], []), ([0], [0]), ([1], [1]), ([2, 1], [2]), ([3], [3]), ([4, 3], [3, 4]), ([3, 5], [3, 5]), ([6, 3], [6]), ([7], [7]), ([7], [7]), ([9, 7], [7, 9]), ([8, 10, 7], [7, 8, 10]), ([7, 11], [7, 11]), ([12, 7], [12]), ([13], [13]), ([14, 13], [13, 14]), ([13, 15], [13, 15]), ([16, 13], [16]), ([17], [17]), ([17], [17]), ([19, 17, 17], [17, 19]), ([17], [17]), ([21, 17], [17, 21]), ([20, 22, 17], [17, 20, 22]), ([18, 23, 17], [17, 18, 23]), ([17, 24], [17, 24])])
def revetmentref08_Back.B1 : List Nat := [0, 1, 3, 7, 15, 31, 63, 127, 255, 255, 767, 2047, 4095, 8191, 16383, 32767, 65535, 131071, 262143, 262143, 786431, 262143, 2359295, 8126463, 16777215, 33554431]
theorem revetmentref08_Back.tab1 : rtab .any (opsOf Try.f20 1) = revetmentref08_Back.T1 := by kernel_rfl
theorem revetmentref08_Back.bits1 : waitsOk revetmentref08_Back.T1.2 revetmentref08_Back.B1 = true := by kernel_rfl
def revetmentref08_Back.T7 : Bool × List (List Nat × List Nat) := (true, [([], []), ([], []), ([1], [1]), ([0, 2], [0, 2]), ([], []), ([], []), ([5], [5]), ([4, 6], [4, 6]), ([3, 7], [3, 7]), ([], []), ([8, 9], [8, 9]), ([], []), ([], []), ([12], [12]), ([11, 13], [11, 13]), ([10, 14], [10, 14]), ([15, 2, 0, 1, 2, 3, 4, 5, 6, 7, 8, 9, 10, 11, 12, 13, 14, 15], [15]), ([16, 0, 1, 2, 3, 4, 5, 6, 7, 8, 9, 10, 11, 12, 13, 14, 15, 16], [])])
def revetmentref08_Back.B7 : List Nat := [0, 0, 2, 7, 0, 0, 32, 112, 255, 0, 1023, 0, 0, 4096, 14336, 32767, 65535, 131071]
theorem revetmentref08_Back.tab7 : rtab .any (opsOf Try.f20 7) = revetmentref08_Back.T7 := by kernel_rfl
theorem revetmentref08_Back.bits7 : waitsOk revetmentref08_Back.T7.2 revetmentref08_Back.B7 = true := by kernel_rfl
set_option maxHeartbeats 8000000 in
set_option maxRecDepth 100000 in
theorem revetmentref08_Back.calls (k : Nat) (a0_0 : Int) (a0_1 : Int) (a0_2 : Int) (a0_3 : Int) (a0_4 : Int) (a0_5 : Int) (a0_6 : Int) (a0_7 : Int) (a0_8 : Int) (a0_9 : Int) (a0_10 : Int) (a1 : Int) (a2 : Int) (r1 : Int) (r2 : Bool) (w : World) (h : revetmentref08_Back.f k a0_0 a0_1 a0_2 a0_3 a0_4 a0_5 a0_6 a0_7 a0_8 a0_9 a0_10 a1 a2 = some (r1, r2)) :
  Calls Try.prog 20 #[.agg #[.int .i64 a0_0, .int .i64 a0_1, .int .i64 a0_2, .int .i64 a0_3, .int .i64 a0_4, .int .i64 a0_5, .int .i64 a0_6, .int .i64 a0_7, .int .i64 a0_8, .int .i64 a0_9, .int .i64 a0_10], .int .i64 a1, .int .i64 a2] w fun e w' => e = .returned (.tuple #[.int .i64 r1, .bool r2]) ∧ Below w.heap.size w w' := by
 have hu23 := Try.underlying23
 have HB := Aside0.mk (Below.refl w.heap.size w)
 have H : ((revetmentref07_Check.f a0_0 a0_1 a0_2 a0_3 a0_4 a0_5 a0_6 a0_7 a0_8 a0_9 a0_10).bind fun t159 => (if t159 = 0 then (if a1 < 0 then (revetmentref08_Back.j0 k a1 a2 true a0_0 a0_1 a0_2 a0_3 a0_4 a0_5 a0_6 a0_7 a0_8 a0_9 a0_10) else (if a1 ≥ a0_1 then (revetmentref08_Back.j0 k a1 a2 true a0_0 a0_1 a0_2 a0_3 a0_4 a0_5 a0_6 a0_7 a0_8 a0_9 a0_10) else (if a2 < 0 then (revetmentref08_Back.j0 k a1 a2 true a0_0 a0_1 a0_2 a0_3 a0_4 a0_5 a0_6 a0_7 a0_8 a0_9 a0_10) else ((revetmentref07_Stripes.f a0_0 a0_1 a0_2 a0_3 a0_4 a0_5 a0_6 a0_7 a0_8 a0_9 a0_10).bind fun t160 => (revetmentref08_Back.j0 k a1 a2 (decide (a2 ≥ (wrap64 (t160 * a0_2)))) a0_0 a0_1 a0_2 a0_3 a0_4 a0_5 a0_6 a0_7 a0_8 a0_9 a0_10))))) else (revetmentref08_Back.j0 k a1 a2 true a0_0 a0_1 a0_2 a0_3 a0_4 a0_5 a0_6 a0_7 a0_8 a0_9 a0_10))) = some (r1, r2) := h
 clear h
 have HC4 := Aside0.mk H
 clear H
 go_enter Try.func20, Try.ntmps20
 go_upto_region 1 with (first | ((with_reducible refine gate_dst (N := 3) rfl ?_); refine box_event ?hg (N := 3) ?hd (cs := #[.int .i64 a0_0, .int .i64 a0_1, .int .i64 a0_2, .int .i64 a0_3, .int .i64 a0_4, .int .i64 a0_5, .int .i64 a0_6, .int .i64 a0_7, .int .i64 a0_8, .int .i64 a0_9, .int .i64 a0_10]) (t := 23) ?hr ?_; (case hd => rfl); (case hg => rfl); (case hr => first | (go_simp; done) | (go_simp; rfl)); intro gb158 hg w5 hbox hb; have n0_ := bst HB hb; have n1_ := Aside0.mk (hbox); have n2_ := Aside0.mk ((by rw [hg]; exact (below_size (bl HB)) : w.heap.size ≤ gb158)); have n3_ := Aside0.mk ((by rw [hg]; exact (below_size (bl HB)) : w.heap.size ≤ gb158)); clear HB; have HB := n0_; have BK158 := n1_; have GW158 := n2_; have GE158 := n3_; clear n0_ n1_ n2_ n3_; clear hb hbox hg))
 (try simp only [Act.put, List.setIfInBounds_toArray, List.set_cons_zero, List.set_cons_succ])
 go_cut [35] (fun v35 wc => ∃ (kq : Nat) (x35_3 : Bool), v35 = .bool x35_3 ∧ Aside0 (revetmentref08_Back.j0 kq a1 a2 x35_3 a0_0 a0_1 a0_2 a0_3 a0_4 a0_5 a0_6 a0_7 a0_8 a0_9 a0_10 = some (r1, r2)) ∧ Aside0 (kq ≤ k) ∧ Aside0 (wc.heap[gb158]? = some (.cells #[.int .i64 a0_0, .int .i64 a0_1, .int .i64 a0_2, .int .i64 a0_3, .int .i64 a0_4, .int .i64 a0_5, .int .i64 a0_6, .int .i64 a0_7, .int .i64 a0_8, .int .i64 a0_9, .int .i64 a0_10] 23 (0, 0))) ∧ Aside0 (Below w.heap.size w wc))
 case first =>
  have H := HC4.out
  clear HC4
  replace H := Option.bind_eq_some_iff.mp H
  obtain ⟨t159, A60, H⟩ := H
  replace H : (if t159 = 0 then (if a1 < 0 then (revetmentref08_Back.j0 k a1 a2 true a0_0 a0_1 a0_2 a0_3 a0_4 a0_5 a0_6 a0_7 a0_8 a0_9 a0_10) else (if a1 ≥ a0_1 then (revetmentref08_Back.j0 k a1 a2 true a0_0 a0_1 a0_2 a0_3 a0_4 a0_5 a0_6 a0_7 a0_8 a0_9 a0_10) else (if a2 < 0 then (revetmentref08_Back.j0 k a1 a2 true a0_0 a0_1 a0_2 a0_3 a0_4 a0_5 a0_6 a0_7 a0_8 a0_9 a0_10) else ((revetmentref07_Stripes.f a0_0 a0_1 a0_2 a0_3 a0_4 a0_5 a0_6 a0_7 a0_8 a0_9 a0_10).bind fun t160 => (revetmentref08_Back.j0 k a1 a2 (decide (a2 ≥ (wrap64 (t160 * a0_2)))) a0_0 a0_1 a0_2 a0_3 a0_4 a0_5 a0_6 a0_7 a0_8 a0_9 a0_10))))) else (revetmentref08_Back.j0 k a1 a2 true a0_0 a0_1 a0_2 a0_3 a0_4 a0_5 a0_6 a0_7 a0_8 a0_9 a0_10)) = some (r1, r2) := H
  have A6 := Aside0.mk A60
  clear A60
  by_cases c7 : t159 = 0
  ·rw [if_pos c7] at H
   have c7b0 : (t159 == 0) = true := beq_iff_eq.mpr c7
   have c7b1 : (t159 != 0) = false := bne_eq_false_iff_eq.mpr c7
   clear c7
   (first | rw [c7b0] | (simp only [i64_w, i32_w]; rw [c7b0]) | skip)
   by_cases c8 : a1 < 0
   ·rw [if_pos c8] at H
    have c8b0 : decide (a1 < 0) = true := decide_eq_true c8
    clear c8
    have H' := Aside0.mk H
    clear H
    try go_wp2
    replace BK158 := Aside0.mk (blk_drew BK158.out)
    replace HB := Aside0.mk (below_drew1 HB.out)
    refine start_ (n := 26) (S := fun w' => w'.cell? ⟨gb158, 0, none⟩ = some (.int .i64 a0_0) ∧ w'.cell? ⟨gb158, 1, none⟩ = some (.int .i64 a0_1) ∧ w'.cell? ⟨gb158, 2, none⟩ = some (.int .i64 a0_2) ∧ w'.cell? ⟨gb158, 3, none⟩ = some (.int .i64 a0_3) ∧ w'.cell? ⟨gb158, 4, none⟩ = some (.int .i64 a0_4) ∧ w'.cell? ⟨gb158, 5, none⟩ = some (.int .i64 a0_5) ∧ w'.cell? ⟨gb158, 6, none⟩ = some (.int .i64 a0_6) ∧ w'.cell? ⟨gb158, 7, none⟩ = some (.int .i64 a0_7) ∧ w'.cell? ⟨gb158, 8, none⟩ = some (.int .i64 a0_8) ∧ w'.cell? ⟨gb158, 9, none⟩ = some (.int .i64 a0_9) ∧ w'.cell? ⟨gb158, 10, none⟩ = some (.int .i64 a0_10)) (ds := []) (bq 26 0) (by kernel_rfl) rfl rfl (cz11 BK158.out) (fun hHeld => ?_); refine with_tabW revetmentref08_Back.tab1 revetmentref08_Back.bits1 (fun HT_ HW_ => ?_)
    generalize w5.drew = w9 at BK158 HB hHeld ⊢
    apply tu 0 10 (bq 26 1) HT_ HW_ hHeld
    refine one_ (i := 1) (N := some 11) (bq 26 3) rfl rfl (one_of HT_.out (by kernel_rfl)) (by decide) (fun K hK => ?_)
    refine gs Try.func31 #[.agg #[.int .i64 a0_0, .int .i64 a0_1, .int .i64 a0_2, .int .i64 a0_3, .int .i64 a0_4, .int .i64 a0_5, .int .i64 a0_6, .int .i64 a0_7, .int .i64 a0_8, .int .i64 a0_9, .int .i64 a0_10]] ?_
    with_reducible refine (revetmentref07_Check.calls a0_0 a0_1 a0_2 a0_3 a0_4 a0_5 a0_6 a0_7 a0_8 a0_9 a0_10 t159 _ A6.out).mono ?_
    rintro e w10 ⟨rfl, hb⟩
    refine ⟨_, rfl, ?_⟩
    replace BK158 := bkb BK158 hb
    replace HB := bst HB hb
    try clear hb; try clear hb2; try clear hk; try clear hi
    refine hK.out _ _ sc (fun hHeld => ?_)
    clear hK K
    apply nm 0
    apply pu 2 12 (bq 26 7) HT_
    apply pu 3 13 (bq 26 15) HT_
    apply pu 4 14 (bq 26 31) HT_
    apply pu 5 15 (bq 26 63) HT_
    apply pu 6 16 (bq 26 127) HT_
    apply pu 7 17 (bq 26 255) HT_
    apply po 8 18 (bq 26 511) HT_
    apply po 9 19 (bq 26 1023) HT_
    apply po 10 20 (bq 26 2047) HT_
    apply po 11 21 (bq 26 4095) HT_
    apply pu 12 22 (bq 26 8191) HT_
    apply pu 13 23 (bq 26 16383) HT_
    apply po 14 24 (bq 26 32767) HT_
    apply po 15 25 (bq 26 65535) HT_
    apply pu 16 26 (bq 26 131071) HT_
    apply pu 17 27 (bq 26 262143) HT_
    apply po 18 28 (bq 26 524287) HT_
    apply po 19 29 (bq 26 1048575) HT_
    apply po 20 30 (bq 26 2097151) HT_
    apply po 21 31 (bq 26 4194303) HT_
    apply po 22 32 (bq 26 8388607) HT_
    apply po 23 33 (bq 26 16777215) HT_
    apply po 24 34 (bq 26 33554431) HT_
    apply pu 25 35 (bq 26 67108863) HT_
    refine done_ (done_of HT_.out (by kernel_rfl)) ?_
    try go_wp2
    go_meet
    case rel => exact ⟨_, (true), (by first | rfl | (simp; done) | (simp [*]; done)), H', ⟨by first | omega | exact Nat.le_refl _⟩, ⟨by (with_reducible repeat (first | refine blk_drewN ?_ _ | refine blk_drew ?_ | refine blk_alloc ?_ _)); exact BK158.out⟩, ⟨bl HB⟩⟩
   ·rw [if_neg c8] at H
    have c8b0 : decide (a1 < 0) = false := decide_eq_false c8
    clear c8
    by_cases c11 : a1 ≥ a0_1
    ·rw [if_pos c11] at H
     have c11b0 : decide (a0_1 ≤ a1) = true := decide_eq_true c11
     clear c11
     have H' := Aside0.mk H
     clear H
     try go_wp2
     replace BK158 := Aside0.mk (blk_drew BK158.out)
     replace HB := Aside0.mk (below_drew1 HB.out)
     refine start_ (n := 26) (S := fun w' => w'.cell? ⟨gb158, 0, none⟩ = some (.int .i64 a0_0) ∧ w'.cell? ⟨gb158, 1, none⟩ = some (.int .i64 a0_1) ∧ w'.cell? ⟨gb158, 2, none⟩ = some (.int .i64 a0_2) ∧ w'.cell? ⟨gb158, 3, none⟩ = some (.int .i64 a0_3) ∧ w'.cell? ⟨gb158, 4, none⟩ = some (.int .i64 a0_4) ∧ w'.cell? ⟨gb158, 5, none⟩ = some (.int .i64 a0_5) ∧ w'.cell? ⟨gb158, 6, none⟩ = some (.int .i64 a0_6) ∧ w'.cell? ⟨gb158, 7, none⟩ = some (.int .i64 a0_7) ∧ w'.cell? ⟨gb158, 8, none⟩ = some (.int .i64 a0_8) ∧ w'.cell? ⟨gb158, 9, none⟩ = some (.int .i64 a0_9) ∧ w'.cell? ⟨gb158, 10, none⟩ = some (.int .i64 a0_10)) (ds := []) (bq 26 0) (by kernel_rfl) rfl rfl (cz11 BK158.out) (fun hHeld => ?_); refine with_tabW revetmentref08_Back.tab1 revetmentref08_Back.bits1 (fun HT_ HW_ => ?_)
     generalize w5.drew = w12 at BK158 HB hHeld ⊢
     apply tu 0 10 (bq 26 1) HT_ HW_ hHeld
     refine one_ (i := 1) (N := some 11) (bq 26 3) rfl rfl (one_of HT_.out (by kernel_rfl)) (by decide) (fun K hK => ?_)
     refine gs Try.func31 #[.agg #[.int .i64 a0_0, .int .i64 a0_1, .int .i64 a0_2, .int .i64 a0_3, .int .i64 a0_4, .int .i64 a0_5, .int .i64 a0_6, .int .i64 a0_7, .int .i64 a0_8, .int .i64 a0_9, .int .i64 a0_10]] ?_
     with_reducible refine (revetmentref07_Check.calls a0_0 a0_1 a0_2 a0_3 a0_4 a0_5 a0_6 a0_7 a0_8 a0_9 a0_10 t159 _ A6.out).mono ?_
     rintro e w13 ⟨rfl, hb⟩
     refine ⟨_, rfl, ?_⟩
     replace BK158 := bkb BK158 hb
     replace HB := bst HB hb
     try clear hb; try clear hb2; try clear hk; try clear hi
     refine hK.out _ _ sc (fun hHeld => ?_)
     clear hK K
     apply nm 0
     apply pu 2 12 (bq 26 7) HT_
     apply pu 3 13 (bq 26 15) HT_
     apply pu 4 14 (bq 26 31) HT_
     apply pu 5 15 (bq 26 63) HT_
     apply pu 6 16 (bq 26 127) HT_
     apply pu 7 17 (bq 26 255) HT_
     apply pu 8 18 (bq 26 511) HT_
     apply pu 9 19 (bq 26 1023) HT_
     apply tu 10 20 (bq 26 2047) HT_ HW_ hHeld
     apply pu 11 21 (bq 26 4095) HT_
     apply pu 12 22 (bq 26 8191) HT_
     apply pu 13 23 (bq 26 16383) HT_
     apply po 14 24 (bq 26 32767) HT_
     apply po 15 25 (bq 26 65535) HT_
     apply pu 16 26 (bq 26 131071) HT_
     apply pu 17 27 (bq 26 262143) HT_
     apply po 18 28 (bq 26 524287) HT_
     apply po 19 29 (bq 26 1048575) HT_
     apply po 20 30 (bq 26 2097151) HT_
     apply po 21 31 (bq 26 4194303) HT_
     apply po 22 32 (bq 26 8388607) HT_
     apply po 23 33 (bq 26 16777215) HT_
     apply po 24 34 (bq 26 33554431) HT_
     apply pu 25 35 (bq 26 67108863) HT_
     refine done_ (done_of HT_.out (by kernel_rfl)) ?_
     try go_wp2
     go_meet
     case rel => exact ⟨_, (true), (by first | rfl | (simp; done) | (simp [*]; done)), H', ⟨by first | omega | exact Nat.le_refl _⟩, ⟨by (with_reducible repeat (first | refine blk_drewN ?_ _ | refine blk_drew ?_ | refine blk_alloc ?_ _)); exact BK158.out⟩, ⟨bl HB⟩⟩
    ·rw [if_neg c11] at H
     have c11b0 : decide (a0_1 ≤ a1) = false := decide_eq_false c11
     clear c11
     by_cases c14 : a2 < 0
     ·rw [if_pos c14] at H
      have c14b0 : decide (a2 < 0) = true := decide_eq_true c14
      clear c14
      have H' := Aside0.mk H
      clear H
      try go_wp2
      replace BK158 := Aside0.mk (blk_drew BK158.out)
      replace HB := Aside0.mk (below_drew1 HB.out)
      refine start_ (n := 26) (S := fun w' => w'.cell? ⟨gb158, 0, none⟩ = some (.int .i64 a0_0) ∧ w'.cell? ⟨gb158, 1, none⟩ = some (.int .i64 a0_1) ∧ w'.cell? ⟨gb158, 2, none⟩ = some (.int .i64 a0_2) ∧ w'.cell? ⟨gb158, 3, none⟩ = some (.int .i64 a0_3) ∧ w'.cell? ⟨gb158, 4, none⟩ = some (.int .i64 a0_4) ∧ w'.cell? ⟨gb158, 5, none⟩ = some (.int .i64 a0_5) ∧ w'.cell? ⟨gb158, 6, none⟩ = some (.int .i64 a0_6) ∧ w'.cell? ⟨gb158, 7, none⟩ = some (.int .i64 a0_7) ∧ w'.cell? ⟨gb158, 8, none⟩ = some (.int .i64 a0_8) ∧ w'.cell? ⟨gb158, 9, none⟩ = some (.int .i64 a0_9) ∧ w'.cell? ⟨gb158, 10, none⟩ = some (.int .i64 a0_10)) (ds := []) (bq 26 0) (by kernel_rfl) rfl rfl (cz11 BK158.out) (fun hHeld => ?_); refine with_tabW revetmentref08_Back.tab1 revetmentref08_Back.bits1 (fun HT_ HW_ => ?_)
      generalize w5.drew = w15 at BK158 HB hHeld ⊢
      apply tu 0 10 (bq 26 1) HT_ HW_ hHeld
      refine one_ (i := 1) (N := some 11) (bq 26 3) rfl rfl (one_of HT_.out (by kernel_rfl)) (by decide) (fun K hK => ?_)
      refine gs Try.func31 #[.agg #[.int .i64 a0_0, .int .i64 a0_1, .int .i64 a0_2, .int .i64 a0_3, .int .i64 a0_4, .int .i64 a0_5, .int .i64 a0_6, .int .i64 a0_7, .int .i64 a0_8, .int .i64 a0_9, .int .i64 a0_10]] ?_
      with_reducible refine (revetmentref07_Check.calls a0_0 a0_1 a0_2 a0_3 a0_4 a0_5 a0_6 a0_7 a0_8 a0_9 a0_10 t159 _ A6.out).mono ?_
      rintro e w16 ⟨rfl, hb⟩
      refine ⟨_, rfl, ?_⟩
      replace BK158 := bkb BK158 hb
      replace HB := bst HB hb
      try clear hb; try clear hb2; try clear hk; try clear hi
      refine hK.out _ _ sc (fun hHeld => ?_)
      clear hK K
      apply nm 0
      apply pu 2 12 (bq 26 7) HT_
      apply pu 3 13 (bq 26 15) HT_
      apply pu 4 14 (bq 26 31) HT_
      apply pu 5 15 (bq 26 63) HT_
      apply pu 6 16 (bq 26 127) HT_
      apply pu 7 17 (bq 26 255) HT_
      apply pu 8 18 (bq 26 511) HT_
      apply pu 9 19 (bq 26 1023) HT_
      apply tu 10 20 (bq 26 2047) HT_ HW_ hHeld
      apply pu 11 21 (bq 26 4095) HT_
      apply pu 12 22 (bq 26 8191) HT_
      apply pu 13 23 (bq 26 16383) HT_
      apply pu 14 24 (bq 26 32767) HT_
      apply pu 15 25 (bq 26 65535) HT_
      apply pu 16 26 (bq 26 131071) HT_
      apply pu 17 27 (bq 26 262143) HT_
      apply po 18 28 (bq 26 524287) HT_
      apply po 19 29 (bq 26 1048575) HT_
      apply po 20 30 (bq 26 2097151) HT_
      apply po 21 31 (bq 26 4194303) HT_
      apply po 22 32 (bq 26 8388607) HT_
      apply po 23 33 (bq 26 16777215) HT_
      apply po 24 34 (bq 26 33554431) HT_
      apply pu 25 35 (bq 26 67108863) HT_
      refine done_ (done_of HT_.out (by kernel_rfl)) ?_
      try go_wp2
      go_meet
      case rel => exact ⟨_, (true), (by first | rfl | (simp; done) | (simp [*]; done)), H', ⟨by first | omega | exact Nat.le_refl _⟩, ⟨by (with_reducible repeat (first | refine blk_drewN ?_ _ | refine blk_drew ?_ | refine blk_alloc ?_ _)); exact BK158.out⟩, ⟨bl HB⟩⟩
     ·rw [if_neg c14] at H
      have c14b0 : decide (a2 < 0) = false := decide_eq_false c14
      clear c14
      replace H := Option.bind_eq_some_iff.mp H
      obtain ⟨t160, A170, H⟩ := H
      replace H : (revetmentref08_Back.j0 k a1 a2 (decide (a2 ≥ (wrap64 (t160 * a0_2)))) a0_0 a0_1 a0_2 a0_3 a0_4 a0_5 a0_6 a0_7 a0_8 a0_9 a0_10) = some (r1, r2) := H
      have A17 := Aside0.mk A170
      clear A170
      have H' := Aside0.mk H
      clear H
      try go_wp2
      replace BK158 := Aside0.mk (blk_drew BK158.out)
      replace HB := Aside0.mk (below_drew1 HB.out)
      refine start_ (n := 26) (S := fun w' => w'.cell? ⟨gb158, 0, none⟩ = some (.int .i64 a0_0) ∧ w'.cell? ⟨gb158, 1, none⟩ = some (.int .i64 a0_1) ∧ w'.cell? ⟨gb158, 2, none⟩ = some (.int .i64 a0_2) ∧ w'.cell? ⟨gb158, 3, none⟩ = some (.int .i64 a0_3) ∧ w'.cell? ⟨gb158, 4, none⟩ = some (.int .i64 a0_4) ∧ w'.cell? ⟨gb158, 5, none⟩ = some (.int .i64 a0_5) ∧ w'.cell? ⟨gb158, 6, none⟩ = some (.int .i64 a0_6) ∧ w'.cell? ⟨gb158, 7, none⟩ = some (.int .i64 a0_7) ∧ w'.cell? ⟨gb158, 8, none⟩ = some (.int .i64 a0_8) ∧ w'.cell? ⟨gb158, 9, none⟩ = some (.int .i64 a0_9) ∧ w'.cell? ⟨gb158, 10, none⟩ = some (.int .i64 a0_10)) (ds := []) (bq 26 0) (by kernel_rfl) rfl rfl (cz11 BK158.out) (fun hHeld => ?_); refine with_tabW revetmentref08_Back.tab1 revetmentref08_Back.bits1 (fun HT_ HW_ => ?_)
      generalize w5.drew = w18 at BK158 HB hHeld ⊢
      apply tu 0 10 (bq 26 1) HT_ HW_ hHeld
      refine one_ (i := 1) (N := some 11) (bq 26 3) rfl rfl (one_of HT_.out (by kernel_rfl)) (by decide) (fun K hK => ?_)
      refine gs Try.func31 #[.agg #[.int .i64 a0_0, .int .i64 a0_1, .int .i64 a0_2, .int .i64 a0_3, .int .i64 a0_4, .int .i64 a0_5, .int .i64 a0_6, .int .i64 a0_7, .int .i64 a0_8, .int .i64 a0_9, .int .i64 a0_10]] ?_
      with_reducible refine (revetmentref07_Check.calls a0_0 a0_1 a0_2 a0_3 a0_4 a0_5 a0_6 a0_7 a0_8 a0_9 a0_10 t159 _ A6.out).mono ?_
      rintro e w19 ⟨rfl, hb⟩
      refine ⟨_, rfl, ?_⟩
      replace BK158 := bkb BK158 hb
      replace HB := bst HB hb
      try clear hb; try clear hb2; try clear hk; try clear hi
      refine hK.out _ _ sc (fun hHeld => ?_)
      clear hK K
      apply nm 0
      apply pu 2 12 (bq 26 7) HT_
      apply pu 3 13 (bq 26 15) HT_
      apply pu 4 14 (bq 26 31) HT_
      apply pu 5 15 (bq 26 63) HT_
      apply pu 6 16 (bq 26 127) HT_
      apply pu 7 17 (bq 26 255) HT_
      apply pu 8 18 (bq 26 511) HT_
      apply pu 9 19 (bq 26 1023) HT_
      apply tu 10 20 (bq 26 2047) HT_ HW_ hHeld
      apply pu 11 21 (bq 26 4095) HT_
      apply pu 12 22 (bq 26 8191) HT_
      apply pu 13 23 (bq 26 16383) HT_
      apply pu 14 24 (bq 26 32767) HT_
      apply pu 15 25 (bq 26 65535) HT_
      apply pu 16 26 (bq 26 131071) HT_
      apply pu 17 27 (bq 26 262143) HT_
      apply pu 18 28 (bq 26 524287) HT_
      apply pu 21 31 (bq 26 2621439) HT_
      apply tu 19 29 (bq 26 3145727) HT_ HW_ hHeld
      apply tu 22 32 (bq 26 7340031) HT_ HW_ hHeld
      refine one_ (i := 20) (N := some 30) (bq 26 8388607) rfl rfl (one_of HT_.out (by kernel_rfl)) (by decide) (fun K hK => ?_)
      refine gs Try.func71 #[.agg #[.int .i64 a0_0, .int .i64 a0_1, .int .i64 a0_2, .int .i64 a0_3, .int .i64 a0_4, .int .i64 a0_5, .int .i64 a0_6, .int .i64 a0_7, .int .i64 a0_8, .int .i64 a0_9, .int .i64 a0_10]] ?_
      with_reducible refine (revetmentref07_Stripes.calls a0_0 a0_1 a0_2 a0_3 a0_4 a0_5 a0_6 a0_7 a0_8 a0_9 a0_10 t160 _ A17.out).mono ?_
      rintro e w20 ⟨rfl, hb⟩
      refine ⟨_, rfl, ?_⟩
      replace BK158 := bkb BK158 hb
      replace HB := bst HB hb
      try clear hb; try clear hb2; try clear hk; try clear hi
      refine hK.out _ _ sc (fun hHeld => ?_)
      clear hK K
      apply nm 0
      apply pu 23 33 (bq 26 16777215) HT_
      apply pu 24 34 (bq 26 33554431) HT_
      apply pu 25 35 (bq 26 67108863) HT_
      refine done_ (done_of HT_.out (by kernel_rfl)) ?_
      try go_wp2
      go_meet
      case rel => exact ⟨_, (decide (a2 ≥ (wrap64 (t160 * a0_2)))), (by first | rfl | (simp; done) | (simp [*]; done)), H', ⟨by first | omega | exact Nat.le_refl _⟩, ⟨by (with_reducible repeat (first | refine blk_drewN ?_ _ | refine blk_drew ?_ | refine blk_alloc ?_ _)); exact BK158.out⟩, ⟨bl HB⟩⟩
  ·rw [if_neg c7] at H
   have c7b0 : (t159 == 0) = false := beq_eq_false_iff_ne.mpr c7
   have c7b1 : (t159 != 0) = true := bne_iff_ne.mpr c7
   (first | rw [c7b0] | (simp only [i64_w, i32_w]; rw [c7b0]) | skip)
   have H' := Aside0.mk H
   clear H
   try go_wp2
   replace BK158 := Aside0.mk (blk_drew BK158.out)
   replace HB := Aside0.mk (below_drew1 HB.out)
   refine start_ (n := 26) (S := fun w' => w'.cell? ⟨gb158, 0, none⟩ = some (.int .i64 a0_0) ∧ w'.cell? ⟨gb158, 1, none⟩ = some (.int .i64 a0_1) ∧ w'.cell? ⟨gb158, 2, none⟩ = some (.int .i64 a0_2) ∧ w'.cell? ⟨gb158, 3, none⟩ = some (.int .i64 a0_3) ∧ w'.cell? ⟨gb158, 4, none⟩ = some (.int .i64 a0_4) ∧ w'.cell? ⟨gb158, 5, none⟩ = some (.int .i64 a0_5) ∧ w'.cell? ⟨gb158, 6, none⟩ = some (.int .i64 a0_6) ∧ w'.cell? ⟨gb158, 7, none⟩ = some (.int .i64 a0_7) ∧ w'.cell? ⟨gb158, 8, none⟩ = some (.int .i64 a0_8) ∧ w'.cell? ⟨gb158, 9, none⟩ = some (.int .i64 a0_9) ∧ w'.cell? ⟨gb158, 10, none⟩ = some (.int .i64 a0_10)) (ds := []) (bq 26 0) (by kernel_rfl) rfl rfl (cz11 BK158.out) (fun hHeld => ?_); refine with_tabW revetmentref08_Back.tab1 revetmentref08_Back.bits1 (fun HT_ HW_ => ?_)
   generalize w5.drew = w21 at BK158 HB hHeld ⊢
   apply tu 0 10 (bq 26 1) HT_ HW_ hHeld
   refine one_ (i := 1) (N := some 11) (bq 26 3) rfl rfl (one_of HT_.out (by kernel_rfl)) (by decide) (fun K hK => ?_)
   refine gs Try.func31 #[.agg #[.int .i64 a0_0, .int .i64 a0_1, .int .i64 a0_2, .int .i64 a0_3, .int .i64 a0_4, .int .i64 a0_5, .int .i64 a0_6, .int .i64 a0_7, .int .i64 a0_8, .int .i64 a0_9, .int .i64 a0_10]] ?_
   with_reducible refine (revetmentref07_Check.calls a0_0 a0_1 a0_2 a0_3 a0_4 a0_5 a0_6 a0_7 a0_8 a0_9 a0_10 t159 _ A6.out).mono ?_
   rintro e w22 ⟨rfl, hb⟩
   refine ⟨_, rfl, ?_⟩
   replace BK158 := bkb BK158 hb
   replace HB := bst HB hb
   try clear hb; try clear hb2; try clear hk; try clear hi
   refine hK.out _ _ sc (fun hHeld => ?_)
   clear hK K
   apply nm 0
   apply pu 2 12 (bq 26 7) HT_
   apply pu 3 13 (bq 26 15) HT_
   apply po 4 14 (bq 26 31) HT_
   apply po 5 15 (bq 26 63) HT_
   apply pu 6 16 (bq 26 127) HT_
   apply pu 7 17 (bq 26 255) HT_
   apply po 8 18 (bq 26 511) HT_
   apply po 9 19 (bq 26 1023) HT_
   apply po 10 20 (bq 26 2047) HT_
   apply po 11 21 (bq 26 4095) HT_
   apply pu 12 22 (bq 26 8191) HT_
   apply pu 13 23 (bq 26 16383) HT_
   apply po 14 24 (bq 26 32767) HT_
   apply po 15 25 (bq 26 65535) HT_
   apply pu 16 26 (bq 26 131071) HT_
   apply pu 17 27 (bq 26 262143) HT_
   apply po 18 28 (bq 26 524287) HT_
   apply po 19 29 (bq 26 1048575) HT_
   apply po 20 30 (bq 26 2097151) HT_
   apply po 21 31 (bq 26 4194303) HT_
   apply po 22 32 (bq 26 8388607) HT_
   apply po 23 33 (bq 26 16777215) HT_
   apply po 24 34 (bq 26 33554431) HT_
   apply pu 25 35 (bq 26 67108863) HT_
   refine done_ (done_of HT_.out (by kernel_rfl)) ?_
   try go_wp2
   go_meet
   case rel => exact ⟨_, (true), (by first | rfl | (simp; done) | (simp [*]; done)), H', ⟨by first | omega | exact Nat.le_refl _⟩, ⟨by (with_reducible repeat (first | refine blk_drewN ?_ _ | refine blk_drew ?_ | refine blk_alloc ?_ _)); exact BK158.out⟩, ⟨bl HB⟩⟩
 case rest =>
  clear HC4
  try clear c1
  try clear p2
  try clear c3
  try clear p6
  try clear c7
  try clear c7b0
  try clear c7b1
  try clear c14
  try clear c14b0
  obtain ⟨kq, x35_3, rfl, HA, HJ3, BK158, HB⟩ := hcut
  cases kq with
  | zero => exact absurd HA.out (by simp [revetmentref08_Back.j0])
  | succ kj3 =>
   have H := HA.out
   clear HA
   simp only [revetmentref08_Back.j0] at H
   by_cases c23 : x35_3 = true
   ·subst c23
    have H1 : (some (0, false)) = some (r1, r2) := by rw [if_pos rfl] at H; exact H
    clear H
    have H := H1
    clear H1
    simp only [Option.some.injEq, Prod.mk.injEq] at H
    obtain ⟨rfl, rfl⟩ := H
    go_wp2
    go_ret2
    exact ⟨by first | rfl | (simp [errW_none, errW_some] <;> rfl) | (simp [*, errW_none, errW_some] <;> rfl), bl HB⟩
   ·replace c23 := Bool.eq_false_iff.mpr c23
    subst c23
    have H1 : (if a0_2 = 0 then (none) else ((revetmentref08_Unit.f kj3 a0_0 a0_1 a0_2 a0_3 a0_4 a0_5 a0_6 a0_7 a0_8 a0_9 a0_10 (wrap64 (Int.tdiv a2 a0_2)) a1).bind fun t161 => (if t161 = (-1) then ((revetmentref07_Row.f a0_0 a0_1 a0_2 a0_3 a0_4 a0_5 a0_6 a0_7 a0_8 a0_9 a0_10).bind fun t162 => (some (wrap64 ((wrap64 (Int.tdiv a2 a0_2)) * t162), false))) else ((revetmentref07_Row.f a0_0 a0_1 a0_2 a0_3 a0_4 a0_5 a0_6 a0_7 a0_8 a0_9 a0_10).bind fun t163 => (some (wrap64 ((wrap64 ((wrap64 ((wrap64 ((wrap64 (Int.tdiv a2 a0_2)) * t163)) + (wrap64 (t161 * a0_2)))) + a2)) - (wrap64 ((wrap64 (Int.tdiv a2 a0_2)) * a0_2))), true)))))) = some (r1, r2) := by rw [if_neg (show ¬ (false = true) by decide)] at H; exact H
    clear H
    have H := H1
    clear H1
    by_cases c24 : a0_2 = 0
    ·rw [if_pos c24] at H
     exact absurd H (by simp)
    ·rw [if_neg c24] at H
     have c24b0 : (a0_2 == 0) = false := beq_eq_false_iff_ne.mpr c24
     have c24b1 : (a0_2 != 0) = true := bne_iff_ne.mpr c24
     replace H := Option.bind_eq_some_iff.mp H
     obtain ⟨t161, A250, H⟩ := H
     replace H : (if t161 = (-1) then ((revetmentref07_Row.f a0_0 a0_1 a0_2 a0_3 a0_4 a0_5 a0_6 a0_7 a0_8 a0_9 a0_10).bind fun t162 => (some (wrap64 ((wrap64 (Int.tdiv a2 a0_2)) * t162), false))) else ((revetmentref07_Row.f a0_0 a0_1 a0_2 a0_3 a0_4 a0_5 a0_6 a0_7 a0_8 a0_9 a0_10).bind fun t163 => (some (wrap64 ((wrap64 ((wrap64 ((wrap64 ((wrap64 (Int.tdiv a2 a0_2)) * t163)) + (wrap64 (t161 * a0_2)))) + a2)) - (wrap64 ((wrap64 (Int.tdiv a2 a0_2)) * a0_2))), true)))) = some (r1, r2) := H
     have A25 := Aside0.mk A250
     clear A250
     by_cases c26 : t161 = (-1)
     ·rw [if_pos c26] at H
      have c26b0 : (t161 == (-1)) = true := beq_iff_eq.mpr c26
      have c26b1 : (t161 != (-1)) = false := bne_eq_false_iff_eq.mpr c26
      clear c26
      replace H := Option.bind_eq_some_iff.mp H
      obtain ⟨t162, A270, H⟩ := H
      replace H : (some (wrap64 ((wrap64 (Int.tdiv a2 a0_2)) * t162), false)) = some (r1, r2) := H
      have A27 := Aside0.mk A270
      clear A270
      simp only [Option.some.injEq, Prod.mk.injEq] at H
      obtain ⟨rfl, rfl⟩ := H
      obtain ⟨hcz28_0, hcz28_1, hcz28_2, hcz28_3, hcz28_4, hcz28_5, hcz28_6, hcz28_7, hcz28_8, hcz28_9, hcz28_10⟩ := cz11 BK158.out
      go_wp2_with (first | ((with_reducible refine gate_callee (f := 26) rfl ?_); refine goesL_ (some 43) rfl rfl Try.func26 (by kernel_rfl) rfl #[.agg #[.int .i64 a0_0, .int .i64 a0_1, .int .i64 a0_2, .int .i64 a0_3, .int .i64 a0_4, .int .i64 a0_5, .int .i64 a0_6, .int .i64 a0_7, .int .i64 a0_8, .int .i64 a0_9, .int .i64 a0_10], .int .i64 (wrap64 (Int.tdiv a2 a0_2)), .int .i64 a1] rfl (by (try simp only [List.map_toArray, List.map_cons, List.map_nil]); first | done | rfl | (simp only [List.length_drop, List.length_take]; rfl)) ?_; (with_reducible refine (revetmentref08_Unit.calls kj3 a0_0 a0_1 a0_2 a0_3 a0_4 a0_5 a0_6 a0_7 a0_8 a0_9 a0_10 (wrap64 (Int.tdiv a2 a0_2)) a1 t161 _ A25.out).mono ?_); rintro e w29 ⟨rfl, hb⟩; refine ⟨_, rfl, ?_⟩; have n0_ := bkb BK158 hb; have n1_ := bst HB hb; clear BK158; clear HB; have BK158 := n0_; have HB := n1_; clear n0_ n1_; (try clear hb); (try clear hb2); (try clear hk); (try clear hi); obtain ⟨hcz30_0, hcz30_1, hcz30_2, hcz30_3, hcz30_4, hcz30_5, hcz30_6, hcz30_7, hcz30_8, hcz30_9, hcz30_10⟩ := cz11 BK158.out) | ((with_reducible refine gate_callee (f := 59) rfl ?_); refine goesL_ (some 48) rfl rfl Try.func59 (by kernel_rfl) rfl #[.agg #[.int .i64 a0_0, .int .i64 a0_1, .int .i64 a0_2, .int .i64 a0_3, .int .i64 a0_4, .int .i64 a0_5, .int .i64 a0_6, .int .i64 a0_7, .int .i64 a0_8, .int .i64 a0_9, .int .i64 a0_10]] rfl (by (try simp only [List.map_toArray, List.map_cons, List.map_nil]); first | done | rfl | (simp only [List.length_drop, List.length_take]; rfl)) ?_; (with_reducible refine (revetmentref07_Row.calls a0_0 a0_1 a0_2 a0_3 a0_4 a0_5 a0_6 a0_7 a0_8 a0_9 a0_10 t162 _ A27.out).mono ?_); rintro e w31 ⟨rfl, hb⟩; refine ⟨_, rfl, ?_⟩; have n0_ := bkb BK158 hb; have n1_ := bst HB hb; clear BK158; clear HB; have BK158 := n0_; have HB := n1_; clear n0_ n1_; (try clear hb); (try clear hb2); (try clear hk); (try clear hi)))
      go_ret2
      exact ⟨by first | rfl | (simp [errW_none, errW_some] <;> rfl) | (simp [*, errW_none, errW_some] <;> rfl), bl HB⟩
     ·rw [if_neg c26] at H
      have c26b0 : (t161 == (-1)) = false := beq_eq_false_iff_ne.mpr c26
      have c26b1 : (t161 != (-1)) = true := bne_iff_ne.mpr c26
      replace H := Option.bind_eq_some_iff.mp H
      obtain ⟨t163, A320, H⟩ := H
      replace H : (some (wrap64 ((wrap64 ((wrap64 ((wrap64 ((wrap64 (Int.tdiv a2 a0_2)) * t163)) + (wrap64 (t161 * a0_2)))) + a2)) - (wrap64 ((wrap64 (Int.tdiv a2 a0_2)) * a0_2))), true)) = some (r1, r2) := H
      have A32 := Aside0.mk A320
      clear A320
      simp only [Option.some.injEq, Prod.mk.injEq] at H
      obtain ⟨rfl, rfl⟩ := H
      obtain ⟨hcz33_0, hcz33_1, hcz33_2, hcz33_3, hcz33_4, hcz33_5, hcz33_6, hcz33_7, hcz33_8, hcz33_9, hcz33_10⟩ := cz11 BK158.out
      try go_wp2_with (first | ((with_reducible refine gate_callee (f := 26) rfl ?_); refine goesL_ (some 43) rfl rfl Try.func26 (by kernel_rfl) rfl #[.agg #[.int .i64 a0_0, .int .i64 a0_1, .int .i64 a0_2, .int .i64 a0_3, .int .i64 a0_4, .int .i64 a0_5, .int .i64 a0_6, .int .i64 a0_7, .int .i64 a0_8, .int .i64 a0_9, .int .i64 a0_10], .int .i64 (wrap64 (Int.tdiv a2 a0_2)), .int .i64 a1] rfl (by (try simp only [List.map_toArray, List.map_cons, List.map_nil]); first | done | rfl | (simp only [List.length_drop, List.length_take]; rfl)) ?_; (with_reducible refine (revetmentref08_Unit.calls kj3 a0_0 a0_1 a0_2 a0_3 a0_4 a0_5 a0_6 a0_7 a0_8 a0_9 a0_10 (wrap64 (Int.tdiv a2 a0_2)) a1 t161 _ A25.out).mono ?_); rintro e w34 ⟨rfl, hb⟩; refine ⟨_, rfl, ?_⟩; have n0_ := bkb BK158 hb; have n1_ := bst HB hb; clear BK158; clear HB; have BK158 := n0_; have HB := n1_; clear n0_ n1_; (try clear hb); (try clear hb2); (try clear hk); (try clear hi)))
      replace BK158 := Aside0.mk (blk_drew BK158.out)
      replace HB := Aside0.mk (below_drew1 HB.out)
      refine start_ (n := 18) (S := fun w' => w'.cell? ⟨gb158, 0, none⟩ = some (.int .i64 a0_0) ∧ w'.cell? ⟨gb158, 1, none⟩ = some (.int .i64 a0_1) ∧ w'.cell? ⟨gb158, 2, none⟩ = some (.int .i64 a0_2) ∧ w'.cell? ⟨gb158, 3, none⟩ = some (.int .i64 a0_3) ∧ w'.cell? ⟨gb158, 4, none⟩ = some (.int .i64 a0_4) ∧ w'.cell? ⟨gb158, 5, none⟩ = some (.int .i64 a0_5) ∧ w'.cell? ⟨gb158, 6, none⟩ = some (.int .i64 a0_6) ∧ w'.cell? ⟨gb158, 7, none⟩ = some (.int .i64 a0_7) ∧ w'.cell? ⟨gb158, 8, none⟩ = some (.int .i64 a0_8) ∧ w'.cell? ⟨gb158, 9, none⟩ = some (.int .i64 a0_9) ∧ w'.cell? ⟨gb158, 10, none⟩ = some (.int .i64 a0_10)) (ds := []) (bq 18 0) (by kernel_rfl) rfl rfl (cz11 BK158.out) (fun hHeld => ?_); refine with_tabW revetmentref08_Back.tab7 revetmentref08_Back.bits7 (fun HT_ HW_ => ?_)
      generalize w34.drew = w35 at BK158 HB hHeld ⊢
      apply pu 0 50 (bq 18 1) HT_
      apply pu 4 54 (bq 18 17) HT_
      apply pu 5 55 (bq 18 49) HT_
      apply pu 9 59 (bq 18 561) HT_
      apply pu 11 61 (bq 18 2609) HT_
      apply pu 12 62 (bq 18 6705) HT_
      apply tu 1 51 (bq 18 6707) HT_ HW_ hHeld
      apply tu 6 56 (bq 18 6771) HT_ HW_ hHeld
      apply pu 7 57 (bq 18 6899) HT_
      apply tu 13 63 (bq 18 15091) HT_ HW_ hHeld
      apply pu 14 64 (bq 18 31475) HT_
      refine one_ (i := 2) (N := some 52) (bq 18 31479) rfl rfl (one_of HT_.out (by kernel_rfl)) (by decide) (fun K hK => ?_)
      refine gs Try.func59 #[.agg #[.int .i64 a0_0, .int .i64 a0_1, .int .i64 a0_2, .int .i64 a0_3, .int .i64 a0_4, .int .i64 a0_5, .int .i64 a0_6, .int .i64 a0_7, .int .i64 a0_8, .int .i64 a0_9, .int .i64 a0_10]] ?_
      with_reducible refine (revetmentref07_Row.calls a0_0 a0_1 a0_2 a0_3 a0_4 a0_5 a0_6 a0_7 a0_8 a0_9 a0_10 t163 _ A32.out).mono ?_
      rintro e w36 ⟨rfl, hb⟩
      refine ⟨_, rfl, ?_⟩
      replace BK158 := bkb BK158 hb
      replace HB := bst HB hb
      try clear hb; try clear hb2; try clear hk; try clear hi
      refine hK.out _ _ sc (fun hHeld => ?_)
      clear hK K
      apply nm 0
      apply pu 3 53 (bq 18 31487) HT_
      apply pu 8 58 (bq 18 31743) HT_
      apply pu 10 60 (bq 18 32767) HT_
      apply pu 15 65 (bq 18 65535) HT_
      apply pu 16 6 (bq 18 131071) HT_
      apply pu 17 7 (bq 18 262143) HT_
      refine done_ (done_of HT_.out (by kernel_rfl)) ?_
      try go_wp2
      go_ret2
      exact ⟨by first | rfl | (simp [errW_none, errW_some] <;> rfl) | (simp [*, errW_none, errW_some] <;> rfl), bl HB⟩

end Go.Proofs.Ytekihhbihnmakaa.PA
