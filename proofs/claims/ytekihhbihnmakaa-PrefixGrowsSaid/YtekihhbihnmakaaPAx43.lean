/- Printed by the kit's print over stand-ins for some functions (xprint.py), with contracts of my own in their place. -/
import Derived.Test.YtekihhbihnmakaaPAx0
import Derived.Test.YtekihhbihnmakaaPAx36
import Derived.Test.YtekihhbihnmakaaPAx902
import Derived.Test.YtekihhbihnmakaaPAx801
import Derived.Test.YtekihhbihnmakaaWGuard
namespace Go.Proofs.Ytekihhbihnmakaa.PA
open Go.RowKit Go.Proofs.YtekihhbihnmakaaW.PrintWords Go.Proofs.YtekihhbihnmakaaW.PrintLast
set_option linter.unusedVariables false
set_option linter.unusedSimpArgs false

/-! ### revetmentlaw16_PrefixGrows: function 11 -/
def revetmentlaw16_PrefixGrows.j0 : Nat → Int → Int → Bool → Int → Int → Int → Int → Int → Int → Int → Int → Int → Int → Int → List Int → Int → List (S71) → Option (Bool)
  | 0, _, _, _, _, _, _, _, _, _, _, _, _, _, _, _, _, _ => none
  | k + 1, x1, x2, x16, x544000, x544001, x544002, x544003, x544004, x544005, x544006, x544007, x544008, x544009, x544010, x544011, x544012, x544013 => if x16 = true then ((revetmentlaw16_live.f).bind fun t545 => (some t545)) else ((some (([] : List Int) : List Int)).bind fun y546 => (if y546.length + x544011.length < 17592186044416 then ((some (y546 ++ x544011 : List Int)).bind fun y549 => (if (y549.length : Int) = 0 then (none) else (if 0 ≤ (Int.tmod (wrap64 (x1)) (y549.length : Int)) then (if (Int.tmod (wrap64 (x1)) (y549.length : Int)) < (y549.length : Int) then (if (rd y549 (Int.tmod (wrap64 (x1)) (y549.length : Int))) > 1048576 then ((revetmentlaw16_live.f).bind fun t553 => (some t553)) else ((prefix_Of.f x544000 x544001 x544002 x544003 x544004 x544005 x544006 x544007 x544008 x544009 x544010 (y549.set ((Int.tmod (wrap64 (x1)) (y549.length : Int)) : Int).toNat (wrap64 ((rd y549 (Int.tmod (wrap64 (x1)) (y549.length : Int))) + (wrap64 (x2))))) x544012 x544013).bind fun t556 => ((prefix_Of.f x544000 x544001 x544002 x544003 x544004 x544005 x544006 x544007 x544008 x544009 x544010 x544011 x544012 x544013).bind fun t557 => (if t556 ≥ t557 then ((revetmentlaw16_live.f).bind fun t558 => (some t558)) else (some false))))) else (none)) else (none)))) else (none)))
def revetmentlaw16_PrefixGrows.f (k : Nat) (a0_0 : Int) (a0_1 : Int) (a0_2 : Int) (a0_3 : Int) (a0_4 : Int) (a0_5 : Int) (a0_6 : Int) (a0_7 : Int) (a0_8 : Int) (a0_9 : Int) (a0_10 : Int) (l0_11 : List Int) (a0_12 : Int) (l0_13 : List (S71)) (a1 : Int) (a2 : Int) : Option (Bool) := (revetmentlaw16_much.f a0_0 a0_1 a0_2 a0_3 a0_4 a0_5 a0_6 a0_7 a0_8 a0_9 a0_10 l0_11 a0_12 l0_13).bind fun t544 => (if t544 = true then (revetmentlaw16_PrefixGrows.j0 k a1 a2 true a0_0 a0_1 a0_2 a0_3 a0_4 a0_5 a0_6 a0_7 a0_8 a0_9 a0_10 l0_11 a0_12 l0_13) else (revetmentlaw16_PrefixGrows.j0 k a1 a2 ((l0_11.length : Int) == 0) a0_0 a0_1 a0_2 a0_3 a0_4 a0_5 a0_6 a0_7 a0_8 a0_9 a0_10 l0_11 a0_12 l0_13))
theorem revetmentlaw16_PrefixGrows.mono_l : ∀ k, (∀ y0 y1 y2 y3 y4 y5 y6 y7 y8 y9 y10 y11 y12 y13 y14 y15 y16, LeO (revetmentlaw16_PrefixGrows.j0 k y0 y1 y2 y3 y4 y5 y6 y7 y8 y9 y10 y11 y12 y13 y14 y15 y16) (revetmentlaw16_PrefixGrows.j0 (k + 1) y0 y1 y2 y3 y4 y5 y6 y7 y8 y9 y10 y11 y12 y13 y14 y15 y16))
 | 0 => fun _ _ _ _ _ _ _ _ _ _ _ _ _ _ _ _ _ r h => by simp [revetmentlaw16_PrefixGrows.j0] at h
 | k + 1 => by
  have ih0 := revetmentlaw16_PrefixGrows.mono_l k
  ·intro y0 y1 y2 y3 y4 y5 y6 y7 y8 y9 y10 y11 y12 y13 y14 y15 y16
   unfold revetmentlaw16_PrefixGrows.j0
   repeat' first
   | (with_reducible exact ih0 _ _ _ _ _ _ _ _ _ _ _ _ _ _ _ _ _)
   | (with_reducible exact LeO.refl _)
   | (with_reducible exact LeO.none _)
   | (with_reducible refine LeO.ite ?_ ?_)
   | (with_reducible refine LeO.bind ?_ (fun _ => ?_))
   | exact ih0 _ _ _ _ _ _ _ _ _ _ _ _ _ _ _ _ _
   | exact LeO.none _
   | refine LeO.ite ?_ ?_
   | refine LeO.bind ?_ (fun _ => ?_)
theorem revetmentlaw16_PrefixGrows.mono : ∀ a0 a1 a2 a3 a4 a5 a6 a7 a8 a9 a10 a11 a12 a13 a14 a15 k, LeO (revetmentlaw16_PrefixGrows.f k a0 a1 a2 a3 a4 a5 a6 a7 a8 a9 a10 a11 a12 a13 a14 a15) (revetmentlaw16_PrefixGrows.f (k + 1) a0 a1 a2 a3 a4 a5 a6 a7 a8 a9 a10 a11 a12 a13 a14 a15) := by
 intro a0 a1 a2 a3 a4 a5 a6 a7 a8 a9 a10 a11 a12 a13 a14 a15 k
 have ih0 := revetmentlaw16_PrefixGrows.mono_l k
 unfold revetmentlaw16_PrefixGrows.f
 repeat' first
   | (with_reducible exact ih0 _ _ _ _ _ _ _ _ _ _ _ _ _ _ _ _ _)
   | (with_reducible exact LeO.refl _)
   | (with_reducible exact LeO.none _)
   | (with_reducible refine LeO.ite ?_ ?_)
   | (with_reducible refine LeO.bind ?_ (fun _ => ?_))
   | exact ih0 _ _ _ _ _ _ _ _ _ _ _ _ _ _ _ _ _
   | exact LeO.none _
   | refine LeO.ite ?_ ?_
   | refine LeO.bind ?_ (fun _ => ?_)
def revetmentlaw16_PrefixGrows.T8 : Bool × List (List Nat × List Nat) := (true, [([], []), ([0], [0]), ([], []), ([], []), ([3], [3]), ([], []), ([5], [5]), ([1, 2, 4, 6], [1, 2, 4, 6]), ([], []), ([8], [8]), ([], []), ([10], [10]), ([], []), ([12], [12]), ([], []), ([14], [14]), ([9, 11, 13, 15, 7], [9, 11, 13, 15]), ([7, 16], [7, 16]), ([17, 16], [17]), ([18, 18], [18]), ([18, 19], [18, 19]), ([20, 19, 0, 1, 2, 3, 4, 5, 6, 7, 8, 9, 10, 11, 12, 13, 14, 15, 16, 17, 18, 19, 20], [20])])
def revetmentlaw16_PrefixGrows.B8 : List Nat := [0, 1, 0, 0, 8, 0, 32, 127, 0, 256, 0, 1024, 0, 4096, 0, 16384, 65535, 131071, 262143, 524287, 1048575, 2097151]
theorem revetmentlaw16_PrefixGrows.tab8 : rtab .any (opsOf Try.f11 8) = revetmentlaw16_PrefixGrows.T8 := by kernel_rfl
theorem revetmentlaw16_PrefixGrows.bits8 : waitsOk revetmentlaw16_PrefixGrows.T8.2 revetmentlaw16_PrefixGrows.B8 = true := by kernel_rfl
set_option maxHeartbeats 8000000 in
set_option maxRecDepth 100000 in
theorem revetmentlaw16_PrefixGrows.calls (k : Nat) (a0_0 : Int) (a0_1 : Int) (a0_2 : Int) (a0_3 : Int) (a0_4 : Int) (a0_5 : Int) (a0_6 : Int) (a0_7 : Int) (a0_8 : Int) (a0_9 : Int) (a0_10 : Int) (A0_11 : Option Addr) (c0_11 : Nat) (l0_11 : List Int) (a0_12 : Int) (A0_13 : Option Addr) (c0_13 : Nat) (l0_13 : List (S71)) (a1 : Int) (a2 : Int) (w : World) (hr0_11 : Kd.C (Kd.int .i64) w A0_11 l0_11.length l0_11) (hc0_11 : l0_11.length ≤ c0_11) (hr0_13 : Kd.C k71 w A0_13 l0_13.length l0_13) (hc0_13 : l0_13.length ≤ c0_13) (h : revetmentlaw16_PrefixGrows.f k a0_0 a0_1 a0_2 a0_3 a0_4 a0_5 a0_6 a0_7 a0_8 a0_9 a0_10 l0_11 a0_12 l0_13 a1 a2 = some true) :
  Calls Try.prog 11 #[.agg #[.int .i64 a0_0, .int .i64 a0_1, .int .i64 a0_2, .int .i64 a0_3, .int .i64 a0_4, .int .i64 a0_5, .int .i64 a0_6, .int .i64 a0_7, .int .i64 a0_8, .int .i64 a0_9, .int .i64 a0_10, .slice A0_11 l0_11.length c0_11, .int .i64 a0_12, .slice A0_13 l0_13.length c0_13], .int .u8 a1, .int .u8 a2] w fun e w' => e = .returned (.bool true) ∧ Below w.heap.size w w' := by
 have hu59 := Try.underlying59
 have hu23 := Try.underlying23
 have HR0_11 := Aside0.mk hr0_11
 have HC0_11 := Aside0.mk hc0_11
 clear hr0_11 hc0_11
 have HR0_13 := Aside0.mk hr0_13
 have HC0_13 := Aside0.mk hc0_13
 clear hr0_13 hc0_13
 have HB := Aside0.mk (Below.refl w.heap.size w)
 have H : ((revetmentlaw16_much.f a0_0 a0_1 a0_2 a0_3 a0_4 a0_5 a0_6 a0_7 a0_8 a0_9 a0_10 l0_11 a0_12 l0_13).bind fun t544 => (if t544 = true then (revetmentlaw16_PrefixGrows.j0 k a1 a2 true a0_0 a0_1 a0_2 a0_3 a0_4 a0_5 a0_6 a0_7 a0_8 a0_9 a0_10 l0_11 a0_12 l0_13) else (revetmentlaw16_PrefixGrows.j0 k a1 a2 ((l0_11.length : Int) == 0) a0_0 a0_1 a0_2 a0_3 a0_4 a0_5 a0_6 a0_7 a0_8 a0_9 a0_10 l0_11 a0_12 l0_13))) = some true := h
 clear h
 have HC4 := Aside0.mk H
 clear H
 go_enter Try.func11, Try.ntmps11
 go_upto_region 1 with (first | ((with_reducible refine gate_dst (N := 3) rfl ?_); (try (refine gate_guard (by rfl) ?_; dsimp only)); refine box_event ?hg (N := 3) ?hd (cs := #[.int .i64 a0_0, .int .i64 a0_1, .int .i64 a0_2, .int .i64 a0_3, .int .i64 a0_4, .int .i64 a0_5, .int .i64 a0_6, .int .i64 a0_7, .int .i64 a0_8, .int .i64 a0_9, .int .i64 a0_10, .slice A0_11 l0_11.length c0_11, .int .i64 a0_12, .slice A0_13 l0_13.length c0_13]) (t := 59) ?hr ?_; (case hd => rfl); (case hg => rfl); (case hr => first | (go_simp; done) | (go_simp; rfl)); intro gb543 hg w5 hbox hb; have n0_ := bst HB hb; have n1_ := Aside0.mk (hbox); have n2_ := Aside0.mk ((by rw [hg]; exact (below_size (bl HB)) : w.heap.size ≤ gb543)); have n3_ := Aside0.mk ((by rw [hg]; exact (below_size (bl HB)) : w.heap.size ≤ gb543)); clear HB; have HB := n0_; have BK543 := n1_; have GW543 := n2_; have GE543 := n3_; clear n0_ n1_ n2_ n3_; clear hb hbox hg))
 (try simp only [Act.put, List.setIfInBounds_toArray, List.set_cons_zero, List.set_cons_succ])
 go_cut [16] (fun v16 wc => ∃ (kq : Nat) (x16_3 : Bool), v16 = .bool x16_3 ∧ Aside0 (revetmentlaw16_PrefixGrows.j0 kq a1 a2 x16_3 a0_0 a0_1 a0_2 a0_3 a0_4 a0_5 a0_6 a0_7 a0_8 a0_9 a0_10 l0_11 a0_12 l0_13 = some true) ∧ Aside0 (kq ≤ k) ∧ Aside0 (wc.heap[gb543]? = some (.cells #[.int .i64 a0_0, .int .i64 a0_1, .int .i64 a0_2, .int .i64 a0_3, .int .i64 a0_4, .int .i64 a0_5, .int .i64 a0_6, .int .i64 a0_7, .int .i64 a0_8, .int .i64 a0_9, .int .i64 a0_10, (.slice A0_11 l0_11.length c0_11), .int .i64 a0_12, (.slice A0_13 l0_13.length c0_13)] 59 (0, 0))) ∧ Aside0 (Below w.heap.size w wc))
 case first =>
  have H := HC4.out
  clear HC4
  replace H := Option.bind_eq_some_iff.mp H
  obtain ⟨t544, A60, H⟩ := H
  replace H : (if t544 = true then (revetmentlaw16_PrefixGrows.j0 k a1 a2 true a0_0 a0_1 a0_2 a0_3 a0_4 a0_5 a0_6 a0_7 a0_8 a0_9 a0_10 l0_11 a0_12 l0_13) else (revetmentlaw16_PrefixGrows.j0 k a1 a2 ((l0_11.length : Int) == 0) a0_0 a0_1 a0_2 a0_3 a0_4 a0_5 a0_6 a0_7 a0_8 a0_9 a0_10 l0_11 a0_12 l0_13)) = some true := H
  have A6 := Aside0.mk A60
  clear A60
  by_cases c7 : t544 = true
  ·subst c7
   have H1 : (revetmentlaw16_PrefixGrows.j0 k a1 a2 true a0_0 a0_1 a0_2 a0_3 a0_4 a0_5 a0_6 a0_7 a0_8 a0_9 a0_10 l0_11 a0_12 l0_13) = some true := by rw [if_pos rfl] at H; exact H
   clear H
   have H := H1
   clear H1
   have H' := Aside0.mk H
   clear H
   have hcz8_0 : w5.cell? ⟨gb543, 0, none⟩ = some (.int .i64 a0_0) := (blk_cell BK543.out 0).trans rfl
   have hcz8_1 : w5.cell? ⟨gb543, 1, none⟩ = some (.int .i64 a0_1) := (blk_cell BK543.out 1).trans rfl
   have hcz8_2 : w5.cell? ⟨gb543, 2, none⟩ = some (.int .i64 a0_2) := (blk_cell BK543.out 2).trans rfl
   have hcz8_3 : w5.cell? ⟨gb543, 3, none⟩ = some (.int .i64 a0_3) := (blk_cell BK543.out 3).trans rfl
   have hcz8_4 : w5.cell? ⟨gb543, 4, none⟩ = some (.int .i64 a0_4) := (blk_cell BK543.out 4).trans rfl
   have hcz8_5 : w5.cell? ⟨gb543, 5, none⟩ = some (.int .i64 a0_5) := (blk_cell BK543.out 5).trans rfl
   have hcz8_6 : w5.cell? ⟨gb543, 6, none⟩ = some (.int .i64 a0_6) := (blk_cell BK543.out 6).trans rfl
   have hcz8_7 : w5.cell? ⟨gb543, 7, none⟩ = some (.int .i64 a0_7) := (blk_cell BK543.out 7).trans rfl
   have hcz8_8 : w5.cell? ⟨gb543, 8, none⟩ = some (.int .i64 a0_8) := (blk_cell BK543.out 8).trans rfl
   have hcz8_9 : w5.cell? ⟨gb543, 9, none⟩ = some (.int .i64 a0_9) := (blk_cell BK543.out 9).trans rfl
   have hcz8_10 : w5.cell? ⟨gb543, 10, none⟩ = some (.int .i64 a0_10) := (blk_cell BK543.out 10).trans rfl
   have hcz8_11 : w5.cell? ⟨gb543, 11, none⟩ = some (.slice A0_11 l0_11.length c0_11) := (blk_cell BK543.out 11).trans rfl
   have hcz8_12 : w5.cell? ⟨gb543, 12, none⟩ = some (.int .i64 a0_12) := (blk_cell BK543.out 12).trans rfl
   have hcz8_13 : w5.cell? ⟨gb543, 13, none⟩ = some (.slice A0_13 l0_13.length c0_13) := (blk_cell BK543.out 13).trans rfl
   have hfz8_0 := blk_frozen BK543.out 0
   have hfz8_1 := blk_frozen BK543.out 1
   have hfz8_2 := blk_frozen BK543.out 2
   have hfz8_3 := blk_frozen BK543.out 3
   have hfz8_4 := blk_frozen BK543.out 4
   have hfz8_5 := blk_frozen BK543.out 5
   have hfz8_6 := blk_frozen BK543.out 6
   have hfz8_7 := blk_frozen BK543.out 7
   have hfz8_8 := blk_frozen BK543.out 8
   have hfz8_9 := blk_frozen BK543.out 9
   have hfz8_10 := blk_frozen BK543.out 10
   have hfz8_11 := blk_frozen BK543.out 11
   have hfz8_12 := blk_frozen BK543.out 12
   have hfz8_13 := blk_frozen BK543.out 13
   go_wp2_with (first | ((with_reducible refine gate_callee (f := 46) rfl ?_); refine goesL_ (some 10) rfl rfl Try.func46 (by kernel_rfl) rfl #[.agg #[.int .i64 a0_0, .int .i64 a0_1, .int .i64 a0_2, .int .i64 a0_3, .int .i64 a0_4, .int .i64 a0_5, .int .i64 a0_6, .int .i64 a0_7, .int .i64 a0_8, .int .i64 a0_9, .int .i64 a0_10, .slice A0_11 l0_11.length c0_11, .int .i64 a0_12, .slice A0_13 l0_13.length c0_13]] rfl (by (try simp only [List.map_toArray, List.map_cons, List.map_nil]); first | done | rfl | (simp only [List.length_drop, List.length_take]; rfl)) ?_; (with_reducible refine (revetmentlaw16_much.calls a0_0 a0_1 a0_2 a0_3 a0_4 a0_5 a0_6 a0_7 a0_8 a0_9 a0_10 _ _ l0_11 a0_12 _ _ l0_13 true _ ?side1 ?side2 ?side3 ?side4 A6.out).mono ?_); (case side1 => repeat (first | exact (Kd.C_below HR0_11.out HB.out) | (with_reducible refine Kd.C_alloc ?_ _) | (with_reducible refine Kd.C_drewN ?_ _) | (with_reducible refine Kd.C_drew ?_))); (case side2 => exact HC0_11.out); (case side3 => repeat (first | exact (Kd.C_below HR0_13.out HB.out) | (with_reducible refine Kd.C_alloc ?_ _) | (with_reducible refine Kd.C_drewN ?_ _) | (with_reducible refine Kd.C_drew ?_))); (case side4 => exact HC0_13.out); rintro e w9 ⟨rfl, hb⟩; refine ⟨_, rfl, ?_⟩; have n0_ := bkb BK543 hb; have n1_ := bst HB hb; clear BK543; clear HB; have BK543 := n0_; have HB := n1_; clear n0_ n1_; (try clear hb); (try clear hb2); (try clear hk); (try clear hi)))
   go_meet
   case rel => exact ⟨_, (true), (by first | rfl | (simp; done) | (simp [*]; done)), H', ⟨by first | omega | exact Nat.le_refl _⟩, ⟨by (with_reducible repeat (first | refine blk_drewN ?_ _ | refine blk_drew ?_ | refine blk_alloc ?_ _)); exact BK543.out⟩, ⟨bl HB⟩⟩
  ·replace c7 := Bool.eq_false_iff.mpr c7
   subst c7
   have H1 : (revetmentlaw16_PrefixGrows.j0 k a1 a2 ((l0_11.length : Int) == 0) a0_0 a0_1 a0_2 a0_3 a0_4 a0_5 a0_6 a0_7 a0_8 a0_9 a0_10 l0_11 a0_12 l0_13) = some true := by rw [if_neg (show ¬ (false = true) by decide)] at H; exact H
   clear H
   have H := H1
   clear H1
   have H' := Aside0.mk H
   clear H
   have hcz10_0 : w5.cell? ⟨gb543, 0, none⟩ = some (.int .i64 a0_0) := (blk_cell BK543.out 0).trans rfl
   have hcz10_1 : w5.cell? ⟨gb543, 1, none⟩ = some (.int .i64 a0_1) := (blk_cell BK543.out 1).trans rfl
   have hcz10_2 : w5.cell? ⟨gb543, 2, none⟩ = some (.int .i64 a0_2) := (blk_cell BK543.out 2).trans rfl
   have hcz10_3 : w5.cell? ⟨gb543, 3, none⟩ = some (.int .i64 a0_3) := (blk_cell BK543.out 3).trans rfl
   have hcz10_4 : w5.cell? ⟨gb543, 4, none⟩ = some (.int .i64 a0_4) := (blk_cell BK543.out 4).trans rfl
   have hcz10_5 : w5.cell? ⟨gb543, 5, none⟩ = some (.int .i64 a0_5) := (blk_cell BK543.out 5).trans rfl
   have hcz10_6 : w5.cell? ⟨gb543, 6, none⟩ = some (.int .i64 a0_6) := (blk_cell BK543.out 6).trans rfl
   have hcz10_7 : w5.cell? ⟨gb543, 7, none⟩ = some (.int .i64 a0_7) := (blk_cell BK543.out 7).trans rfl
   have hcz10_8 : w5.cell? ⟨gb543, 8, none⟩ = some (.int .i64 a0_8) := (blk_cell BK543.out 8).trans rfl
   have hcz10_9 : w5.cell? ⟨gb543, 9, none⟩ = some (.int .i64 a0_9) := (blk_cell BK543.out 9).trans rfl
   have hcz10_10 : w5.cell? ⟨gb543, 10, none⟩ = some (.int .i64 a0_10) := (blk_cell BK543.out 10).trans rfl
   have hcz10_11 : w5.cell? ⟨gb543, 11, none⟩ = some (.slice A0_11 l0_11.length c0_11) := (blk_cell BK543.out 11).trans rfl
   have hcz10_12 : w5.cell? ⟨gb543, 12, none⟩ = some (.int .i64 a0_12) := (blk_cell BK543.out 12).trans rfl
   have hcz10_13 : w5.cell? ⟨gb543, 13, none⟩ = some (.slice A0_13 l0_13.length c0_13) := (blk_cell BK543.out 13).trans rfl
   have hfz10_0 := blk_frozen BK543.out 0
   have hfz10_1 := blk_frozen BK543.out 1
   have hfz10_2 := blk_frozen BK543.out 2
   have hfz10_3 := blk_frozen BK543.out 3
   have hfz10_4 := blk_frozen BK543.out 4
   have hfz10_5 := blk_frozen BK543.out 5
   have hfz10_6 := blk_frozen BK543.out 6
   have hfz10_7 := blk_frozen BK543.out 7
   have hfz10_8 := blk_frozen BK543.out 8
   have hfz10_9 := blk_frozen BK543.out 9
   have hfz10_10 := blk_frozen BK543.out 10
   have hfz10_11 := blk_frozen BK543.out 11
   have hfz10_12 := blk_frozen BK543.out 12
   have hfz10_13 := blk_frozen BK543.out 13
   go_wp2_with (first | ((with_reducible refine gate_callee (f := 46) rfl ?_); refine goesL_ (some 10) rfl rfl Try.func46 (by kernel_rfl) rfl #[.agg #[.int .i64 a0_0, .int .i64 a0_1, .int .i64 a0_2, .int .i64 a0_3, .int .i64 a0_4, .int .i64 a0_5, .int .i64 a0_6, .int .i64 a0_7, .int .i64 a0_8, .int .i64 a0_9, .int .i64 a0_10, .slice A0_11 l0_11.length c0_11, .int .i64 a0_12, .slice A0_13 l0_13.length c0_13]] rfl (by (try simp only [List.map_toArray, List.map_cons, List.map_nil]); first | done | rfl | (simp only [List.length_drop, List.length_take]; rfl)) ?_; (with_reducible refine (revetmentlaw16_much.calls a0_0 a0_1 a0_2 a0_3 a0_4 a0_5 a0_6 a0_7 a0_8 a0_9 a0_10 _ _ l0_11 a0_12 _ _ l0_13 false _ ?side1 ?side2 ?side3 ?side4 A6.out).mono ?_); (case side1 => repeat (first | exact (Kd.C_below HR0_11.out HB.out) | (with_reducible refine Kd.C_alloc ?_ _) | (with_reducible refine Kd.C_drewN ?_ _) | (with_reducible refine Kd.C_drew ?_))); (case side2 => exact HC0_11.out); (case side3 => repeat (first | exact (Kd.C_below HR0_13.out HB.out) | (with_reducible refine Kd.C_alloc ?_ _) | (with_reducible refine Kd.C_drewN ?_ _) | (with_reducible refine Kd.C_drew ?_))); (case side4 => exact HC0_13.out); rintro e w11 ⟨rfl, hb⟩; refine ⟨_, rfl, ?_⟩; have n0_ := bkb BK543 hb; have n1_ := bst HB hb; clear BK543; clear HB; have BK543 := n0_; have HB := n1_; clear n0_ n1_; (try clear hb); (try clear hb2); (try clear hk); (try clear hi); have hcz12_0 : w11.cell? ⟨gb543, 0, none⟩ = some (.int .i64 a0_0) := (blk_cell BK543.out 0).trans rfl; have hcz12_1 : w11.cell? ⟨gb543, 1, none⟩ = some (.int .i64 a0_1) := (blk_cell BK543.out 1).trans rfl; have hcz12_2 : w11.cell? ⟨gb543, 2, none⟩ = some (.int .i64 a0_2) := (blk_cell BK543.out 2).trans rfl; have hcz12_3 : w11.cell? ⟨gb543, 3, none⟩ = some (.int .i64 a0_3) := (blk_cell BK543.out 3).trans rfl; have hcz12_4 : w11.cell? ⟨gb543, 4, none⟩ = some (.int .i64 a0_4) := (blk_cell BK543.out 4).trans rfl; have hcz12_5 : w11.cell? ⟨gb543, 5, none⟩ = some (.int .i64 a0_5) := (blk_cell BK543.out 5).trans rfl; have hcz12_6 : w11.cell? ⟨gb543, 6, none⟩ = some (.int .i64 a0_6) := (blk_cell BK543.out 6).trans rfl; have hcz12_7 : w11.cell? ⟨gb543, 7, none⟩ = some (.int .i64 a0_7) := (blk_cell BK543.out 7).trans rfl; have hcz12_8 : w11.cell? ⟨gb543, 8, none⟩ = some (.int .i64 a0_8) := (blk_cell BK543.out 8).trans rfl; have hcz12_9 : w11.cell? ⟨gb543, 9, none⟩ = some (.int .i64 a0_9) := (blk_cell BK543.out 9).trans rfl; have hcz12_10 : w11.cell? ⟨gb543, 10, none⟩ = some (.int .i64 a0_10) := (blk_cell BK543.out 10).trans rfl; have hcz12_11 : w11.cell? ⟨gb543, 11, none⟩ = some (.slice A0_11 l0_11.length c0_11) := (blk_cell BK543.out 11).trans rfl; have hcz12_12 : w11.cell? ⟨gb543, 12, none⟩ = some (.int .i64 a0_12) := (blk_cell BK543.out 12).trans rfl; have hcz12_13 : w11.cell? ⟨gb543, 13, none⟩ = some (.slice A0_13 l0_13.length c0_13) := (blk_cell BK543.out 13).trans rfl; have hfz12_0 := blk_frozen BK543.out 0; have hfz12_1 := blk_frozen BK543.out 1; have hfz12_2 := blk_frozen BK543.out 2; have hfz12_3 := blk_frozen BK543.out 3; have hfz12_4 := blk_frozen BK543.out 4; have hfz12_5 := blk_frozen BK543.out 5; have hfz12_6 := blk_frozen BK543.out 6; have hfz12_7 := blk_frozen BK543.out 7; have hfz12_8 := blk_frozen BK543.out 8; have hfz12_9 := blk_frozen BK543.out 9; have hfz12_10 := blk_frozen BK543.out 10; have hfz12_11 := blk_frozen BK543.out 11; have hfz12_12 := blk_frozen BK543.out 12; have hfz12_13 := blk_frozen BK543.out 13))
   go_meet
   case rel => exact ⟨_, (((l0_11.length : Int) == 0)), (by first | rfl | (simp; done) | (simp [*]; done)), H', ⟨by first | omega | exact Nat.le_refl _⟩, ⟨by (with_reducible repeat (first | refine blk_drewN ?_ _ | refine blk_drew ?_ | refine blk_alloc ?_ _)); exact BK543.out⟩, ⟨bl HB⟩⟩
 case rest =>
  clear HC4
  try clear c1
  try clear p2
  try clear c4
  try clear c7
  try clear c11
  (try clear hcz10_0 hcz10_1)
  (try clear hcz10_10 hcz10_11 hcz10_12 hcz10_13)
  (try clear hcz10_2 hcz10_3 hcz10_4 hcz10_5 hcz10_6 hcz10_7 hcz10_8 hcz10_9)
  (try clear hcz12_0 hcz12_1)
  (try clear hcz12_10 hcz12_11 hcz12_12 hcz12_13)
  (try clear hcz12_2 hcz12_3 hcz12_4 hcz12_5 hcz12_6 hcz12_7 hcz12_8 hcz12_9)
  (try clear hcz8_0 hcz8_1)
  (try clear hcz8_10 hcz8_11 hcz8_12 hcz8_13)
  (try clear hcz8_2 hcz8_3 hcz8_4 hcz8_5 hcz8_6 hcz8_7 hcz8_8 hcz8_9)
  (try clear hfz10_0 hfz10_1)
  (try clear hfz10_10 hfz10_11 hfz10_12 hfz10_13)
  (try clear hfz10_2 hfz10_3 hfz10_4 hfz10_5 hfz10_6 hfz10_7 hfz10_8 hfz10_9)
  (try clear hfz12_0 hfz12_1)
  (try clear hfz12_10 hfz12_11 hfz12_12 hfz12_13)
  (try clear hfz12_2 hfz12_3 hfz12_4 hfz12_5 hfz12_6 hfz12_7 hfz12_8 hfz12_9)
  (try clear hfz8_0 hfz8_1)
  (try clear hfz8_10 hfz8_11 hfz8_12 hfz8_13)
  (try clear hfz8_2 hfz8_3 hfz8_4 hfz8_5 hfz8_6 hfz8_7 hfz8_8 hfz8_9)
  obtain ⟨kq, x16_3, rfl, HA, HJ3, BK543, HB⟩ := hcut
  cases kq with
  | zero => exact absurd HA.out (by simp [revetmentlaw16_PrefixGrows.j0])
  | succ kj3 =>
   have H := HA.out
   clear HA
   simp only [revetmentlaw16_PrefixGrows.j0] at H
   by_cases c13 : x16_3 = true
   ·subst c13
    have H1 : ((revetmentlaw16_live.f).bind fun t545 => (some t545)) = some true := by rw [if_pos rfl] at H; exact H
    clear H
    have H := H1
    clear H1
    replace H := Option.bind_eq_some_iff.mp H
    obtain ⟨t545, A140, H⟩ := H
    replace H : (some t545) = some true := H
    have A14 := Aside0.mk A140
    clear A140
    obtain rfl := Option.some.inj H
    go_wp2_with (first | ((with_reducible refine gate_callee (f := 47) rfl ?_); refine goesL_ (some 17) rfl rfl Try.func47 (by kernel_rfl) rfl #[] rfl (by (try simp only [List.map_toArray, List.map_cons, List.map_nil]); first | done | rfl | (simp only [List.length_drop, List.length_take]; rfl)) ?_; (with_reducible refine (revetmentlaw16_live.calls  true _ A14.out).mono ?_); rintro e w15 ⟨rfl, hb⟩; refine ⟨_, rfl, ?_⟩; have n0_ := bkb BK543 hb; have n1_ := bst HB hb; clear BK543; clear HB; have BK543 := n0_; have HB := n1_; clear n0_ n1_; (try clear hb); (try clear hb2); (try clear hk); (try clear hi)))
    go_ret
    exact ⟨by first | rfl | (simp [errW_none, errW_some] <;> rfl) | (simp [*, errW_none, errW_some] <;> rfl), bl HB⟩
   ·replace c13 := Bool.eq_false_iff.mpr c13
    subst c13
    have H1 : ((some (([] : List Int) : List Int)).bind fun y546 => (if y546.length + l0_11.length < 17592186044416 then ((some (y546 ++ l0_11 : List Int)).bind fun y549 => (if (y549.length : Int) = 0 then (none) else (if 0 ≤ (Int.tmod (wrap64 (a1)) (y549.length : Int)) then (if (Int.tmod (wrap64 (a1)) (y549.length : Int)) < (y549.length : Int) then (if (rd y549 (Int.tmod (wrap64 (a1)) (y549.length : Int))) > 1048576 then ((revetmentlaw16_live.f).bind fun t553 => (some t553)) else ((prefix_Of.f a0_0 a0_1 a0_2 a0_3 a0_4 a0_5 a0_6 a0_7 a0_8 a0_9 a0_10 (y549.set ((Int.tmod (wrap64 (a1)) (y549.length : Int)) : Int).toNat (wrap64 ((rd y549 (Int.tmod (wrap64 (a1)) (y549.length : Int))) + (wrap64 (a2))))) a0_12 l0_13).bind fun t556 => ((prefix_Of.f a0_0 a0_1 a0_2 a0_3 a0_4 a0_5 a0_6 a0_7 a0_8 a0_9 a0_10 l0_11 a0_12 l0_13).bind fun t557 => (if t556 ≥ t557 then ((revetmentlaw16_live.f).bind fun t558 => (some t558)) else (some false))))) else (none)) else (none)))) else (none))) = some true := by rw [if_neg (show ¬ (false = true) by decide)] at H; exact H
    clear H
    have H := H1
    clear H1
    obtain ⟨y546, hy546⟩ : ∃ y_ : List Int, y_ = (([] : List Int)) := ⟨_, rfl⟩
    replace H : (if y546.length + l0_11.length < 17592186044416 then ((some (y546 ++ l0_11 : List Int)).bind fun y549 => (if (y549.length : Int) = 0 then (none) else (if 0 ≤ (Int.tmod (wrap64 (a1)) (y549.length : Int)) then (if (Int.tmod (wrap64 (a1)) (y549.length : Int)) < (y549.length : Int) then (if (rd y549 (Int.tmod (wrap64 (a1)) (y549.length : Int))) > 1048576 then ((revetmentlaw16_live.f).bind fun t553 => (some t553)) else ((prefix_Of.f a0_0 a0_1 a0_2 a0_3 a0_4 a0_5 a0_6 a0_7 a0_8 a0_9 a0_10 (y549.set ((Int.tmod (wrap64 (a1)) (y549.length : Int)) : Int).toNat (wrap64 ((rd y549 (Int.tmod (wrap64 (a1)) (y549.length : Int))) + (wrap64 (a2))))) a0_12 l0_13).bind fun t556 => ((prefix_Of.f a0_0 a0_1 a0_2 a0_3 a0_4 a0_5 a0_6 a0_7 a0_8 a0_9 a0_10 l0_11 a0_12 l0_13).bind fun t557 => (if t556 ≥ t557 then ((revetmentlaw16_live.f).bind fun t558 => (some t558)) else (some false))))) else (none)) else (none)))) else (none)) = some true := by first | (rw [hy546]; with_reducible exact H) | (have H2_ := (Option.bind_some _ _).symm.trans H; rw [hy546]; with_reducible exact H2_) | (have H2_ := (Option.bind_some _ _).symm.trans H; with_reducible exact H2_) | with_reducible exact H | (rw [hy546]; exact H) | exact H
    have Ny546 := Aside0.mk hy546
    clear hy546
    by_cases c16 : y546.length + l0_11.length < 17592186044416
    ·rw [if_pos c16] at H
     have LMc16 := Aside0.mk c16
     clear c16
     obtain ⟨y549, hy549⟩ : ∃ y_ : List Int, y_ = (y546 ++ l0_11) := ⟨_, rfl⟩
     replace H : (if (y549.length : Int) = 0 then (none) else (if 0 ≤ (Int.tmod (wrap64 (a1)) (y549.length : Int)) then (if (Int.tmod (wrap64 (a1)) (y549.length : Int)) < (y549.length : Int) then (if (rd y549 (Int.tmod (wrap64 (a1)) (y549.length : Int))) > 1048576 then ((revetmentlaw16_live.f).bind fun t553 => (some t553)) else ((prefix_Of.f a0_0 a0_1 a0_2 a0_3 a0_4 a0_5 a0_6 a0_7 a0_8 a0_9 a0_10 (y549.set ((Int.tmod (wrap64 (a1)) (y549.length : Int)) : Int).toNat (wrap64 ((rd y549 (Int.tmod (wrap64 (a1)) (y549.length : Int))) + (wrap64 (a2))))) a0_12 l0_13).bind fun t556 => ((prefix_Of.f a0_0 a0_1 a0_2 a0_3 a0_4 a0_5 a0_6 a0_7 a0_8 a0_9 a0_10 l0_11 a0_12 l0_13).bind fun t557 => (if t556 ≥ t557 then ((revetmentlaw16_live.f).bind fun t558 => (some t558)) else (some false))))) else (none)) else (none))) = some true := by first | (rw [hy549]; with_reducible exact H) | (have H2_ := (Option.bind_some _ _).symm.trans H; rw [hy549]; with_reducible exact H2_) | (have H2_ := (Option.bind_some _ _).symm.trans H; with_reducible exact H2_) | with_reducible exact H | (rw [hy549]; exact H) | exact H
     have Ny549 := Aside0.mk hy549
     clear hy549
     by_cases c17 : (y549.length : Int) = 0
     ·rw [if_pos c17] at H
      exact absurd H (by simp)
     ·rw [if_neg c17] at H
      have c17b0 : ((y549.length : Int) == 0) = false := beq_eq_false_iff_ne.mpr c17
      have c17b1 : ((y549.length : Int) != 0) = true := bne_iff_ne.mpr c17
      have c17b2 : ¬ (y549 = []) := fun h_ => c17 (by rw [h_]; rfl)
      obtain ⟨ji18, hji18⟩ : ∃ j_ : Int, (Int.tmod (wrap64 (a1)) (y549.length : Int)) = j_ := ⟨_, rfl⟩
      replace H : (if 0 ≤ (ji18) then (if (ji18) < (y549.length : Int) then (if (rd y549 (ji18)) > 1048576 then ((revetmentlaw16_live.f).bind fun t553 => (some t553)) else ((prefix_Of.f a0_0 a0_1 a0_2 a0_3 a0_4 a0_5 a0_6 a0_7 a0_8 a0_9 a0_10 (y549.set ((ji18) : Int).toNat (wrap64 ((rd y549 (ji18)) + (wrap64 (a2))))) a0_12 l0_13).bind fun t556 => ((prefix_Of.f a0_0 a0_1 a0_2 a0_3 a0_4 a0_5 a0_6 a0_7 a0_8 a0_9 a0_10 l0_11 a0_12 l0_13).bind fun t557 => (if t556 ≥ t557 then ((revetmentlaw16_live.f).bind fun t558 => (some t558)) else (some false))))) else (none)) else (none)) = some true := by first | (rw [hji18] at H; exact H) | (simp only [hji18] at H ⊢; exact H)
      by_cases c19 : 0 ≤ (ji18)
      ·rw [if_pos c19] at H
       have c19b0 : decide (0 ≤ (ji18)) = true := decide_eq_true c19
       clear c19
       by_cases c20 : (ji18) < (y549.length : Int)
       ·rw [if_pos c20] at H
        have c20b0 : decide ((ji18) < (y549.length : Int)) = true := decide_eq_true c20
        clear c20
        by_cases c21 : (rd y549 (ji18)) > 1048576
        ·rw [if_pos c21] at H
         have c21b0 : decide (1048576 < (rd y549 (ji18))) = true := decide_eq_true c21
         clear c21
         replace H := Option.bind_eq_some_iff.mp H
         obtain ⟨t553, A220, H⟩ := H
         replace H : (some t553) = some true := H
         have A22 := Aside0.mk A220
         clear A220
         obtain rfl := Option.some.inj H
         go_wp2_with (first | ((with_reducible refine gate_dst (N := 18) rfl ?_); (try (refine gate_guard (by rfl) ?_; dsimp only)); refine Kd.R_lit (Kd.int .i64) _ 3 ?hg (N := 18) ?hd (xs := ([] : List Int)) (inner := []) (ok := fun _ => True) (okp := fun _ => True) ?hr ?hp (fun _ hk => hk) trivial (Below.refl _ _) (Nat.le_refl _) (by simp) ?_; (case hd => rfl); (case hg => rfl); (case hr => first | (go_simp; done) | (go_simp; rfl)); (case hp => exact (Reps.none _ _)); intro v547 w23 ho24 hb hg_ hnew_; clear hg_ hnew_; (first | rw [← Ny546.out] at ho24 | (simp only [Int.reduceToNat] at ho24; rw [← Ny546.out] at ho24)); have n0_ := Aside0.mk (Kd.R_lower ho24 (below_size (bl HB))); have n1_ := bkb BK543 hb; have n2_ := bst HB hb; clear BK543; clear HB; have HO548 := n0_; have BK543 := n1_; have HB := n2_; clear n0_ n1_ n2_; clear hb ho24; have hcz25_0 : w23.cell? ⟨gb543, 0, none⟩ = some (.int .i64 a0_0) := (blk_cell BK543.out 0).trans rfl; have hcz25_1 : w23.cell? ⟨gb543, 1, none⟩ = some (.int .i64 a0_1) := (blk_cell BK543.out 1).trans rfl; have hcz25_2 : w23.cell? ⟨gb543, 2, none⟩ = some (.int .i64 a0_2) := (blk_cell BK543.out 2).trans rfl; have hcz25_3 : w23.cell? ⟨gb543, 3, none⟩ = some (.int .i64 a0_3) := (blk_cell BK543.out 3).trans rfl; have hcz25_4 : w23.cell? ⟨gb543, 4, none⟩ = some (.int .i64 a0_4) := (blk_cell BK543.out 4).trans rfl; have hcz25_5 : w23.cell? ⟨gb543, 5, none⟩ = some (.int .i64 a0_5) := (blk_cell BK543.out 5).trans rfl; have hcz25_6 : w23.cell? ⟨gb543, 6, none⟩ = some (.int .i64 a0_6) := (blk_cell BK543.out 6).trans rfl; have hcz25_7 : w23.cell? ⟨gb543, 7, none⟩ = some (.int .i64 a0_7) := (blk_cell BK543.out 7).trans rfl; have hcz25_8 : w23.cell? ⟨gb543, 8, none⟩ = some (.int .i64 a0_8) := (blk_cell BK543.out 8).trans rfl; have hcz25_9 : w23.cell? ⟨gb543, 9, none⟩ = some (.int .i64 a0_9) := (blk_cell BK543.out 9).trans rfl; have hcz25_10 : w23.cell? ⟨gb543, 10, none⟩ = some (.int .i64 a0_10) := (blk_cell BK543.out 10).trans rfl; have hcz25_11 : w23.cell? ⟨gb543, 11, none⟩ = some (.slice A0_11 l0_11.length c0_11) := (blk_cell BK543.out 11).trans rfl; have hcz25_12 : w23.cell? ⟨gb543, 12, none⟩ = some (.int .i64 a0_12) := (blk_cell BK543.out 12).trans rfl; have hcz25_13 : w23.cell? ⟨gb543, 13, none⟩ = some (.slice A0_13 l0_13.length c0_13) := (blk_cell BK543.out 13).trans rfl; have hfz25_0 := blk_frozen BK543.out 0; have hfz25_1 := blk_frozen BK543.out 1; have hfz25_2 := blk_frozen BK543.out 2; have hfz25_3 := blk_frozen BK543.out 3; have hfz25_4 := blk_frozen BK543.out 4; have hfz25_5 := blk_frozen BK543.out 5; have hfz25_6 := blk_frozen BK543.out 6; have hfz25_7 := blk_frozen BK543.out 7; have hfz25_8 := blk_frozen BK543.out 8; have hfz25_9 := blk_frozen BK543.out 9; have hfz25_10 := blk_frozen BK543.out 10; have hfz25_11 := blk_frozen BK543.out 11; have hfz25_12 := blk_frozen BK543.out 12; have hfz25_13 := blk_frozen BK543.out 13) | ((with_reducible refine gate_builtin (b := .append) (xs := #[.tmp 18, .tmp 20]) rfl ?_); (try (refine gate_guard (by rfl) ?_; dsimp only)); at_builtin; refine Kd.R_append_rows (Kd.int .i64) (w0 := w) w.heap.size rfl (.tmp 18) (.tmp 20) 34 3 (.int .i64 0) 8 rfl Try.underlying34 info3 rfl (by decide) (by omega) v547 y546 l0_11 _ _ _ (fun _ => True) (fun _ => False) rfl rfl ?aO ?aR (fun _ _ h => h) (fun _ h => h.elim) ?aF ?aB ?aS ?aL ?_; (case aR => repeat (first | exact (Kd.C_below HR0_11.out HB.out) | (with_reducible refine Kd.C_alloc ?_ _) | (with_reducible refine Kd.C_drewN ?_ _) | (with_reducible refine Kd.C_drew ?_))); (case aB => exact (bl HB)); (case aF => exact (fun _ _ => trivial)); (case aO => exact (by (with_reducible repeat (first | apply Kd.R_alloc | apply Kd.R_drewN | apply Kd.R_drew)); exact HO548.out)); (case aS => exact (below_size (bl HB))); (case aL => have := LMc16.out; omega); intro v550 w26 ho hb hg hat; rw [← Ny549.out] at ho; have n0_ := Aside0.mk (blk_grown (g := gb543) (o := .cells #[.int .i64 a0_0, .int .i64 a0_1, .int .i64 a0_2, .int .i64 a0_3, .int .i64 a0_4, .int .i64 a0_5, .int .i64 a0_6, .int .i64 a0_7, .int .i64 a0_8, .int .i64 a0_9, .int .i64 a0_10, .slice A0_11 l0_11.length c0_11, .int .i64 a0_12, .slice A0_13 l0_13.length c0_13] 59 (0, 0)) (by (with_reducible repeat (first | refine blk_drewN ?_ _ | refine blk_drew ?_ | refine blk_alloc ?_ _)); exact BK543.out) hg (Kd.R_ne HO548.out BK543.out (by decide))); have n1_ := Aside0.mk (hb); have n2_ := Aside0.mk (ho); clear BK543; clear HB; clear HO548; have BK543 := n0_; have HB := n1_; have HO551 := n2_; clear n0_ n1_ n2_; clear ho hb hg hat; obtain ⟨Ao27, co27, eo27⟩ := Kd.R_slice HO551.out; subst eo27; have p552 : 0 ≤ ((ji18) : Int) := of_decide_eq_true (by first | (with_reducible assumption) | assumption); have q552 : (ji18) < (y549.length : Int) := of_decide_eq_true (by first | (with_reducible assumption) | assumption); obtain ⟨ad552, e552, hx552_0⟩ := Kd.at_int (Kd.R_reads' HO551.out).2.2 (ji18) p552 q552; cases e552; replace p552 := eq_true p552; replace q552 := eq_true q552) | ((with_reducible refine gate_callee (f := 47) rfl ?_); refine goesL_ (some 32) rfl rfl Try.func47 (by kernel_rfl) rfl #[] rfl (by (try simp only [List.map_toArray, List.map_cons, List.map_nil]); first | done | rfl | (simp only [List.length_drop, List.length_take]; rfl)) ?_; (with_reducible refine (revetmentlaw16_live.calls  true _ A22.out).mono ?_); rintro e w28 ⟨rfl, hb⟩; refine ⟨_, rfl, ?_⟩; have n0_ := Aside0.mk (Kd.R_below (by (with_reducible repeat (first | apply Kd.R_alloc | apply Kd.R_drewN | apply Kd.R_drew)); exact HO551.out) hb); have n1_ := bkb BK543 hb; have n2_ := bst HB hb; clear HO551; clear BK543; clear HB; have HO551 := n0_; have BK543 := n1_; have HB := n2_; clear n0_ n1_ n2_; (try clear hb); (try clear hb2); (try clear hk); (try clear hi)))
         go_ret
         exact ⟨by first | rfl | (simp [errW_none, errW_some] <;> rfl) | (simp only [← hji18]; first | rfl | (simp [errW_none, errW_some] <;> rfl)) | (simp [*, errW_none, errW_some] <;> rfl), bl HB⟩
        ·rw [if_neg c21] at H
         have c21b0 : decide (1048576 < (rd y549 (ji18))) = false := decide_eq_false c21
         clear c21
         obtain ⟨y555, hy555⟩ : ∃ y_ : List Int, y_ = (y549.set ((ji18) : Int).toNat (wrap64 ((rd y549 (ji18)) + (wrap64 (a2))))) := ⟨_, rfl⟩
         replace H : ((prefix_Of.f a0_0 a0_1 a0_2 a0_3 a0_4 a0_5 a0_6 a0_7 a0_8 a0_9 a0_10 y555 a0_12 l0_13).bind fun t556 => ((prefix_Of.f a0_0 a0_1 a0_2 a0_3 a0_4 a0_5 a0_6 a0_7 a0_8 a0_9 a0_10 l0_11 a0_12 l0_13).bind fun t557 => (if t556 ≥ t557 then ((revetmentlaw16_live.f).bind fun t558 => (some t558)) else (some false)))) = some true := by first | (rw [hy555]; with_reducible exact H) | (have H2_ := (Option.bind_some _ _).symm.trans H; rw [hy555]; with_reducible exact H2_) | (have H2_ := (Option.bind_some _ _).symm.trans H; with_reducible exact H2_) | with_reducible exact H | (rw [hy555]; exact H) | exact H
         have Ny555 := Aside0.mk hy555
         clear hy555
         replace H := Option.bind_eq_some_iff.mp H
         obtain ⟨t556, A300, H⟩ := H
         replace H : ((prefix_Of.f a0_0 a0_1 a0_2 a0_3 a0_4 a0_5 a0_6 a0_7 a0_8 a0_9 a0_10 l0_11 a0_12 l0_13).bind fun t557 => (if t556 ≥ t557 then ((revetmentlaw16_live.f).bind fun t558 => (some t558)) else (some false))) = some true := H
         have A30 := Aside0.mk A300
         clear A300
         replace H := Option.bind_eq_some_iff.mp H
         obtain ⟨t557, A310, H⟩ := H
         replace H : (if t556 ≥ t557 then ((revetmentlaw16_live.f).bind fun t558 => (some t558)) else (some false)) = some true := H
         have A31 := Aside0.mk A310
         clear A310
         by_cases c32 : t556 ≥ t557
         ·rw [if_pos c32] at H
          have c32b0 : decide (t557 ≤ t556) = true := decide_eq_true c32
          clear c32
          replace H := Option.bind_eq_some_iff.mp H
          obtain ⟨t558, A330, H⟩ := H
          replace H : (some t558) = some true := H
          have A33 := Aside0.mk A330
          clear A330
          obtain rfl := Option.some.inj H
          try go_wp2_with (first | ((with_reducible refine gate_dst (N := 18) rfl ?_); (try (refine gate_guard (by rfl) ?_; dsimp only)); refine Kd.R_lit (Kd.int .i64) _ 3 ?hg (N := 18) ?hd (xs := ([] : List Int)) (inner := []) (ok := fun _ => True) (okp := fun _ => True) ?hr ?hp (fun _ hk => hk) trivial (Below.refl _ _) (Nat.le_refl _) (by simp) ?_; (case hd => rfl); (case hg => rfl); (case hr => first | (go_simp; done) | (go_simp; rfl)); (case hp => exact (Reps.none _ _)); intro v547 w34 ho35 hb hg_ hnew_; clear hg_ hnew_; (first | rw [← Ny546.out] at ho35 | (simp only [Int.reduceToNat] at ho35; rw [← Ny546.out] at ho35)); have n0_ := Aside0.mk (Kd.R_lower ho35 (below_size (bl HB))); have n1_ := bkb BK543 hb; have n2_ := bst HB hb; clear BK543; clear HB; have HO548 := n0_; have BK543 := n1_; have HB := n2_; clear n0_ n1_ n2_; clear hb ho35; have hcz36_0 : w34.cell? ⟨gb543, 0, none⟩ = some (.int .i64 a0_0) := (blk_cell BK543.out 0).trans rfl; have hcz36_1 : w34.cell? ⟨gb543, 1, none⟩ = some (.int .i64 a0_1) := (blk_cell BK543.out 1).trans rfl; have hcz36_2 : w34.cell? ⟨gb543, 2, none⟩ = some (.int .i64 a0_2) := (blk_cell BK543.out 2).trans rfl; have hcz36_3 : w34.cell? ⟨gb543, 3, none⟩ = some (.int .i64 a0_3) := (blk_cell BK543.out 3).trans rfl; have hcz36_4 : w34.cell? ⟨gb543, 4, none⟩ = some (.int .i64 a0_4) := (blk_cell BK543.out 4).trans rfl; have hcz36_5 : w34.cell? ⟨gb543, 5, none⟩ = some (.int .i64 a0_5) := (blk_cell BK543.out 5).trans rfl; have hcz36_6 : w34.cell? ⟨gb543, 6, none⟩ = some (.int .i64 a0_6) := (blk_cell BK543.out 6).trans rfl; have hcz36_7 : w34.cell? ⟨gb543, 7, none⟩ = some (.int .i64 a0_7) := (blk_cell BK543.out 7).trans rfl; have hcz36_8 : w34.cell? ⟨gb543, 8, none⟩ = some (.int .i64 a0_8) := (blk_cell BK543.out 8).trans rfl; have hcz36_9 : w34.cell? ⟨gb543, 9, none⟩ = some (.int .i64 a0_9) := (blk_cell BK543.out 9).trans rfl; have hcz36_10 : w34.cell? ⟨gb543, 10, none⟩ = some (.int .i64 a0_10) := (blk_cell BK543.out 10).trans rfl; have hcz36_11 : w34.cell? ⟨gb543, 11, none⟩ = some (.slice A0_11 l0_11.length c0_11) := (blk_cell BK543.out 11).trans rfl; have hcz36_12 : w34.cell? ⟨gb543, 12, none⟩ = some (.int .i64 a0_12) := (blk_cell BK543.out 12).trans rfl; have hcz36_13 : w34.cell? ⟨gb543, 13, none⟩ = some (.slice A0_13 l0_13.length c0_13) := (blk_cell BK543.out 13).trans rfl; have hfz36_0 := blk_frozen BK543.out 0; have hfz36_1 := blk_frozen BK543.out 1; have hfz36_2 := blk_frozen BK543.out 2; have hfz36_3 := blk_frozen BK543.out 3; have hfz36_4 := blk_frozen BK543.out 4; have hfz36_5 := blk_frozen BK543.out 5; have hfz36_6 := blk_frozen BK543.out 6; have hfz36_7 := blk_frozen BK543.out 7; have hfz36_8 := blk_frozen BK543.out 8; have hfz36_9 := blk_frozen BK543.out 9; have hfz36_10 := blk_frozen BK543.out 10; have hfz36_11 := blk_frozen BK543.out 11; have hfz36_12 := blk_frozen BK543.out 12; have hfz36_13 := blk_frozen BK543.out 13) | ((with_reducible refine gate_builtin (b := .append) (xs := #[.tmp 18, .tmp 20]) rfl ?_); (try (refine gate_guard (by rfl) ?_; dsimp only)); at_builtin; refine Kd.R_append_rows (Kd.int .i64) (w0 := w) w.heap.size rfl (.tmp 18) (.tmp 20) 34 3 (.int .i64 0) 8 rfl Try.underlying34 info3 rfl (by decide) (by omega) v547 y546 l0_11 _ _ _ (fun _ => True) (fun _ => False) rfl rfl ?aO ?aR (fun _ _ h => h) (fun _ h => h.elim) ?aF ?aB ?aS ?aL ?_; (case aR => repeat (first | exact (Kd.C_below HR0_11.out HB.out) | (with_reducible refine Kd.C_alloc ?_ _) | (with_reducible refine Kd.C_drewN ?_ _) | (with_reducible refine Kd.C_drew ?_))); (case aB => exact (bl HB)); (case aF => exact (fun _ _ => trivial)); (case aO => exact (by (with_reducible repeat (first | apply Kd.R_alloc | apply Kd.R_drewN | apply Kd.R_drew)); exact HO548.out)); (case aS => exact (below_size (bl HB))); (case aL => have := LMc16.out; omega); intro v550 w37 ho hb hg hat; rw [← Ny549.out] at ho; have n0_ := Aside0.mk (blk_grown (g := gb543) (o := .cells #[.int .i64 a0_0, .int .i64 a0_1, .int .i64 a0_2, .int .i64 a0_3, .int .i64 a0_4, .int .i64 a0_5, .int .i64 a0_6, .int .i64 a0_7, .int .i64 a0_8, .int .i64 a0_9, .int .i64 a0_10, .slice A0_11 l0_11.length c0_11, .int .i64 a0_12, .slice A0_13 l0_13.length c0_13] 59 (0, 0)) (by (with_reducible repeat (first | refine blk_drewN ?_ _ | refine blk_drew ?_ | refine blk_alloc ?_ _)); exact BK543.out) hg (Kd.R_ne HO548.out BK543.out (by decide))); have n1_ := Aside0.mk (hb); have n2_ := Aside0.mk (ho); clear BK543; clear HB; clear HO548; have BK543 := n0_; have HB := n1_; have HO551 := n2_; clear n0_ n1_ n2_; clear ho hb hg hat; obtain ⟨Ao38, co38, eo38⟩ := Kd.R_slice HO551.out; subst eo38; have p552 : 0 ≤ ((ji18) : Int) := of_decide_eq_true (by first | (with_reducible assumption) | assumption); have q552 : (ji18) < (y549.length : Int) := of_decide_eq_true (by first | (with_reducible assumption) | assumption); obtain ⟨ad552, e552, hx552_0⟩ := Kd.at_int (Kd.R_reads' HO551.out).2.2 (ji18) p552 q552; cases e552; replace p552 := eq_true p552; replace q552 := eq_true q552; have p554 : 0 ≤ ((ji18) : Int) := of_decide_eq_true (by first | (with_reducible assumption) | assumption); have q554 : (ji18) < (y549.length : Int) := of_decide_eq_true (by first | (with_reducible assumption) | assumption); obtain ⟨ad554, e554, hx554_0⟩ := Kd.at_int (Kd.R_reads' HO551.out).2.2 (ji18) p554 q554; obtain rfl : ad552 = ad554 := (by injection e554); replace p554 := eq_true p554; replace q554 := eq_true q554; have p29 : 0 ≤ ((ji18) : Int) := of_decide_eq_true (by first | (with_reducible assumption) | assumption); have q29 : ((ji18) : Int) < ((y549.length : Int) : Int) := of_decide_eq_true (by first | (with_reducible assumption) | assumption); obtain ⟨go29, co29, eo29, gb29, gl29, cl29, HG29⟩ := Kd.R_form HO551.out (by omega); (first | cases eo29 | (injection eo29 with ea_ en_ ec_; (first | subst ea_ | (injection ea_ with ea_; subst ea_)); subst ec_; clear en_)); have GB29 := Aside0.mk gb29; have GG29 := Aside0.mk HG29; clear gb29 gl29 HG29; (first | simp only [add_plain] at hx552_0 | skip); (first | simp only [add_plain] at hx554_0 | skip); obtain ⟨hx29_0, hf29_0⟩ := Kd.R_celln 0 HO551.out ((ji18) : Int) p29 q29; replace p29 := eq_true p29; replace q29 := eq_true q29; obtain ⟨hy39_, hz39_⟩ := Kd.R_celln 0 HO551.out ((ji18) : Int) (of_decide_eq_true (by first | (with_reducible assumption) | assumption)) (of_decide_eq_true (by first | (with_reducible assumption) | assumption)); have HP39 := Kd.R_putg HO551.out ((ji18) : Int) (wrap64 ((rd y549 (ji18)) + (wrap64 (a2))))) | ((with_reducible refine gate_store (t := 3) (p := 42) rfl ?_); refine store_event (t := 3) (p := 42) (v := ?vo_w40) (w1 := (w37.setCell ⟨go29, ((ji18) : Int).toNat, none⟩ (.int .i64 (wrap64 ((rd y549 (ji18)) + (wrap64 (a2))))))) ?hg ?ho ?hn ?hr ?_; (case ho => rfl); (case hg => rfl); (case hn => rfl); (case hr => first | (go_simp; done) | (go_simp; rfl)); intro w40 hw; have hg : w37.grownBy w40 (some go29) := (by rw [hw]; exact HP39.2); have hp_ : Kd.R (Kd.int .i64) 3 w40 w.heap.size (fun _ => True) (.slice (some ⟨go29, 0, none⟩) y549.length co38) y555 := (by rw [hw, Ny555.out]; exact HP39.1); clear HP39; have n0_ := Aside0.mk (blk_grown (g := gb543) (o := .cells #[.int .i64 a0_0, .int .i64 a0_1, .int .i64 a0_2, .int .i64 a0_3, .int .i64 a0_4, .int .i64 a0_5, .int .i64 a0_6, .int .i64 a0_7, .int .i64 a0_8, .int .i64 a0_9, .int .i64 a0_10, .slice A0_11 l0_11.length c0_11, .int .i64 a0_12, .slice A0_13 l0_13.length c0_13] 59 (0, 0)) (by (with_reducible repeat (first | refine blk_drewN ?_ _ | refine blk_drew ?_ | refine blk_alloc ?_ _)); exact BK543.out) hg (Kd.R_ne HO551.out BK543.out (by decide))); have n1_ := Aside0.mk (hp_); have n2_ := Aside0.mk ((by rw [hw]; exact below_set (HB.out) GB29.out : Below w.heap.size w w40)); clear BK543; clear HO551; clear HB; have BK543 := n0_; have HO551 := n1_; have HB := n2_; clear n0_ n1_ n2_; clear hg hw hp_))
          replace HO551 := Aside0.mk (Kd.R_drew HO551.out)
          replace BK543 := Aside0.mk (blk_drew BK543.out)
          replace HB := Aside0.mk (below_drew1 HB.out)
          refine start_ (n := 22) (S := fun w' => w'.cell? ⟨gb543, 0, none⟩ = some (.int .i64 a0_0) ∧ w'.cell? ⟨gb543, 1, none⟩ = some (.int .i64 a0_1) ∧ w'.cell? ⟨gb543, 2, none⟩ = some (.int .i64 a0_2) ∧ w'.cell? ⟨gb543, 3, none⟩ = some (.int .i64 a0_3) ∧ w'.cell? ⟨gb543, 4, none⟩ = some (.int .i64 a0_4) ∧ w'.cell? ⟨gb543, 5, none⟩ = some (.int .i64 a0_5) ∧ w'.cell? ⟨gb543, 6, none⟩ = some (.int .i64 a0_6) ∧ w'.cell? ⟨gb543, 7, none⟩ = some (.int .i64 a0_7) ∧ w'.cell? ⟨gb543, 8, none⟩ = some (.int .i64 a0_8) ∧ w'.cell? ⟨gb543, 9, none⟩ = some (.int .i64 a0_9) ∧ w'.cell? ⟨gb543, 10, none⟩ = some (.int .i64 a0_10) ∧ w'.cell? ⟨gb543, 11, none⟩ = some (.slice A0_11 l0_11.length c0_11) ∧ w'.cell? ⟨gb543, 12, none⟩ = some (.int .i64 a0_12) ∧ w'.cell? ⟨gb543, 13, none⟩ = some (.slice A0_13 l0_13.length c0_13)) (ds := []) (bq 22 0) (by kernel_rfl) rfl rfl ⟨(blk_cell BK543.out 0).trans rfl, (blk_cell BK543.out 1).trans rfl, (blk_cell BK543.out 2).trans rfl, (blk_cell BK543.out 3).trans rfl, (blk_cell BK543.out 4).trans rfl, (blk_cell BK543.out 5).trans rfl, (blk_cell BK543.out 6).trans rfl, (blk_cell BK543.out 7).trans rfl, (blk_cell BK543.out 8).trans rfl, (blk_cell BK543.out 9).trans rfl, (blk_cell BK543.out 10).trans rfl, (blk_cell BK543.out 11).trans rfl, (blk_cell BK543.out 12).trans rfl, (blk_cell BK543.out 13).trans rfl⟩ (fun hHeld => ?_); refine with_tabW revetmentlaw16_PrefixGrows.tab8 revetmentlaw16_PrefixGrows.bits8 (fun HT_ HW_ => ?_)
          generalize w40.drew = w41 at HO551 BK543 HB hHeld ⊢
          apply pu 0 43 (bq 22 1) HT_
          apply pu 2 45 (bq 22 5) HT_
          apply pu 3 46 (bq 22 13) HT_
          apply pu 5 48 (bq 22 45) HT_
          apply pu 8 51 (bq 22 301) HT_
          apply pu 10 53 (bq 22 1325) HT_
          apply pu 12 55 (bq 22 5421) HT_
          apply pu 14 57 (bq 22 21805) HT_
          apply tu 1 44 (bq 22 21807) HT_ HW_ hHeld
          apply tu 4 47 (bq 22 21823) HT_ HW_ hHeld
          apply tu 6 49 (bq 22 21887) HT_ HW_ hHeld
          apply tu 9 52 (bq 22 22399) HT_ HW_ hHeld
          apply tu 11 54 (bq 22 24447) HT_ HW_ hHeld
          apply tu 13 56 (bq 22 32639) HT_ HW_ hHeld
          apply tu 15 58 (bq 22 65407) HT_ HW_ hHeld
          refine one_ (i := 7) (N := some 50) (bq 22 65535) rfl rfl (one_of HT_.out (by kernel_rfl)) (by decide) (fun K hK => ?_)
          refine goes_ Try.func48 (by kernel_rfl) rfl #[.agg #[.int .i64 a0_0, .int .i64 a0_1, .int .i64 a0_2, .int .i64 a0_3, .int .i64 a0_4, .int .i64 a0_5, .int .i64 a0_6, .int .i64 a0_7, .int .i64 a0_8, .int .i64 a0_9, .int .i64 a0_10], .slice (some ⟨go29, 0, none⟩) y555.length co38, .int .i64 a0_12, .slice A0_13 l0_13.length c0_13] (by rfl) rfl rfl (by (try simp only [List.map_toArray, List.map_cons, List.map_nil]); first | done | (rw [show y555.length = y549.length from (Kd.R_reads' HO551.out).1.symm] <;> rfl) | rfl | (simp only [List.length_drop, List.length_take]; rfl)) ?_
          with_reducible refine (prefix_Of.calls a0_0 a0_1 a0_2 a0_3 a0_4 a0_5 a0_6 a0_7 a0_8 a0_9 a0_10 _ _ y555 a0_12 _ _ l0_13 t556 _ ?side1 ?side2 ?side3 ?side4 A30.out).mono ?_
          (case side1 => repeat (first | exact (Kd.R_reads' HO551.out).2.2 | (with_reducible refine Kd.C_alloc ?_ _) | (with_reducible refine Kd.C_drewN ?_ _) | (with_reducible refine Kd.C_drew ?_)))
          (case side2 => rw [show y555.length = y549.length from (Kd.R_reads' HO551.out).1.symm]; exact (Kd.R_reads' HO551.out).2.1)
          (case side3 => repeat (first | exact (Kd.C_below HR0_13.out HB.out) | (with_reducible refine Kd.C_alloc ?_ _) | (with_reducible refine Kd.C_drewN ?_ _) | (with_reducible refine Kd.C_drew ?_)))
          (case side4 => exact HC0_13.out)
          rintro e w42 ⟨rfl, hb⟩
          refine ⟨_, rfl, ?_⟩
          replace HO551 := Aside0.mk (Kd.R_below (by (with_reducible repeat (first | apply Kd.R_alloc | apply Kd.R_drewN | apply Kd.R_drew)); exact HO551.out) hb)
          replace BK543 := bkb BK543 hb
          replace HB := bst HB hb
          try clear hb; try clear hb2; try clear hk; try clear hi
          refine hK.out _ _ sc (fun hHeld => ?_)
          clear hK K
          apply nm 0
          refine one_ (i := 16) (N := some 59) (bq 22 131071) rfl rfl (one_of HT_.out (by kernel_rfl)) (by decide) (fun K hK => ?_)
          refine gs Try.func48 #[.agg #[.int .i64 a0_0, .int .i64 a0_1, .int .i64 a0_2, .int .i64 a0_3, .int .i64 a0_4, .int .i64 a0_5, .int .i64 a0_6, .int .i64 a0_7, .int .i64 a0_8, .int .i64 a0_9, .int .i64 a0_10], .slice A0_11 l0_11.length c0_11, .int .i64 a0_12, .slice A0_13 l0_13.length c0_13] ?_
          with_reducible refine (prefix_Of.calls a0_0 a0_1 a0_2 a0_3 a0_4 a0_5 a0_6 a0_7 a0_8 a0_9 a0_10 _ _ l0_11 a0_12 _ _ l0_13 t557 _ ?side1 ?side2 ?side3 ?side4 A31.out).mono ?_
          (case side1 => repeat (first | exact (Kd.C_below HR0_11.out HB.out) | (with_reducible refine Kd.C_alloc ?_ _) | (with_reducible refine Kd.C_drewN ?_ _) | (with_reducible refine Kd.C_drew ?_)))
          (case side2 => exact HC0_11.out)
          (case side3 => repeat (first | exact (Kd.C_below HR0_13.out HB.out) | (with_reducible refine Kd.C_alloc ?_ _) | (with_reducible refine Kd.C_drewN ?_ _) | (with_reducible refine Kd.C_drew ?_)))
          (case side4 => exact HC0_13.out)
          rintro e w43 ⟨rfl, hb⟩
          refine ⟨_, rfl, ?_⟩
          replace HO551 := Aside0.mk (Kd.R_below (by (with_reducible repeat (first | apply Kd.R_alloc | apply Kd.R_drewN | apply Kd.R_drew)); exact HO551.out) hb)
          replace BK543 := bkb BK543 hb
          replace HB := bst HB hb
          try clear hb; try clear hb2; try clear hk; try clear hi
          refine hK.out _ _ sc (fun hHeld => ?_)
          clear hK K
          apply nm 0
          apply pu 17 60 (bq 22 262143) HT_
          apply pu 18 61 (bq 22 524287) HT_
          refine one_ (i := 19) (N := some 62) (bq 22 1048575) rfl rfl (one_of HT_.out (by kernel_rfl)) (by decide) (fun K hK => ?_)
          refine gs Try.func47 #[] ?_
          with_reducible refine (revetmentlaw16_live.calls  true _ A33.out).mono ?_
          rintro e w44 ⟨rfl, hb⟩
          refine ⟨_, rfl, ?_⟩
          replace HO551 := Aside0.mk (Kd.R_below (by (with_reducible repeat (first | apply Kd.R_alloc | apply Kd.R_drewN | apply Kd.R_drew)); exact HO551.out) hb)
          replace BK543 := bkb BK543 hb
          replace HB := bst HB hb
          try clear hb; try clear hb2; try clear hk; try clear hi
          refine hK.out _ _ sc (fun hHeld => ?_)
          clear hK K
          apply nm 0
          apply pu 20 63 (bq 22 2097151) HT_
          apply pu 21 6 (bq 22 4194303) HT_
          refine done_ (done_of HT_.out (by kernel_rfl)) ?_
          try go_wp2
          go_ret
          exact ⟨by first | rfl | (simp [errW_none, errW_some] <;> rfl) | (simp only [← hji18]; first | rfl | (simp [errW_none, errW_some] <;> rfl)) | (simp [*, errW_none, errW_some] <;> rfl), bl HB⟩
         ·rw [if_neg c32] at H
          have c32b0 : decide (t557 ≤ t556) = false := decide_eq_false c32
          clear c32
          exact absurd H (by simp)
       ·rw [if_neg c20] at H
        exact absurd H (by simp)
      ·rw [if_neg c19] at H
       exact absurd H (by simp)
    ·rw [if_neg c16] at H
     exact absurd H (by simp)

end Go.Proofs.Ytekihhbihnmakaa.PA
