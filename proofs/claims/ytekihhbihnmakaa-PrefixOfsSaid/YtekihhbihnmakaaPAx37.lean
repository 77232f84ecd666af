/- Printed by the kit's print over stand-ins for some functions (xprint.py), with contracts of my own in their place. -/
import Derived.Test.YtekihhbihnmakaaPAx0
import Derived.Test.YtekihhbihnmakaaPAx9
import Derived.Test.YtekihhbihnmakaaPAx10
namespace Go.Proofs.Ytekihhbihnmakaa.PA
open Go.RowKit Go.Proofs.YtekihhbihnmakaaW.PrintWords Go.Proofs.YtekihhbihnmakaaW.PrintLast
set_option linter.unusedVariables false
set_option linter.unusedSimpArgs false

/-! ### revetmentref16_others: function 87 -/
def revetmentref16_others.l0 : Nat → List Int → Int → Int → Int → Int → Int → Int → Int → Int → Int → Int → Int → Int → Int → Int → Int → Int → Int → Int → Int → Option (Bool)
  | 0, _, _, _, _, _, _, _, _, _, _, _, _, _, _, _, _, _, _, _, _ => none
  | k + 1, x1, x2, x3, x11, x489000, x489001, x489002, x489003, x489004, x489005, x489006, x489007, x489008, x489009, x489010, x496000, x496001, x496002, x496003, x496004 => (revetmentref07_Row.f x489000 x489001 x489002 x489003 x489004 x489005 x489006 x489007 x489008 x489009 x489010).bind fun t496 => (if x11 < t496 then ((revetmentref07_Row.f x489000 x489001 x489002 x489003 x489004 x489005 x489006 x489007 x489008 x489009 x489010).bind fun t497 => ((revetmentref08_Of.f k x489000 x489001 x489002 x489003 x489004 x489005 x489006 x489007 x489008 x489009 x489010 (wrap64 ((wrap64 (x496000 * t497)) + x11))).bind fun bt498 => (if (wrap64 ((wrap64 (x496000 * t497)) + x11)) = x2 then (revetmentref16_others.l0 k x1 x2 x3 (wrap64 (x11 + 1)) x489000 x489001 x489002 x489003 x489004 x489005 x489006 x489007 x489008 x489009 x489010 x496000 x496001 x496002 x496003 x496004) else (if (wrap64 ((wrap64 (x496000 * t497)) + x11)) < x3 then (if bt498.2.2.1 = x496002 then (if 0 ≤ bt498.2.2.2.1 then (if bt498.2.2.2.1 < (x1.length : Int) then (if (rd x1 bt498.2.2.2.1) ≤ bt498.2.2.2.2.1 then (some false) else (revetmentref16_others.l0 k x1 x2 x3 (wrap64 (x11 + 1)) x489000 x489001 x489002 x489003 x489004 x489005 x489006 x489007 x489008 x489009 x489010 x496000 x496001 x496002 x496003 x496004)) else (none)) else (none)) else (revetmentref16_others.l0 k x1 x2 x3 (wrap64 (x11 + 1)) x489000 x489001 x489002 x489003 x489004 x489005 x489006 x489007 x489008 x489009 x489010 x496000 x496001 x496002 x496003 x496004)) else (revetmentref16_others.l0 k x1 x2 x3 (wrap64 (x11 + 1)) x489000 x489001 x489002 x489003 x489004 x489005 x489006 x489007 x489008 x489009 x489010 x496000 x496001 x496002 x496003 x496004))))) else (some true))
def revetmentref16_others.f (k : Nat) (a0_0 : Int) (a0_1 : Int) (a0_2 : Int) (a0_3 : Int) (a0_4 : Int) (a0_5 : Int) (a0_6 : Int) (a0_7 : Int) (a0_8 : Int) (a0_9 : Int) (a0_10 : Int) (l1 : List Int) (a2 : Int) (a3 : Int) : Option (Bool) := (revetmentref08_Of.f k a0_0 a0_1 a0_2 a0_3 a0_4 a0_5 a0_6 a0_7 a0_8 a0_9 a0_10 a2).bind fun bt489 => (revetmentref16_others.l0 k l1 a2 a3 0 a0_0 a0_1 a0_2 a0_3 a0_4 a0_5 a0_6 a0_7 a0_8 a0_9 a0_10 bt489.1 bt489.2.1 bt489.2.2.1 bt489.2.2.2.1 bt489.2.2.2.2.1)
theorem revetmentref16_others.mono_l : ∀ k, (∀ y0 y1 y2 y3 y4 y5 y6 y7 y8 y9 y10 y11 y12 y13 y14 y15 y16 y17 y18 y19, LeO (revetmentref16_others.l0 k y0 y1 y2 y3 y4 y5 y6 y7 y8 y9 y10 y11 y12 y13 y14 y15 y16 y17 y18 y19) (revetmentref16_others.l0 (k + 1) y0 y1 y2 y3 y4 y5 y6 y7 y8 y9 y10 y11 y12 y13 y14 y15 y16 y17 y18 y19))
 | 0 => fun _ _ _ _ _ _ _ _ _ _ _ _ _ _ _ _ _ _ _ _ r h => by simp [revetmentref16_others.l0] at h
 | k + 1 => by
  have ih0 := revetmentref16_others.mono_l k
  ·intro y0 y1 y2 y3 y4 y5 y6 y7 y8 y9 y10 y11 y12 y13 y14 y15 y16 y17 y18 y19
   unfold revetmentref16_others.l0
   repeat' first
   | (with_reducible exact ih0 _ _ _ _ _ _ _ _ _ _ _ _ _ _ _ _ _ _ _ _)
   | (with_reducible exact revetmentref08_Of.mono _ _ _ _ _ _ _ _ _ _ _ _ _)
   | (with_reducible exact LeO.refl _)
   | (with_reducible exact LeO.none _)
   | (with_reducible refine LeO.ite ?_ ?_)
   | (with_reducible refine LeO.bind ?_ (fun _ => ?_))
   | exact ih0 _ _ _ _ _ _ _ _ _ _ _ _ _ _ _ _ _ _ _ _
   | exact revetmentref08_Of.mono _ _ _ _ _ _ _ _ _ _ _ _ _
   | exact LeO.none _
   | refine LeO.ite ?_ ?_
   | refine LeO.bind ?_ (fun _ => ?_)
theorem revetmentref16_others.mono : ∀ a0 a1 a2 a3 a4 a5 a6 a7 a8 a9 a10 a11 a12 a13 k, LeO (revetmentref16_others.f k a0 a1 a2 a3 a4 a5 a6 a7 a8 a9 a10 a11 a12 a13) (revetmentref16_others.f (k + 1) a0 a1 a2 a3 a4 a5 a6 a7 a8 a9 a10 a11 a12 a13) := by
 intro a0 a1 a2 a3 a4 a5 a6 a7 a8 a9 a10 a11 a12 a13 k
 have ih0 := revetmentref16_others.mono_l k
 unfold revetmentref16_others.f
 repeat' first
   | (with_reducible exact ih0 _ _ _ _ _ _ _ _ _ _ _ _ _ _ _ _ _ _ _ _)
   | (with_reducible exact revetmentref08_Of.mono _ _ _ _ _ _ _ _ _ _ _ _ _)
   | (with_reducible exact LeO.refl _)
   | (with_reducible exact LeO.none _)
   | (with_reducible refine LeO.ite ?_ ?_)
   | (with_reducible refine LeO.bind ?_ (fun _ => ?_))
   | exact ih0 _ _ _ _ _ _ _ _ _ _ _ _ _ _ _ _ _ _ _ _
   | exact revetmentref08_Of.mono _ _ _ _ _ _ _ _ _ _ _ _ _
   | exact LeO.none _
   | refine LeO.ite ?_ ?_
   | refine LeO.bind ?_ (fun _ => ?_)
def revetmentref16_others.T5 : Bool × List (List Nat × List Nat) := (true, [([], []), ([0], [0]), ([], []), ([2], [2]), ([1, 3], [1, 3]), ([], []), ([4, 5], [4, 5]), ([6, 3, 0, 1, 2, 3, 4, 5, 6], [6])])
def revetmentref16_others.B5 : List Nat := [0, 1, 0, 4, 15, 0, 63, 127]
theorem revetmentref16_others.tab5 : rtab .any (opsOf Try.f87 5) = revetmentref16_others.T5 := by kernel_rfl
theorem revetmentref16_others.bits5 : waitsOk revetmentref16_others.T5.2 revetmentref16_others.B5 = true := by kernel_rfl
def revetmentref16_others.T7 : Bool × List (List Nat × List Nat) := (true, [([], []), ([], []), ([0, 1], [0, 1]), ([2], [2]), ([3], [3]), ([3], [3]), ([4, 5, 3], [3, 4, 5]), ([3, 6], [3, 6]), ([7, 3], [7]), ([8], [8]), ([9, 8], [8, 9]), ([8], [8]), ([11, 8], [8, 11]), ([10, 12, 8], [8, 10, 12]), ([8, 13], [8, 13]), ([14, 8], [14]), ([15], [15]), ([15], [15]), ([17, 15], [15, 17]), ([16, 18, 15], [15, 16, 18]), ([19, 15], [15, 19]), ([15], [15]), ([21, 15], [15, 21]), ([20, 22, 15], [15, 20, 22]), ([15, 23], [15, 23])])
def revetmentref16_others.B7 : List Nat := [0, 0, 3, 7, 15, 15, 63, 127, 255, 511, 1023, 511, 2559, 8191, 16383, 32767, 65535, 65535, 196607, 524287, 1048575, 65535, 2162687, 8388607, 16777215]
theorem revetmentref16_others.tab7 : rtab .any (opsOf Try.f87 7) = revetmentref16_others.T7 := by kernel_rfl
theorem revetmentref16_others.bits7 : waitsOk revetmentref16_others.T7.2 revetmentref16_others.B7 = true := by kernel_rfl
set_option maxHeartbeats 8000000 in
set_option maxRecDepth 100000 in
theorem revetmentref16_others.calls (k : Nat) (a0_0 : Int) (a0_1 : Int) (a0_2 : Int) (a0_3 : Int) (a0_4 : Int) (a0_5 : Int) (a0_6 : Int) (a0_7 : Int) (a0_8 : Int) (a0_9 : Int) (a0_10 : Int) (A1 : Option Addr) (c1 : Nat) (l1 : List Int) (a2 : Int) (a3 : Int) (r : Bool) (w : World) (hr1 : Kd.C (Kd.int .i64) w A1 l1.length l1) (hc1 : l1.length ≤ c1) (h : revetmentref16_others.f k a0_0 a0_1 a0_2 a0_3 a0_4 a0_5 a0_6 a0_7 a0_8 a0_9 a0_10 l1 a2 a3 = some r) :
  Calls Try.prog 87 #[.agg #[.int .i64 a0_0, .int .i64 a0_1, .int .i64 a0_2, .int .i64 a0_3, .int .i64 a0_4, .int .i64 a0_5, .int .i64 a0_6, .int .i64 a0_7, .int .i64 a0_8, .int .i64 a0_9, .int .i64 a0_10], .slice A1 l1.length c1, .int .i64 a2, .int .i64 a3] w fun e w' => e = .returned (.bool r) ∧ Below w.heap.size w w' := by
 have hu23 := Try.underlying23
 have hu25 := Try.underlying25
 have HR1 := Aside0.mk hr1
 have HC1 := Aside0.mk hc1
 clear hr1 hc1
 have HB := Aside0.mk (Below.refl w.heap.size w)
 have H : ((revetmentref08_Of.f k a0_0 a0_1 a0_2 a0_3 a0_4 a0_5 a0_6 a0_7 a0_8 a0_9 a0_10 a2).bind fun bt489 => (revetmentref16_others.l0 k l1 a2 a3 0 a0_0 a0_1 a0_2 a0_3 a0_4 a0_5 a0_6 a0_7 a0_8 a0_9 a0_10 bt489.1 bt489.2.1 bt489.2.2.1 bt489.2.2.2.1 bt489.2.2.2.2.1)) = some r := h
 clear h
 replace H := Option.bind_eq_some_iff.mp H
 obtain ⟨⟨t489, t490, t491, t492, t493, t494⟩, A50, H⟩ := H
 replace H : (revetmentref16_others.l0 k l1 a2 a3 0 a0_0 a0_1 a0_2 a0_3 a0_4 a0_5 a0_6 a0_7 a0_8 a0_9 a0_10 t489 t490 t491 t492 t493) = some r := H
 have A5 := Aside0.mk A50
 clear A50
 have H' := Aside0.mk H
 clear H
 go_enter Try.func87, Try.ntmps87
 go_wp2_with (first | ((with_reducible refine gate_dst (N := 4) rfl ?_); refine box_event ?hg (N := 4) ?hd (cs := #[.int .i64 a0_0, .int .i64 a0_1, .int .i64 a0_2, .int .i64 a0_3, .int .i64 a0_4, .int .i64 a0_5, .int .i64 a0_6, .int .i64 a0_7, .int .i64 a0_8, .int .i64 a0_9, .int .i64 a0_10]) (t := 23) ?hr ?_; (case hd => rfl); (case hg => rfl); (case hr => first | (go_simp; done) | (go_simp; rfl)); intro gb488 hg w6 hbox hb; have n0_ := bst HB hb; have n1_ := Aside0.mk (hbox); have n2_ := Aside0.mk ((by rw [hg]; exact (below_size (bl HB)) : w.heap.size ≤ gb488)); have n3_ := Aside0.mk ((by rw [hg]; exact (below_size (bl HB)) : w.heap.size ≤ gb488)); clear HB; have HB := n0_; have BK488 := n1_; have GW488 := n2_; have GE488 := n3_; clear n0_ n1_ n2_ n3_; clear hb hbox hg; obtain ⟨hcz7_0, hcz7_1, hcz7_2, hcz7_3, hcz7_4, hcz7_5, hcz7_6, hcz7_7, hcz7_8, hcz7_9, hcz7_10⟩ := cz11 BK488.out) | ((with_reducible refine gate_callee (f := 18) rfl ?_); refine goesL_ (some 18) rfl rfl Try.func18 (by kernel_rfl) rfl #[.agg #[.int .i64 a0_0, .int .i64 a0_1, .int .i64 a0_2, .int .i64 a0_3, .int .i64 a0_4, .int .i64 a0_5, .int .i64 a0_6, .int .i64 a0_7, .int .i64 a0_8, .int .i64 a0_9, .int .i64 a0_10], .int .i64 a2] rfl (by (try simp only [List.map_toArray, List.map_cons, List.map_nil]); first | done | rfl | (simp only [List.length_drop, List.length_take]; rfl)) ?_; (with_reducible refine (revetmentref08_Of.calls k a0_0 a0_1 a0_2 a0_3 a0_4 a0_5 a0_6 a0_7 a0_8 a0_9 a0_10 a2 t489 t490 t491 t492 t493 t494 _ A5.out).mono ?_); rintro e w8 ⟨rfl, hb⟩; refine ⟨_, rfl, ?_⟩; have n0_ := bkb BK488 hb; have n1_ := bst HB hb; clear BK488; clear HB; have BK488 := n0_; have HB := n1_; clear n0_ n1_; (try clear hb); (try clear hb2); (try clear hk); (try clear hi)) | ((with_reducible refine gate_dst (N := 9) rfl ?_); refine box_event ?hg (N := 9) ?hd (cs := #[.int .i64 0, .int .i64 0, .int .i64 0, .int .i64 0, .int .i64 0]) (t := 25) ?hr ?_; (case hd => rfl); (case hg => rfl); (case hr => first | (go_simp; done) | (go_simp; rfl)); intro gb495 hg w9 hbox hb; have n0_ := bkb BK488 hb; have n1_ := bst HB hb; have n2_ := Aside0.mk (hbox); have n3_ := Aside0.mk ((by rw [hg]; exact (below_size (bl HB)) : w.heap.size ≤ gb495)); have n4_ := Aside0.mk ((by rw [hg]; exact (below_size (bl HB)) : w.heap.size ≤ gb495)); have n5_ := Aside0.mk ((by rw [hg]; exact Nat.ne_of_lt (blk_lt (g := gb488) (o := .cells #[.int .i64 a0_0, .int .i64 a0_1, .int .i64 a0_2, .int .i64 a0_3, .int .i64 a0_4, .int .i64 a0_5, .int .i64 a0_6, .int .i64 a0_7, .int .i64 a0_8, .int .i64 a0_9, .int .i64 a0_10] 23 (0, 0)) (by (with_reducible repeat (first | refine blk_drewN ?_ _ | refine blk_drew ?_ | refine blk_alloc ?_ _)); exact BK488.out)) : gb488 ≠ gb495)); have n6_ := Aside0.mk ((by rw [hg]; exact Nat.ne_of_gt (blk_lt (g := gb488) (o := .cells #[.int .i64 a0_0, .int .i64 a0_1, .int .i64 a0_2, .int .i64 a0_3, .int .i64 a0_4, .int .i64 a0_5, .int .i64 a0_6, .int .i64 a0_7, .int .i64 a0_8, .int .i64 a0_9, .int .i64 a0_10] 23 (0, 0)) (by (with_reducible repeat (first | refine blk_drewN ?_ _ | refine blk_drew ?_ | refine blk_alloc ?_ _)); exact BK488.out)) : gb495 ≠ gb488)); clear BK488; clear HB; have BK488 := n0_; have HB := n1_; have BK495 := n2_; have GW495 := n3_; have GE495 := n4_; have NB488_495 := n5_; have NB495_488 := n6_; clear n0_ n1_ n2_ n3_ n4_ n5_ n6_; clear hb hbox hg; have hnb10 := NB495_488.out; have hnc10 := NB488_495.out; obtain ⟨hcz11_0, hcz11_1, hcz11_2, hcz11_3, hcz11_4⟩ := cz5 BK495.out; obtain ⟨hfz11_0, hfz11_1, hfz11_2, hfz11_3, hfz11_4⟩ := fz5 BK495.out))
 go_loopg [11] k (fun kq v11 w' => ∃ (x11_1 : Int), v11 = .int .i64 x11_1 ∧ Aside0 (revetmentref16_others.l0 kq l1 a2 a3 x11_1 a0_0 a0_1 a0_2 a0_3 a0_4 a0_5 a0_6 a0_7 a0_8 a0_9 a0_10 t489 t490 t491 t492 t493 = some r) ∧ Aside0 (kq ≤ k) ∧ Aside0 (w'.heap[gb488]? = some (.cells #[.int .i64 a0_0, .int .i64 a0_1, .int .i64 a0_2, .int .i64 a0_3, .int .i64 a0_4, .int .i64 a0_5, .int .i64 a0_6, .int .i64 a0_7, .int .i64 a0_8, .int .i64 a0_9, .int .i64 a0_10] 23 (0, 0))) ∧ Aside0 (w'.heap[gb495]? = some (.cells #[.int .i64 t489, .int .i64 t490, .int .i64 t491, .int .i64 t492, .int .i64 t493] 25 (0, 0))) ∧ Aside0 (Below w.heap.size w w'))
 case atStart => exact ⟨(0), (by first | rfl | (simp; done) | (simp [*]; done)), H', ⟨Nat.le_refl _⟩, ⟨by (with_reducible repeat (first | refine blk_drewN ?_ _ | refine blk_drew ?_ | refine blk_alloc ?_ _)); refine blk_far ?_ NB488_495.out _; (with_reducible repeat (first | refine blk_drewN ?_ _ | refine blk_drew ?_ | refine blk_alloc ?_ _)); refine blk_far ?_ NB488_495.out _; (with_reducible repeat (first | refine blk_drewN ?_ _ | refine blk_drew ?_ | refine blk_alloc ?_ _)); refine blk_far ?_ NB488_495.out _; (with_reducible repeat (first | refine blk_drewN ?_ _ | refine blk_drew ?_ | refine blk_alloc ?_ _)); refine blk_far ?_ NB488_495.out _; (with_reducible repeat (first | refine blk_drewN ?_ _ | refine blk_drew ?_ | refine blk_alloc ?_ _)); refine blk_far ?_ NB488_495.out _; (with_reducible repeat (first | refine blk_drewN ?_ _ | refine blk_drew ?_ | refine blk_alloc ?_ _)); exact BK488.out⟩, ⟨by (with_reducible repeat (first | refine blk_drewN ?_ _ | refine blk_drew ?_ | refine blk_alloc ?_ _)); refine blk_put (cs := #[.int .i64 t489, .int .i64 t490, .int .i64 t491, .int .i64 t492, .int .i64 0]) ?_ 4 _ rfl; (with_reducible repeat (first | refine blk_drewN ?_ _ | refine blk_drew ?_ | refine blk_alloc ?_ _)); refine blk_put (cs := #[.int .i64 t489, .int .i64 t490, .int .i64 t491, .int .i64 0, .int .i64 0]) ?_ 3 _ rfl; (with_reducible repeat (first | refine blk_drewN ?_ _ | refine blk_drew ?_ | refine blk_alloc ?_ _)); refine blk_put (cs := #[.int .i64 t489, .int .i64 t490, .int .i64 0, .int .i64 0, .int .i64 0]) ?_ 2 _ rfl; (with_reducible repeat (first | refine blk_drewN ?_ _ | refine blk_drew ?_ | refine blk_alloc ?_ _)); refine blk_put (cs := #[.int .i64 t489, .int .i64 0, .int .i64 0, .int .i64 0, .int .i64 0]) ?_ 1 _ rfl; (with_reducible repeat (first | refine blk_drewN ?_ _ | refine blk_drew ?_ | refine blk_alloc ?_ _)); refine blk_put (cs := #[.int .i64 0, .int .i64 0, .int .i64 0, .int .i64 0, .int .i64 0]) ?_ 0 _ rfl; (with_reducible repeat (first | refine blk_drewN ?_ _ | refine blk_drew ?_ | refine blk_alloc ?_ _)); exact BK495.out⟩, ⟨bl HB⟩⟩
 case round =>
  clear H'
  try clear c1
  try clear p2
  try clear c8
  try clear c10
  (try clear hcz11_0 hcz11_1 hcz11_2 hcz11_3 hcz11_4)
  (try clear hcz7_0 hcz7_1)
  (try clear hcz7_10)
  (try clear hcz7_2 hcz7_3 hcz7_4 hcz7_5 hcz7_6 hcz7_7 hcz7_8 hcz7_9)
  (try clear hfz11_0 hfz11_1 hfz11_2 hfz11_3 hfz11_4)
  (try clear hfz7_0 hfz7_1)
  (try clear hfz7_10)
  (try clear hfz7_2 hfz7_3 hfz7_4 hfz7_5 hfz7_6 hfz7_7 hfz7_8 hfz7_9)
  obtain ⟨x11_1, rfl, HA, HK1, BK488, BK495, HB⟩ := hrel
  cases gk with
  | zero => exact absurd HA.out (by simp [revetmentref16_others.l0])
  | succ k1 =>
   have H := HA.out
   clear HA
   simp only [revetmentref16_others.l0] at H
   replace H := Option.bind_eq_some_iff.mp H
   obtain ⟨t496, A120, H⟩ := H
   replace H : (if x11_1 < t496 then ((revetmentref07_Row.f a0_0 a0_1 a0_2 a0_3 a0_4 a0_5 a0_6 a0_7 a0_8 a0_9 a0_10).bind fun t497 => ((revetmentref08_Of.f k1 a0_0 a0_1 a0_2 a0_3 a0_4 a0_5 a0_6 a0_7 a0_8 a0_9 a0_10 (wrap64 ((wrap64 (t489 * t497)) + x11_1))).bind fun bt498 => (if (wrap64 ((wrap64 (t489 * t497)) + x11_1)) = a2 then (revetmentref16_others.l0 k1 l1 a2 a3 (wrap64 (x11_1 + 1)) a0_0 a0_1 a0_2 a0_3 a0_4 a0_5 a0_6 a0_7 a0_8 a0_9 a0_10 t489 t490 t491 t492 t493) else (if (wrap64 ((wrap64 (t489 * t497)) + x11_1)) < a3 then (if bt498.2.2.1 = t491 then (if 0 ≤ bt498.2.2.2.1 then (if bt498.2.2.2.1 < (l1.length : Int) then (if (rd l1 bt498.2.2.2.1) ≤ bt498.2.2.2.2.1 then (some false) else (revetmentref16_others.l0 k1 l1 a2 a3 (wrap64 (x11_1 + 1)) a0_0 a0_1 a0_2 a0_3 a0_4 a0_5 a0_6 a0_7 a0_8 a0_9 a0_10 t489 t490 t491 t492 t493)) else (none)) else (none)) else (revetmentref16_others.l0 k1 l1 a2 a3 (wrap64 (x11_1 + 1)) a0_0 a0_1 a0_2 a0_3 a0_4 a0_5 a0_6 a0_7 a0_8 a0_9 a0_10 t489 t490 t491 t492 t493)) else (revetmentref16_others.l0 k1 l1 a2 a3 (wrap64 (x11_1 + 1)) a0_0 a0_1 a0_2 a0_3 a0_4 a0_5 a0_6 a0_7 a0_8 a0_9 a0_10 t489 t490 t491 t492 t493))))) else (some true)) = some r := H
   have A12 := Aside0.mk A120
   clear A120
   by_cases c13 : x11_1 < t496
   ·rw [if_pos c13] at H
    have c13b0 : decide (x11_1 < t496) = true := decide_eq_true c13
    clear c13
    replace H := Option.bind_eq_some_iff.mp H
    obtain ⟨t497, A140, H⟩ := H
    replace H : ((revetmentref08_Of.f k1 a0_0 a0_1 a0_2 a0_3 a0_4 a0_5 a0_6 a0_7 a0_8 a0_9 a0_10 (wrap64 ((wrap64 (t489 * t497)) + x11_1))).bind fun bt498 => (if (wrap64 ((wrap64 (t489 * t497)) + x11_1)) = a2 then (revetmentref16_others.l0 k1 l1 a2 a3 (wrap64 (x11_1 + 1)) a0_0 a0_1 a0_2 a0_3 a0_4 a0_5 a0_6 a0_7 a0_8 a0_9 a0_10 t489 t490 t491 t492 t493) else (if (wrap64 ((wrap64 (t489 * t497)) + x11_1)) < a3 then (if bt498.2.2.1 = t491 then (if 0 ≤ bt498.2.2.2.1 then (if bt498.2.2.2.1 < (l1.length : Int) then (if (rd l1 bt498.2.2.2.1) ≤ bt498.2.2.2.2.1 then (some false) else (revetmentref16_others.l0 k1 l1 a2 a3 (wrap64 (x11_1 + 1)) a0_0 a0_1 a0_2 a0_3 a0_4 a0_5 a0_6 a0_7 a0_8 a0_9 a0_10 t489 t490 t491 t492 t493)) else (none)) else (none)) else (revetmentref16_others.l0 k1 l1 a2 a3 (wrap64 (x11_1 + 1)) a0_0 a0_1 a0_2 a0_3 a0_4 a0_5 a0_6 a0_7 a0_8 a0_9 a0_10 t489 t490 t491 t492 t493)) else (revetmentref16_others.l0 k1 l1 a2 a3 (wrap64 (x11_1 + 1)) a0_0 a0_1 a0_2 a0_3 a0_4 a0_5 a0_6 a0_7 a0_8 a0_9 a0_10 t489 t490 t491 t492 t493)))) = some r := H
    have A14 := Aside0.mk A140
    clear A140
    replace H := Option.bind_eq_some_iff.mp H
    obtain ⟨⟨t498, t499, t500, t501, t502, t503⟩, A150, H⟩ := H
    replace H : (if (wrap64 ((wrap64 (t489 * t497)) + x11_1)) = a2 then (revetmentref16_others.l0 k1 l1 a2 a3 (wrap64 (x11_1 + 1)) a0_0 a0_1 a0_2 a0_3 a0_4 a0_5 a0_6 a0_7 a0_8 a0_9 a0_10 t489 t490 t491 t492 t493) else (if (wrap64 ((wrap64 (t489 * t497)) + x11_1)) < a3 then (if t500 = t491 then (if 0 ≤ t501 then (if t501 < (l1.length : Int) then (if (rd l1 t501) ≤ t502 then (some false) else (revetmentref16_others.l0 k1 l1 a2 a3 (wrap64 (x11_1 + 1)) a0_0 a0_1 a0_2 a0_3 a0_4 a0_5 a0_6 a0_7 a0_8 a0_9 a0_10 t489 t490 t491 t492 t493)) else (none)) else (none)) else (revetmentref16_others.l0 k1 l1 a2 a3 (wrap64 (x11_1 + 1)) a0_0 a0_1 a0_2 a0_3 a0_4 a0_5 a0_6 a0_7 a0_8 a0_9 a0_10 t489 t490 t491 t492 t493)) else (revetmentref16_others.l0 k1 l1 a2 a3 (wrap64 (x11_1 + 1)) a0_0 a0_1 a0_2 a0_3 a0_4 a0_5 a0_6 a0_7 a0_8 a0_9 a0_10 t489 t490 t491 t492 t493))) = some r := H
    have A15 := Aside0.mk A150
    clear A150
    by_cases c16 : (wrap64 ((wrap64 (t489 * t497)) + x11_1)) = a2
    ·rw [if_pos c16] at H
     have c16b0 : ((wrap64 ((wrap64 (t489 * t497)) + x11_1)) == a2) = true := beq_iff_eq.mpr c16
     have c16b1 : ((wrap64 ((wrap64 (t489 * t497)) + x11_1)) != a2) = false := bne_eq_false_iff_eq.mpr c16
     clear c16
     have H' := Aside0.mk H
     clear H
     have hnb17 := NB488_495.out
     have hnc17 := NB495_488.out
     obtain ⟨hcz18_0, hcz18_1, hcz18_2, hcz18_3, hcz18_4, hcz18_5, hcz18_6, hcz18_7, hcz18_8, hcz18_9, hcz18_10⟩ := cz11 BK488.out
     try go_wp2_with (first | ((with_reducible refine gate_callee (f := 59) rfl ?_); refine goesL_ (some 23) rfl rfl Try.func59 (by kernel_rfl) rfl #[.agg #[.int .i64 a0_0, .int .i64 a0_1, .int .i64 a0_2, .int .i64 a0_3, .int .i64 a0_4, .int .i64 a0_5, .int .i64 a0_6, .int .i64 a0_7, .int .i64 a0_8, .int .i64 a0_9, .int .i64 a0_10]] rfl (by (try simp only [List.map_toArray, List.map_cons, List.map_nil]); first | done | rfl | (simp only [List.length_drop, List.length_take]; rfl)) ?_; (with_reducible refine (revetmentref07_Row.calls a0_0 a0_1 a0_2 a0_3 a0_4 a0_5 a0_6 a0_7 a0_8 a0_9 a0_10 t496 _ A12.out).mono ?_); rintro e w19 ⟨rfl, hb⟩; refine ⟨_, rfl, ?_⟩; have n0_ := bkb BK488 hb; have n1_ := bkb BK495 hb; have n2_ := bst HB hb; clear BK488; clear BK495; clear HB; have BK488 := n0_; have BK495 := n1_; have HB := n2_; clear n0_ n1_ n2_; (try clear hb); (try clear hb2); (try clear hk); (try clear hi)))
     replace BK488 := Aside0.mk (blk_drew BK488.out)
     replace BK495 := Aside0.mk (blk_drew BK495.out)
     replace HB := Aside0.mk (below_drew1 HB.out)
     refine start_ (n := 8) (S := fun w' => w'.cell? ⟨gb495, 0, none⟩ = some (.int .i64 t489) ∧ w'.cell? ⟨gb495, 1, none⟩ = some (.int .i64 t490) ∧ w'.cell? ⟨gb495, 2, none⟩ = some (.int .i64 t491) ∧ w'.cell? ⟨gb495, 3, none⟩ = some (.int .i64 t492) ∧ w'.cell? ⟨gb495, 4, none⟩ = some (.int .i64 t493) ∧ w'.cell? ⟨gb488, 0, none⟩ = some (.int .i64 a0_0) ∧ w'.cell? ⟨gb488, 1, none⟩ = some (.int .i64 a0_1) ∧ w'.cell? ⟨gb488, 2, none⟩ = some (.int .i64 a0_2) ∧ w'.cell? ⟨gb488, 3, none⟩ = some (.int .i64 a0_3) ∧ w'.cell? ⟨gb488, 4, none⟩ = some (.int .i64 a0_4) ∧ w'.cell? ⟨gb488, 5, none⟩ = some (.int .i64 a0_5) ∧ w'.cell? ⟨gb488, 6, none⟩ = some (.int .i64 a0_6) ∧ w'.cell? ⟨gb488, 7, none⟩ = some (.int .i64 a0_7) ∧ w'.cell? ⟨gb488, 8, none⟩ = some (.int .i64 a0_8) ∧ w'.cell? ⟨gb488, 9, none⟩ = some (.int .i64 a0_9) ∧ w'.cell? ⟨gb488, 10, none⟩ = some (.int .i64 a0_10)) (ds := []) (bq 8 0) (by kernel_rfl) rfl rfl ⟨(blk_cell BK495.out 0).trans rfl, (blk_cell BK495.out 1).trans rfl, (blk_cell BK495.out 2).trans rfl, (blk_cell BK495.out 3).trans rfl, (blk_cell BK495.out 4).trans rfl, (blk_cell BK488.out 0).trans rfl, (blk_cell BK488.out 1).trans rfl, (blk_cell BK488.out 2).trans rfl, (blk_cell BK488.out 3).trans rfl, (blk_cell BK488.out 4).trans rfl, (blk_cell BK488.out 5).trans rfl, (blk_cell BK488.out 6).trans rfl, (blk_cell BK488.out 7).trans rfl, (blk_cell BK488.out 8).trans rfl, (blk_cell BK488.out 9).trans rfl, (blk_cell BK488.out 10).trans rfl⟩ (fun hHeld => ?_); refine with_tabW revetmentref16_others.tab5 revetmentref16_others.bits5 (fun HT_ HW_ => ?_)
     generalize w19.drew = w20 at BK488 BK495 HB hHeld ⊢
     apply pu 0 27 (bq 8 1) HT_
     apply pu 5 32 (bq 8 33) HT_
     apply tu 1 28 (bq 8 35) HT_ HW_ hHeld
     apply tu 2 29 (bq 8 39) HT_ HW_ hHeld
     refine one_ (i := 3) (N := some 30) (bq 8 47) rfl rfl (one_of HT_.out (by kernel_rfl)) (by decide) (fun K hK => ?_)
     refine gs Try.func59 #[.agg #[.int .i64 a0_0, .int .i64 a0_1, .int .i64 a0_2, .int .i64 a0_3, .int .i64 a0_4, .int .i64 a0_5, .int .i64 a0_6, .int .i64 a0_7, .int .i64 a0_8, .int .i64 a0_9, .int .i64 a0_10]] ?_
     with_reducible refine (revetmentref07_Row.calls a0_0 a0_1 a0_2 a0_3 a0_4 a0_5 a0_6 a0_7 a0_8 a0_9 a0_10 t497 _ A14.out).mono ?_
     rintro e w21 ⟨rfl, hb⟩
     refine ⟨_, rfl, ?_⟩
     replace BK488 := bkb BK488 hb
     replace BK495 := bkb BK495 hb
     replace HB := bst HB hb
     try clear hb; try clear hb2; try clear hk; try clear hi
     refine hK.out _ _ sc (fun hHeld => ?_)
     clear hK K
     apply nm 0
     apply pu 4 31 (bq 8 63) HT_
     apply pu 6 33 (bq 8 127) HT_
     apply pu 7 12 (bq 8 255) HT_
     refine done_ (done_of HT_.out (by kernel_rfl)) ?_
     obtain ⟨hcz22_0, hcz22_1, hcz22_2, hcz22_3, hcz22_4, hcz22_5, hcz22_6, hcz22_7, hcz22_8, hcz22_9, hcz22_10⟩ := cz11 BK488.out
     try go_wp2_with (first | ((with_reducible refine gate_callee (f := 18) rfl ?_); refine goesL_ (some 37) rfl rfl Try.func18 (by kernel_rfl) rfl #[.agg #[.int .i64 a0_0, .int .i64 a0_1, .int .i64 a0_2, .int .i64 a0_3, .int .i64 a0_4, .int .i64 a0_5, .int .i64 a0_6, .int .i64 a0_7, .int .i64 a0_8, .int .i64 a0_9, .int .i64 a0_10], .int .i64 (wrap64 ((wrap64 (t489 * t497)) + x11_1))] rfl (by (try simp only [List.map_toArray, List.map_cons, List.map_nil]); first | done | rfl | (simp only [List.length_drop, List.length_take]; rfl)) ?_; (with_reducible refine (revetmentref08_Of.calls k1 a0_0 a0_1 a0_2 a0_3 a0_4 a0_5 a0_6 a0_7 a0_8 a0_9 a0_10 (wrap64 ((wrap64 (t489 * t497)) + x11_1)) t498 t499 t500 t501 t502 t503 _ A15.out).mono ?_); rintro e w23 ⟨rfl, hb⟩; refine ⟨_, rfl, ?_⟩; have n0_ := bkb BK488 hb; have n1_ := bkb BK495 hb; have n2_ := bst HB hb; clear BK488; clear BK495; clear HB; have BK488 := n0_; have BK495 := n1_; have HB := n2_; clear n0_ n1_ n2_; (try clear hb); (try clear hb2); (try clear hk); (try clear hi)) | ((with_reducible refine gate_dst (N := 13) rfl ?_); refine box_event ?hg (N := 13) ?hd (cs := #[.int .i64 0, .int .i64 0, .int .i64 0, .int .i64 0, .int .i64 0]) (t := 25) ?hr ?_; (case hd => rfl); (case hg => rfl); (case hr => first | (go_simp; done) | (go_simp; rfl)); intro gb504 hg w24 hbox hb; have n0_ := bkb BK488 hb; have n1_ := bkb BK495 hb; have n2_ := bst HB hb; have n3_ := Aside0.mk (hbox); have n4_ := Aside0.mk ((by rw [hg]; exact (below_size (bl HB)) : w.heap.size ≤ gb504)); have n5_ := Aside0.mk ((by rw [hg]; exact (below_size (bl HB)) : w.heap.size ≤ gb504)); have n6_ := Aside0.mk ((by rw [hg]; exact Nat.ne_of_lt (blk_lt (g := gb488) (o := .cells #[.int .i64 a0_0, .int .i64 a0_1, .int .i64 a0_2, .int .i64 a0_3, .int .i64 a0_4, .int .i64 a0_5, .int .i64 a0_6, .int .i64 a0_7, .int .i64 a0_8, .int .i64 a0_9, .int .i64 a0_10] 23 (0, 0)) (by (with_reducible repeat (first | refine blk_drewN ?_ _ | refine blk_drew ?_ | refine blk_alloc ?_ _)); exact BK488.out)) : gb488 ≠ gb504)); have n7_ := Aside0.mk ((by rw [hg]; exact Nat.ne_of_gt (blk_lt (g := gb488) (o := .cells #[.int .i64 a0_0, .int .i64 a0_1, .int .i64 a0_2, .int .i64 a0_3, .int .i64 a0_4, .int .i64 a0_5, .int .i64 a0_6, .int .i64 a0_7, .int .i64 a0_8, .int .i64 a0_9, .int .i64 a0_10] 23 (0, 0)) (by (with_reducible repeat (first | refine blk_drewN ?_ _ | refine blk_drew ?_ | refine blk_alloc ?_ _)); exact BK488.out)) : gb504 ≠ gb488)); have n8_ := Aside0.mk ((by rw [hg]; exact Nat.ne_of_lt (blk_lt (g := gb495) (o := .cells #[.int .i64 t489, .int .i64 t490, .int .i64 t491, .int .i64 t492, .int .i64 t493] 25 (0, 0)) (by (with_reducible repeat (first | refine blk_drewN ?_ _ | refine blk_drew ?_ | refine blk_alloc ?_ _)); exact BK495.out)) : gb495 ≠ gb504)); have n9_ := Aside0.mk ((by rw [hg]; exact Nat.ne_of_gt (blk_lt (g := gb495) (o := .cells #[.int .i64 t489, .int .i64 t490, .int .i64 t491, .int .i64 t492, .int .i64 t493] 25 (0, 0)) (by (with_reducible repeat (first | refine blk_drewN ?_ _ | refine blk_drew ?_ | refine blk_alloc ?_ _)); exact BK495.out)) : gb504 ≠ gb495)); clear BK488; clear BK495; clear HB; have BK488 := n0_; have BK495 := n1_; have HB := n2_; have BK504 := n3_; have GW504 := n4_; have GE504 := n5_; have NB488_504 := n6_; have NB504_488 := n7_; have NB495_504 := n8_; have NB504_495 := n9_; clear n0_ n1_ n2_ n3_ n4_ n5_ n6_ n7_ n8_ n9_; clear hb hbox hg; have hnb25 := NB504_488.out; have hnc25 := NB488_504.out; have hnb26 := NB504_495.out; have hnc26 := NB495_504.out; obtain ⟨hcz27_0, hcz27_1, hcz27_2, hcz27_3, hcz27_4⟩ := cz5 BK504.out; obtain ⟨hfz27_0, hfz27_1, hfz27_2, hfz27_3, hfz27_4⟩ := fz5 BK504.out))
     have n0_ : Aside0 ((((((w24.setCell ⟨gb504, 0, none⟩ (.int .i64 t498)).setCell ⟨gb504, 1, none⟩ (.int .i64 t499)).setCell ⟨gb504, 2, none⟩ (.int .i64 t500)).setCell ⟨gb504, 3, none⟩ (.int .i64 t501)).setCell ⟨gb504, 4, none⟩ (.int .i64 t502)).heap[gb488]? = some (.cells #[.int .i64 a0_0, .int .i64 a0_1, .int .i64 a0_2, .int .i64 a0_3, .int .i64 a0_4, .int .i64 a0_5, .int .i64 a0_6, .int .i64 a0_7, .int .i64 a0_8, .int .i64 a0_9, .int .i64 a0_10] 23 (0, 0))) := ⟨by (with_reducible repeat (first | refine blk_drewN ?_ _ | refine blk_drew ?_ | refine blk_alloc ?_ _)); refine blk_far ?_ NB488_504.out _; (with_reducible repeat (first | refine blk_drewN ?_ _ | refine blk_drew ?_ | refine blk_alloc ?_ _)); refine blk_far ?_ NB488_504.out _; (with_reducible repeat (first | refine blk_drewN ?_ _ | refine blk_drew ?_ | refine blk_alloc ?_ _)); refine blk_far ?_ NB488_504.out _; (with_reducible repeat (first | refine blk_drewN ?_ _ | refine blk_drew ?_ | refine blk_alloc ?_ _)); refine blk_far ?_ NB488_504.out _; (with_reducible repeat (first | refine blk_drewN ?_ _ | refine blk_drew ?_ | refine blk_alloc ?_ _)); refine blk_far ?_ NB488_504.out _; (with_reducible repeat (first | refine blk_drewN ?_ _ | refine blk_drew ?_ | refine blk_alloc ?_ _)); exact BK488.out⟩
     have n1_ : Aside0 ((((((w24.setCell ⟨gb504, 0, none⟩ (.int .i64 t498)).setCell ⟨gb504, 1, none⟩ (.int .i64 t499)).setCell ⟨gb504, 2, none⟩ (.int .i64 t500)).setCell ⟨gb504, 3, none⟩ (.int .i64 t501)).setCell ⟨gb504, 4, none⟩ (.int .i64 t502)).heap[gb495]? = some (.cells #[.int .i64 t489, .int .i64 t490, .int .i64 t491, .int .i64 t492, .int .i64 t493] 25 (0, 0))) := ⟨by (with_reducible repeat (first | refine blk_drewN ?_ _ | refine blk_drew ?_ | refine blk_alloc ?_ _)); refine blk_far ?_ NB495_504.out _; (with_reducible repeat (first | refine blk_drewN ?_ _ | refine blk_drew ?_ | refine blk_alloc ?_ _)); refine blk_far ?_ NB495_504.out _; (with_reducible repeat (first | refine blk_drewN ?_ _ | refine blk_drew ?_ | refine blk_alloc ?_ _)); refine blk_far ?_ NB495_504.out _; (with_reducible repeat (first | refine blk_drewN ?_ _ | refine blk_drew ?_ | refine blk_alloc ?_ _)); refine blk_far ?_ NB495_504.out _; (with_reducible repeat (first | refine blk_drewN ?_ _ | refine blk_drew ?_ | refine blk_alloc ?_ _)); refine blk_far ?_ NB495_504.out _; (with_reducible repeat (first | refine blk_drewN ?_ _ | refine blk_drew ?_ | refine blk_alloc ?_ _)); exact BK495.out⟩
     have n2_ : Aside0 ((((((w24.setCell ⟨gb504, 0, none⟩ (.int .i64 t498)).setCell ⟨gb504, 1, none⟩ (.int .i64 t499)).setCell ⟨gb504, 2, none⟩ (.int .i64 t500)).setCell ⟨gb504, 3, none⟩ (.int .i64 t501)).setCell ⟨gb504, 4, none⟩ (.int .i64 t502)).heap[gb504]? = some (.cells #[.int .i64 t498, .int .i64 t499, .int .i64 t500, .int .i64 t501, .int .i64 t502] 25 (0, 0))) := ⟨by (with_reducible repeat (first | refine blk_drewN ?_ _ | refine blk_drew ?_ | refine blk_alloc ?_ _)); refine blk_put (cs := #[.int .i64 t498, .int .i64 t499, .int .i64 t500, .int .i64 t501, .int .i64 0]) ?_ 4 _ rfl; (with_reducible repeat (first | refine blk_drewN ?_ _ | refine blk_drew ?_ | refine blk_alloc ?_ _)); refine blk_put (cs := #[.int .i64 t498, .int .i64 t499, .int .i64 t500, .int .i64 0, .int .i64 0]) ?_ 3 _ rfl; (with_reducible repeat (first | refine blk_drewN ?_ _ | refine blk_drew ?_ | refine blk_alloc ?_ _)); refine blk_put (cs := #[.int .i64 t498, .int .i64 t499, .int .i64 0, .int .i64 0, .int .i64 0]) ?_ 2 _ rfl; (with_reducible repeat (first | refine blk_drewN ?_ _ | refine blk_drew ?_ | refine blk_alloc ?_ _)); refine blk_put (cs := #[.int .i64 t498, .int .i64 0, .int .i64 0, .int .i64 0, .int .i64 0]) ?_ 1 _ rfl; (with_reducible repeat (first | refine blk_drewN ?_ _ | refine blk_drew ?_ | refine blk_alloc ?_ _)); refine blk_put (cs := #[.int .i64 0, .int .i64 0, .int .i64 0, .int .i64 0, .int .i64 0]) ?_ 0 _ rfl; (with_reducible repeat (first | refine blk_drewN ?_ _ | refine blk_drew ?_ | refine blk_alloc ?_ _)); exact BK504.out⟩
     have n3_ : Aside0 (Below w.heap.size w (((((w24.setCell ⟨gb504, 0, none⟩ (.int .i64 t498)).setCell ⟨gb504, 1, none⟩ (.int .i64 t499)).setCell ⟨gb504, 2, none⟩ (.int .i64 t500)).setCell ⟨gb504, 3, none⟩ (.int .i64 t501)).setCell ⟨gb504, 4, none⟩ (.int .i64 t502))) := ⟨bl HB⟩
     (try clear BK488)
     (try clear BK495)
     (try clear BK504)
     (try clear HB)
     generalize (((((w24.setCell ⟨gb504, 0, none⟩ (.int .i64 t498)).setCell ⟨gb504, 1, none⟩ (.int .i64 t499)).setCell ⟨gb504, 2, none⟩ (.int .i64 t500)).setCell ⟨gb504, 3, none⟩ (.int .i64 t501)).setCell ⟨gb504, 4, none⟩ (.int .i64 t502)) = w28 at n0_ n1_ n2_ n3_ ⊢
     have BK488 := n0_
     have BK495 := n1_
     have BK504 := n2_
     have HB := n3_
     clear n0_ n1_ n2_ n3_
     replace BK488 := Aside0.mk (blk_drew BK488.out)
     replace BK495 := Aside0.mk (blk_drew BK495.out)
     replace BK504 := Aside0.mk (blk_drew BK504.out)
     replace HB := Aside0.mk (below_drew1 HB.out)
     refine start_ (n := 25) (S := fun w' => True) (ds := []) (bq 25 0) (by kernel_rfl) rfl rfl trivial (fun hHeld => ?_); refine with_tabW revetmentref16_others.tab7 revetmentref16_others.bits7 (fun HT_ HW_ => ?_)
     generalize w28.drew = w29 at BK488 BK495 BK504 HB hHeld ⊢
     apply pu 0 40 (bq 25 1) HT_
     apply pu 1 41 (bq 25 3) HT_
     apply pu 2 42 (bq 25 7) HT_
     apply pu 3 43 (bq 25 15) HT_
     apply po 4 44 (bq 25 31) HT_
     apply po 5 45 (bq 25 63) HT_
     apply po 6 46 (bq 25 127) HT_
     apply pu 7 47 (bq 25 255) HT_
     apply pu 8 48 (bq 25 511) HT_
     apply po 9 49 (bq 25 1023) HT_
     apply po 10 50 (bq 25 2047) HT_
     apply po 11 51 (bq 25 4095) HT_
     apply po 12 52 (bq 25 8191) HT_
     apply po 13 53 (bq 25 16383) HT_
     apply pu 14 54 (bq 25 32767) HT_
     apply pu 15 55 (bq 25 65535) HT_
     apply po 16 56 (bq 25 131071) HT_
     apply po 17 57 (bq 25 262143) HT_
     apply po 18 58 (bq 25 524287) HT_
     apply po 19 59 (bq 25 1048575) HT_
     apply po 20 60 (bq 25 2097151) HT_
     apply po 21 61 (bq 25 4194303) HT_
     apply po 22 62 (bq 25 8388607) HT_
     apply po 23 63 (bq 25 16777215) HT_
     apply pu 24 64 (bq 25 33554431) HT_
     refine done_ (done_of HT_.out (by kernel_rfl)) ?_
     try go_wp2
     go_roundg k1
     case measure => have := HK1.out; omega
     case rel => exact ⟨(wrap64 (x11_1 + 1)), (by first | rfl | (simp; done) | (simp [*]; done)), H', ⟨by have := HK1.out; omega⟩, ⟨by (with_reducible repeat (first | refine blk_drewN ?_ _ | refine blk_drew ?_ | refine blk_alloc ?_ _)); exact BK488.out⟩, ⟨by (with_reducible repeat (first | refine blk_drewN ?_ _ | refine blk_drew ?_ | refine blk_alloc ?_ _)); exact BK495.out⟩, ⟨bl HB⟩⟩
    ·rw [if_neg c16] at H
     have c16b0 : ((wrap64 ((wrap64 (t489 * t497)) + x11_1)) == a2) = false := beq_eq_false_iff_ne.mpr c16
     have c16b1 : ((wrap64 ((wrap64 (t489 * t497)) + x11_1)) != a2) = true := bne_iff_ne.mpr c16
     by_cases c30 : (wrap64 ((wrap64 (t489 * t497)) + x11_1)) < a3
     ·rw [if_pos c30] at H
      have c30b0 : decide ((wrap64 ((wrap64 (t489 * t497)) + x11_1)) < a3) = true := decide_eq_true c30
      clear c30
      by_cases c31 : t500 = t491
      ·rw [if_pos c31] at H
       have c31b0 : (t500 == t491) = true := beq_iff_eq.mpr c31
       have c31b1 : (t500 != t491) = false := bne_eq_false_iff_eq.mpr c31
       clear c31
       by_cases c32 : 0 ≤ t501
       ·rw [if_pos c32] at H
        have c32b0 : decide (0 ≤ t501) = true := decide_eq_true c32
        clear c32
        by_cases c33 : t501 < (l1.length : Int)
        ·rw [if_pos c33] at H
         have c33b0 : decide (t501 < (l1.length : Int)) = true := decide_eq_true c33
         clear c33
         by_cases c34 : (rd l1 t501) ≤ t502
         ·rw [if_pos c34] at H
          have c34b0 : decide ((rd l1 t501) ≤ t502) = true := decide_eq_true c34
          clear c34
          obtain rfl := Option.some.inj H
          have hnb35 := NB488_495.out
          have hnc35 := NB495_488.out
          obtain ⟨hcz36_0, hcz36_1, hcz36_2, hcz36_3, hcz36_4, hcz36_5, hcz36_6, hcz36_7, hcz36_8, hcz36_9, hcz36_10⟩ := cz11 BK488.out
          try go_wp2_with (first | ((with_reducible refine gate_callee (f := 59) rfl ?_); refine goesL_ (some 23) rfl rfl Try.func59 (by kernel_rfl) rfl #[.agg #[.int .i64 a0_0, .int .i64 a0_1, .int .i64 a0_2, .int .i64 a0_3, .int .i64 a0_4, .int .i64 a0_5, .int .i64 a0_6, .int .i64 a0_7, .int .i64 a0_8, .int .i64 a0_9, .int .i64 a0_10]] rfl (by (try simp only [List.map_toArray, List.map_cons, List.map_nil]); first | done | rfl | (simp only [List.length_drop, List.length_take]; rfl)) ?_; (with_reducible refine (revetmentref07_Row.calls a0_0 a0_1 a0_2 a0_3 a0_4 a0_5 a0_6 a0_7 a0_8 a0_9 a0_10 t496 _ A12.out).mono ?_); rintro e w37 ⟨rfl, hb⟩; refine ⟨_, rfl, ?_⟩; have n0_ := bkb BK488 hb; have n1_ := bkb BK495 hb; have n2_ := bst HB hb; clear BK488; clear BK495; clear HB; have BK488 := n0_; have BK495 := n1_; have HB := n2_; clear n0_ n1_ n2_; (try clear hb); (try clear hb2); (try clear hk); (try clear hi)))
          replace BK488 := Aside0.mk (blk_drew BK488.out)
          replace BK495 := Aside0.mk (blk_drew BK495.out)
          replace HB := Aside0.mk (below_drew1 HB.out)
          refine start_ (n := 8) (S := fun w' => w'.cell? ⟨gb495, 0, none⟩ = some (.int .i64 t489) ∧ w'.cell? ⟨gb495, 1, none⟩ = some (.int .i64 t490) ∧ w'.cell? ⟨gb495, 2, none⟩ = some (.int .i64 t491) ∧ w'.cell? ⟨gb495, 3, none⟩ = some (.int .i64 t492) ∧ w'.cell? ⟨gb495, 4, none⟩ = some (.int .i64 t493) ∧ w'.cell? ⟨gb488, 0, none⟩ = some (.int .i64 a0_0) ∧ w'.cell? ⟨gb488, 1, none⟩ = some (.int .i64 a0_1) ∧ w'.cell? ⟨gb488, 2, none⟩ = some (.int .i64 a0_2) ∧ w'.cell? ⟨gb488, 3, none⟩ = some (.int .i64 a0_3) ∧ w'.cell? ⟨gb488, 4, none⟩ = some (.int .i64 a0_4) ∧ w'.cell? ⟨gb488, 5, none⟩ = some (.int .i64 a0_5) ∧ w'.cell? ⟨gb488, 6, none⟩ = some (.int .i64 a0_6) ∧ w'.cell? ⟨gb488, 7, none⟩ = some (.int .i64 a0_7) ∧ w'.cell? ⟨gb488, 8, none⟩ = some (.int .i64 a0_8) ∧ w'.cell? ⟨gb488, 9, none⟩ = some (.int .i64 a0_9) ∧ w'.cell? ⟨gb488, 10, none⟩ = some (.int .i64 a0_10)) (ds := []) (bq 8 0) (by kernel_rfl) rfl rfl ⟨(blk_cell BK495.out 0).trans rfl, (blk_cell BK495.out 1).trans rfl, (blk_cell BK495.out 2).trans rfl, (blk_cell BK495.out 3).trans rfl, (blk_cell BK495.out 4).trans rfl, (blk_cell BK488.out 0).trans rfl, (blk_cell BK488.out 1).trans rfl, (blk_cell BK488.out 2).trans rfl, (blk_cell BK488.out 3).trans rfl, (blk_cell BK488.out 4).trans rfl, (blk_cell BK488.out 5).trans rfl, (blk_cell BK488.out 6).trans rfl, (blk_cell BK488.out 7).trans rfl, (blk_cell BK488.out 8).trans rfl, (blk_cell BK488.out 9).trans rfl, (blk_cell BK488.out 10).trans rfl⟩ (fun hHeld => ?_); refine with_tabW revetmentref16_others.tab5 revetmentref16_others.bits5 (fun HT_ HW_ => ?_)
          generalize w37.drew = w38 at BK488 BK495 HB hHeld ⊢
          apply pu 0 27 (bq 8 1) HT_
          apply pu 5 32 (bq 8 33) HT_
          apply tu 1 28 (bq 8 35) HT_ HW_ hHeld
          apply tu 2 29 (bq 8 39) HT_ HW_ hHeld
          refine one_ (i := 3) (N := some 30) (bq 8 47) rfl rfl (one_of HT_.out (by kernel_rfl)) (by decide) (fun K hK => ?_)
          refine gs Try.func59 #[.agg #[.int .i64 a0_0, .int .i64 a0_1, .int .i64 a0_2, .int .i64 a0_3, .int .i64 a0_4, .int .i64 a0_5, .int .i64 a0_6, .int .i64 a0_7, .int .i64 a0_8, .int .i64 a0_9, .int .i64 a0_10]] ?_
          with_reducible refine (revetmentref07_Row.calls a0_0 a0_1 a0_2 a0_3 a0_4 a0_5 a0_6 a0_7 a0_8 a0_9 a0_10 t497 _ A14.out).mono ?_
          rintro e w39 ⟨rfl, hb⟩
          refine ⟨_, rfl, ?_⟩
          replace BK488 := bkb BK488 hb
          replace BK495 := bkb BK495 hb
          replace HB := bst HB hb
          try clear hb; try clear hb2; try clear hk; try clear hi
          refine hK.out _ _ sc (fun hHeld => ?_)
          clear hK K
          apply nm 0
          apply pu 4 31 (bq 8 63) HT_
          apply pu 6 33 (bq 8 127) HT_
          apply pu 7 12 (bq 8 255) HT_
          refine done_ (done_of HT_.out (by kernel_rfl)) ?_
          obtain ⟨hcz40_0, hcz40_1, hcz40_2, hcz40_3, hcz40_4, hcz40_5, hcz40_6, hcz40_7, hcz40_8, hcz40_9, hcz40_10⟩ := cz11 BK488.out
          try go_wp2_with (first | ((with_reducible refine gate_callee (f := 18) rfl ?_); refine goesL_ (some 37) rfl rfl Try.func18 (by kernel_rfl) rfl #[.agg #[.int .i64 a0_0, .int .i64 a0_1, .int .i64 a0_2, .int .i64 a0_3, .int .i64 a0_4, .int .i64 a0_5, .int .i64 a0_6, .int .i64 a0_7, .int .i64 a0_8, .int .i64 a0_9, .int .i64 a0_10], .int .i64 (wrap64 ((wrap64 (t489 * t497)) + x11_1))] rfl (by (try simp only [List.map_toArray, List.map_cons, List.map_nil]); first | done | rfl | (simp only [List.length_drop, List.length_take]; rfl)) ?_; (with_reducible refine (revetmentref08_Of.calls k1 a0_0 a0_1 a0_2 a0_3 a0_4 a0_5 a0_6 a0_7 a0_8 a0_9 a0_10 (wrap64 ((wrap64 (t489 * t497)) + x11_1)) t498 t499 t500 t501 t502 t503 _ A15.out).mono ?_); rintro e w41 ⟨rfl, hb⟩; refine ⟨_, rfl, ?_⟩; have n0_ := bkb BK488 hb; have n1_ := bkb BK495 hb; have n2_ := bst HB hb; clear BK488; clear BK495; clear HB; have BK488 := n0_; have BK495 := n1_; have HB := n2_; clear n0_ n1_ n2_; (try clear hb); (try clear hb2); (try clear hk); (try clear hi)) | ((with_reducible refine gate_dst (N := 13) rfl ?_); refine box_event ?hg (N := 13) ?hd (cs := #[.int .i64 0, .int .i64 0, .int .i64 0, .int .i64 0, .int .i64 0]) (t := 25) ?hr ?_; (case hd => rfl); (case hg => rfl); (case hr => first | (go_simp; done) | (go_simp; rfl)); intro gb504 hg w42 hbox hb; have n0_ := bkb BK488 hb; have n1_ := bkb BK495 hb; have n2_ := bst HB hb; have n3_ := Aside0.mk (hbox); have n4_ := Aside0.mk ((by rw [hg]; exact (below_size (bl HB)) : w.heap.size ≤ gb504)); have n5_ := Aside0.mk ((by rw [hg]; exact (below_size (bl HB)) : w.heap.size ≤ gb504)); have n6_ := Aside0.mk ((by rw [hg]; exact Nat.ne_of_lt (blk_lt (g := gb488) (o := .cells #[.int .i64 a0_0, .int .i64 a0_1, .int .i64 a0_2, .int .i64 a0_3, .int .i64 a0_4, .int .i64 a0_5, .int .i64 a0_6, .int .i64 a0_7, .int .i64 a0_8, .int .i64 a0_9, .int .i64 a0_10] 23 (0, 0)) (by (with_reducible repeat (first | refine blk_drewN ?_ _ | refine blk_drew ?_ | refine blk_alloc ?_ _)); exact BK488.out)) : gb488 ≠ gb504)); have n7_ := Aside0.mk ((by rw [hg]; exact Nat.ne_of_gt (blk_lt (g := gb488) (o := .cells #[.int .i64 a0_0, .int .i64 a0_1, .int .i64 a0_2, .int .i64 a0_3, .int .i64 a0_4, .int .i64 a0_5, .int .i64 a0_6, .int .i64 a0_7, .int .i64 a0_8, .int .i64 a0_9, .int .i64 a0_10] 23 (0, 0)) (by (with_reducible repeat (first | refine blk_drewN ?_ _ | refine blk_drew ?_ | refine blk_alloc ?_ _)); exact BK488.out)) : gb504 ≠ gb488)); have n8_ := Aside0.mk ((by rw [hg]; exact Nat.ne_of_lt (blk_lt (g := gb495) (o := .cells #[.int .i64 t489, .int .i64 t490, .int .i64 t491, .int .i64 t492, .int .i64 t493] 25 (0, 0)) (by (with_reducible repeat (first | refine blk_drewN ?_ _ | refine blk_drew ?_ | refine blk_alloc ?_ _)); exact BK495.out)) : gb495 ≠ gb504)); have n9_ := Aside0.mk ((by rw [hg]; exact Nat.ne_of_gt (blk_lt (g := gb495) (o := .cells #[.int .i64 t489, .int .i64 t490, .int .i64 t491, .int .i64 t492, .int .i64 t493] 25 (0, 0)) (by (with_reducible repeat (first | refine blk_drewN ?_ _ | refine blk_drew ?_ | refine blk_alloc ?_ _)); exact BK495.out)) : gb504 ≠ gb495)); clear BK488; clear BK495; clear HB; have BK488 := n0_; have BK495 := n1_; have HB := n2_; have BK504 := n3_; have GW504 := n4_; have GE504 := n5_; have NB488_504 := n6_; have NB504_488 := n7_; have NB495_504 := n8_; have NB504_495 := n9_; clear n0_ n1_ n2_ n3_ n4_ n5_ n6_ n7_ n8_ n9_; clear hb hbox hg; have hnb43 := NB504_488.out; have hnc43 := NB488_504.out; have hnb44 := NB504_495.out; have hnc44 := NB495_504.out; obtain ⟨hcz45_0, hcz45_1, hcz45_2, hcz45_3, hcz45_4⟩ := cz5 BK504.out; obtain ⟨hfz45_0, hfz45_1, hfz45_2, hfz45_3, hfz45_4⟩ := fz5 BK504.out))
          have n0_ : Aside0 ((((((w42.setCell ⟨gb504, 0, none⟩ (.int .i64 t498)).setCell ⟨gb504, 1, none⟩ (.int .i64 t499)).setCell ⟨gb504, 2, none⟩ (.int .i64 t500)).setCell ⟨gb504, 3, none⟩ (.int .i64 t501)).setCell ⟨gb504, 4, none⟩ (.int .i64 t502)).heap[gb488]? = some (.cells #[.int .i64 a0_0, .int .i64 a0_1, .int .i64 a0_2, .int .i64 a0_3, .int .i64 a0_4, .int .i64 a0_5, .int .i64 a0_6, .int .i64 a0_7, .int .i64 a0_8, .int .i64 a0_9, .int .i64 a0_10] 23 (0, 0))) := ⟨by (with_reducible repeat (first | refine blk_drewN ?_ _ | refine blk_drew ?_ | refine blk_alloc ?_ _)); refine blk_far ?_ NB488_504.out _; (with_reducible repeat (first | refine blk_drewN ?_ _ | refine blk_drew ?_ | refine blk_alloc ?_ _)); refine blk_far ?_ NB488_504.out _; (with_reducible repeat (first | refine blk_drewN ?_ _ | refine blk_drew ?_ | refine blk_alloc ?_ _)); refine blk_far ?_ NB488_504.out _; (with_reducible repeat (first | refine blk_drewN ?_ _ | refine blk_drew ?_ | refine blk_alloc ?_ _)); refine blk_far ?_ NB488_504.out _; (with_reducible repeat (first | refine blk_drewN ?_ _ | refine blk_drew ?_ | refine blk_alloc ?_ _)); refine blk_far ?_ NB488_504.out _; (with_reducible repeat (first | refine blk_drewN ?_ _ | refine blk_drew ?_ | refine blk_alloc ?_ _)); exact BK488.out⟩
          have n1_ : Aside0 ((((((w42.setCell ⟨gb504, 0, none⟩ (.int .i64 t498)).setCell ⟨gb504, 1, none⟩ (.int .i64 t499)).setCell ⟨gb504, 2, none⟩ (.int .i64 t500)).setCell ⟨gb504, 3, none⟩ (.int .i64 t501)).setCell ⟨gb504, 4, none⟩ (.int .i64 t502)).heap[gb495]? = some (.cells #[.int .i64 t489, .int .i64 t490, .int .i64 t491, .int .i64 t492, .int .i64 t493] 25 (0, 0))) := ⟨by (with_reducible repeat (first | refine blk_drewN ?_ _ | refine blk_drew ?_ | refine blk_alloc ?_ _)); refine blk_far ?_ NB495_504.out _; (with_reducible repeat (first | refine blk_drewN ?_ _ | refine blk_drew ?_ | refine blk_alloc ?_ _)); refine blk_far ?_ NB495_504.out _; (with_reducible repeat (first | refine blk_drewN ?_ _ | refine blk_drew ?_ | refine blk_alloc ?_ _)); refine blk_far ?_ NB495_504.out _; (with_reducible repeat (first | refine blk_drewN ?_ _ | refine blk_drew ?_ | refine blk_alloc ?_ _)); refine blk_far ?_ NB495_504.out _; (with_reducible repeat (first | refine blk_drewN ?_ _ | refine blk_drew ?_ | refine blk_alloc ?_ _)); refine blk_far ?_ NB495_504.out _; (with_reducible repeat (first | refine blk_drewN ?_ _ | refine blk_drew ?_ | refine blk_alloc ?_ _)); exact BK495.out⟩
          have n2_ : Aside0 ((((((w42.setCell ⟨gb504, 0, none⟩ (.int .i64 t498)).setCell ⟨gb504, 1, none⟩ (.int .i64 t499)).setCell ⟨gb504, 2, none⟩ (.int .i64 t500)).setCell ⟨gb504, 3, none⟩ (.int .i64 t501)).setCell ⟨gb504, 4, none⟩ (.int .i64 t502)).heap[gb504]? = some (.cells #[.int .i64 t498, .int .i64 t499, .int .i64 t500, .int .i64 t501, .int .i64 t502] 25 (0, 0))) := ⟨by (with_reducible repeat (first | refine blk_drewN ?_ _ | refine blk_drew ?_ | refine blk_alloc ?_ _)); refine blk_put (cs := #[.int .i64 t498, .int .i64 t499, .int .i64 t500, .int .i64 t501, .int .i64 0]) ?_ 4 _ rfl; (with_reducible repeat (first | refine blk_drewN ?_ _ | refine blk_drew ?_ | refine blk_alloc ?_ _)); refine blk_put (cs := #[.int .i64 t498, .int .i64 t499, .int .i64 t500, .int .i64 0, .int .i64 0]) ?_ 3 _ rfl; (with_reducible repeat (first | refine blk_drewN ?_ _ | refine blk_drew ?_ | refine blk_alloc ?_ _)); refine blk_put (cs := #[.int .i64 t498, .int .i64 t499, .int .i64 0, .int .i64 0, .int .i64 0]) ?_ 2 _ rfl; (with_reducible repeat (first | refine blk_drewN ?_ _ | refine blk_drew ?_ | refine blk_alloc ?_ _)); refine blk_put (cs := #[.int .i64 t498, .int .i64 0, .int .i64 0, .int .i64 0, .int .i64 0]) ?_ 1 _ rfl; (with_reducible repeat (first | refine blk_drewN ?_ _ | refine blk_drew ?_ | refine blk_alloc ?_ _)); refine blk_put (cs := #[.int .i64 0, .int .i64 0, .int .i64 0, .int .i64 0, .int .i64 0]) ?_ 0 _ rfl; (with_reducible repeat (first | refine blk_drewN ?_ _ | refine blk_drew ?_ | refine blk_alloc ?_ _)); exact BK504.out⟩
          have n3_ : Aside0 (Below w.heap.size w (((((w42.setCell ⟨gb504, 0, none⟩ (.int .i64 t498)).setCell ⟨gb504, 1, none⟩ (.int .i64 t499)).setCell ⟨gb504, 2, none⟩ (.int .i64 t500)).setCell ⟨gb504, 3, none⟩ (.int .i64 t501)).setCell ⟨gb504, 4, none⟩ (.int .i64 t502))) := ⟨bl HB⟩
          (try clear BK488)
          (try clear BK495)
          (try clear BK504)
          (try clear HB)
          generalize (((((w42.setCell ⟨gb504, 0, none⟩ (.int .i64 t498)).setCell ⟨gb504, 1, none⟩ (.int .i64 t499)).setCell ⟨gb504, 2, none⟩ (.int .i64 t500)).setCell ⟨gb504, 3, none⟩ (.int .i64 t501)).setCell ⟨gb504, 4, none⟩ (.int .i64 t502)) = w46 at n0_ n1_ n2_ n3_ ⊢
          have BK488 := n0_
          have BK495 := n1_
          have BK504 := n2_
          have HB := n3_
          clear n0_ n1_ n2_ n3_
          replace BK488 := Aside0.mk (blk_drew BK488.out)
          replace BK495 := Aside0.mk (blk_drew BK495.out)
          replace BK504 := Aside0.mk (blk_drew BK504.out)
          replace HB := Aside0.mk (below_drew1 HB.out)
          have p505 : 0 ≤ (t501 : Int) := of_decide_eq_true (by first | (with_reducible assumption) | assumption)
          have q505 : t501 < (l1.length : Int) := of_decide_eq_true (by first | (with_reducible assumption) | assumption)
          obtain ⟨ad505, e505, hx505_0⟩ := Kd.at_int HR1.out t501 p505 q505
          have hw505_0 := hx505_0
          cases e505
          replace hx505_0 := (HB.out.cell (World.block_lt_of_cell? w _ hx505_0)).trans hx505_0
          replace p505 := eq_true p505
          replace q505 := eq_true q505
          refine start_ (n := 25) (S := fun w' => w'.cell? ⟨gb504, 0, none⟩ = some (.int .i64 t498) ∧ w'.cell? ⟨gb504, 1, none⟩ = some (.int .i64 t499) ∧ w'.cell? ⟨gb504, 2, none⟩ = some (.int .i64 t500) ∧ w'.cell? ⟨gb504, 3, none⟩ = some (.int .i64 t501) ∧ w'.cell? ⟨gb504, 4, none⟩ = some (.int .i64 t502) ∧ w'.cell? ⟨gb495, 0, none⟩ = some (.int .i64 t489) ∧ w'.cell? ⟨gb495, 1, none⟩ = some (.int .i64 t490) ∧ w'.cell? ⟨gb495, 2, none⟩ = some (.int .i64 t491) ∧ w'.cell? ⟨gb495, 3, none⟩ = some (.int .i64 t492) ∧ w'.cell? ⟨gb495, 4, none⟩ = some (.int .i64 t493) ∧ w'.cell? (ad505.add (t501).toNat) = some (.int .i64 (rd l1 t501))) (ds := []) (bq 25 0) (by kernel_rfl) rfl rfl ⟨(blk_cell BK504.out 0).trans rfl, (blk_cell BK504.out 1).trans rfl, (blk_cell BK504.out 2).trans rfl, (blk_cell BK504.out 3).trans rfl, (blk_cell BK504.out 4).trans rfl, (blk_cell BK495.out 0).trans rfl, (blk_cell BK495.out 1).trans rfl, (blk_cell BK495.out 2).trans rfl, (blk_cell BK495.out 3).trans rfl, (blk_cell BK495.out 4).trans rfl, ((HB.out.cell (World.block_lt_of_cell? w _ hw505_0)).trans hw505_0)⟩ (fun hHeld => ?_); refine with_tabW revetmentref16_others.tab7 revetmentref16_others.bits7 (fun HT_ HW_ => ?_)
          generalize w46.drew = w47 at BK488 BK495 BK504 HB hx505_0 hHeld ⊢
          apply pu 0 40 (bq 25 1) HT_
          apply pu 1 41 (bq 25 3) HT_
          apply pu 2 42 (bq 25 7) HT_
          apply pu 3 43 (bq 25 15) HT_
          apply pu 4 44 (bq 25 31) HT_
          apply pu 5 45 (bq 25 63) HT_
          apply pu 6 46 (bq 25 127) HT_
          apply pu 7 47 (bq 25 255) HT_
          apply pu 8 48 (bq 25 511) HT_
          apply pu 9 49 (bq 25 1023) HT_
          apply pu 11 51 (bq 25 3071) HT_
          apply tu 10 50 (bq 25 4095) HT_ HW_ hHeld
          apply tu 12 52 (bq 25 8191) HT_ HW_ hHeld
          apply pu 13 53 (bq 25 16383) HT_
          apply pu 14 54 (bq 25 32767) HT_
          apply pu 15 55 (bq 25 65535) HT_
          apply pu 16 56 (bq 25 131071) HT_
          apply pu 17 57 (bq 25 262143) HT_
          apply pu 21 61 (bq 25 2359295) HT_
          apply tu 18 58 (bq 25 2621439) HT_ HW_ hHeld
          apply pu 19 59 (bq 25 3145727) HT_
          apply tu 20 60 (bq 25 4194303) HT_ HW_ hHeld
          apply tu 22 62 (bq 25 8388607) HT_ HW_ hHeld
          apply pu 23 63 (bq 25 16777215) HT_
          apply pu 24 64 (bq 25 33554431) HT_
          refine done_ (done_of HT_.out (by kernel_rfl)) ?_
          try go_wp2
          go_ret
          exact ⟨by first | rfl | (simp [errW_none, errW_some] <;> rfl) | (simp [*, errW_none, errW_some] <;> rfl), bl HB⟩
         ·rw [if_neg c34] at H
          have c34b0 : decide ((rd l1 t501) ≤ t502) = false := decide_eq_false c34
          clear c34
          have H' := Aside0.mk H
          clear H
          have hnb48 := NB488_495.out
          have hnc48 := NB495_488.out
          obtain ⟨hcz49_0, hcz49_1, hcz49_2, hcz49_3, hcz49_4, hcz49_5, hcz49_6, hcz49_7, hcz49_8, hcz49_9, hcz49_10⟩ := cz11 BK488.out
          try go_wp2_with (first | ((with_reducible refine gate_callee (f := 59) rfl ?_); refine goesL_ (some 23) rfl rfl Try.func59 (by kernel_rfl) rfl #[.agg #[.int .i64 a0_0, .int .i64 a0_1, .int .i64 a0_2, .int .i64 a0_3, .int .i64 a0_4, .int .i64 a0_5, .int .i64 a0_6, .int .i64 a0_7, .int .i64 a0_8, .int .i64 a0_9, .int .i64 a0_10]] rfl (by (try simp only [List.map_toArray, List.map_cons, List.map_nil]); first | done | rfl | (simp only [List.length_drop, List.length_take]; rfl)) ?_; (with_reducible refine (revetmentref07_Row.calls a0_0 a0_1 a0_2 a0_3 a0_4 a0_5 a0_6 a0_7 a0_8 a0_9 a0_10 t496 _ A12.out).mono ?_); rintro e w50 ⟨rfl, hb⟩; refine ⟨_, rfl, ?_⟩; have n0_ := bkb BK488 hb; have n1_ := bkb BK495 hb; have n2_ := bst HB hb; clear BK488; clear BK495; clear HB; have BK488 := n0_; have BK495 := n1_; have HB := n2_; clear n0_ n1_ n2_; (try clear hb); (try clear hb2); (try clear hk); (try clear hi)))
          replace BK488 := Aside0.mk (blk_drew BK488.out)
          replace BK495 := Aside0.mk (blk_drew BK495.out)
          replace HB := Aside0.mk (below_drew1 HB.out)
          refine start_ (n := 8) (S := fun w' => w'.cell? ⟨gb495, 0, none⟩ = some (.int .i64 t489) ∧ w'.cell? ⟨gb495, 1, none⟩ = some (.int .i64 t490) ∧ w'.cell? ⟨gb495, 2, none⟩ = some (.int .i64 t491) ∧ w'.cell? ⟨gb495, 3, none⟩ = some (.int .i64 t492) ∧ w'.cell? ⟨gb495, 4, none⟩ = some (.int .i64 t493) ∧ w'.cell? ⟨gb488, 0, none⟩ = some (.int .i64 a0_0) ∧ w'.cell? ⟨gb488, 1, none⟩ = some (.int .i64 a0_1) ∧ w'.cell? ⟨gb488, 2, none⟩ = some (.int .i64 a0_2) ∧ w'.cell? ⟨gb488, 3, none⟩ = some (.int .i64 a0_3) ∧ w'.cell? ⟨gb488, 4, none⟩ = some (.int .i64 a0_4) ∧ w'.cell? ⟨gb488, 5, none⟩ = some (.int .i64 a0_5) ∧ w'.cell? ⟨gb488, 6, none⟩ = some (.int .i64 a0_6) ∧ w'.cell? ⟨gb488, 7, none⟩ = some (.int .i64 a0_7) ∧ w'.cell? ⟨gb488, 8, none⟩ = some (.int .i64 a0_8) ∧ w'.cell? ⟨gb488, 9, none⟩ = some (.int .i64 a0_9) ∧ w'.cell? ⟨gb488, 10, none⟩ = some (.int .i64 a0_10)) (ds := []) (bq 8 0) (by kernel_rfl) rfl rfl ⟨(blk_cell BK495.out 0).trans rfl, (blk_cell BK495.out 1).trans rfl, (blk_cell BK495.out 2).trans rfl, (blk_cell BK495.out 3).trans rfl, (blk_cell BK495.out 4).trans rfl, (blk_cell BK488.out 0).trans rfl, (blk_cell BK488.out 1).trans rfl, (blk_cell BK488.out 2).trans rfl, (blk_cell BK488.out 3).trans rfl, (blk_cell BK488.out 4).trans rfl, (blk_cell BK488.out 5).trans rfl, (blk_cell BK488.out 6).trans rfl, (blk_cell BK488.out 7).trans rfl, (blk_cell BK488.out 8).trans rfl, (blk_cell BK488.out 9).trans rfl, (blk_cell BK488.out 10).trans rfl⟩ (fun hHeld => ?_); refine with_tabW revetmentref16_others.tab5 revetmentref16_others.bits5 (fun HT_ HW_ => ?_)
          generalize w50.drew = w51 at BK488 BK495 HB hHeld ⊢
          apply pu 0 27 (bq 8 1) HT_
          apply pu 5 32 (bq 8 33) HT_
          apply tu 1 28 (bq 8 35) HT_ HW_ hHeld
          apply tu 2 29 (bq 8 39) HT_ HW_ hHeld
          refine one_ (i := 3) (N := some 30) (bq 8 47) rfl rfl (one_of HT_.out (by kernel_rfl)) (by decide) (fun K hK => ?_)
          refine gs Try.func59 #[.agg #[.int .i64 a0_0, .int .i64 a0_1, .int .i64 a0_2, .int .i64 a0_3, .int .i64 a0_4, .int .i64 a0_5, .int .i64 a0_6, .int .i64 a0_7, .int .i64 a0_8, .int .i64 a0_9, .int .i64 a0_10]] ?_
          with_reducible refine (revetmentref07_Row.calls a0_0 a0_1 a0_2 a0_3 a0_4 a0_5 a0_6 a0_7 a0_8 a0_9 a0_10 t497 _ A14.out).mono ?_
          rintro e w52 ⟨rfl, hb⟩
          refine ⟨_, rfl, ?_⟩
          replace BK488 := bkb BK488 hb
          replace BK495 := bkb BK495 hb
          replace HB := bst HB hb
          try clear hb; try clear hb2; try clear hk; try clear hi
          refine hK.out _ _ sc (fun hHeld => ?_)
          clear hK K
          apply nm 0
          apply pu 4 31 (bq 8 63) HT_
          apply pu 6 33 (bq 8 127) HT_
          apply pu 7 12 (bq 8 255) HT_
          refine done_ (done_of HT_.out (by kernel_rfl)) ?_
          obtain ⟨hcz53_0, hcz53_1, hcz53_2, hcz53_3, hcz53_4, hcz53_5, hcz53_6, hcz53_7, hcz53_8, hcz53_9, hcz53_10⟩ := cz11 BK488.out
          try go_wp2_with (first | ((with_reducible refine gate_callee (f := 18) rfl ?_); refine goesL_ (some 37) rfl rfl Try.func18 (by kernel_rfl) rfl #[.agg #[.int .i64 a0_0, .int .i64 a0_1, .int .i64 a0_2, .int .i64 a0_3, .int .i64 a0_4, .int .i64 a0_5, .int .i64 a0_6, .int .i64 a0_7, .int .i64 a0_8, .int .i64 a0_9, .int .i64 a0_10], .int .i64 (wrap64 ((wrap64 (t489 * t497)) + x11_1))] rfl (by (try simp only [List.map_toArray, List.map_cons, List.map_nil]); first | done | rfl | (simp only [List.length_drop, List.length_take]; rfl)) ?_; (with_reducible refine (revetmentref08_Of.calls k1 a0_0 a0_1 a0_2 a0_3 a0_4 a0_5 a0_6 a0_7 a0_8 a0_9 a0_10 (wrap64 ((wrap64 (t489 * t497)) + x11_1)) t498 t499 t500 t501 t502 t503 _ A15.out).mono ?_); rintro e w54 ⟨rfl, hb⟩; refine ⟨_, rfl, ?_⟩; have n0_ := bkb BK488 hb; have n1_ := bkb BK495 hb; have n2_ := bst HB hb; clear BK488; clear BK495; clear HB; have BK488 := n0_; have BK495 := n1_; have HB := n2_; clear n0_ n1_ n2_; (try clear hb); (try clear hb2); (try clear hk); (try clear hi)) | ((with_reducible refine gate_dst (N := 13) rfl ?_); refine box_event ?hg (N := 13) ?hd (cs := #[.int .i64 0, .int .i64 0, .int .i64 0, .int .i64 0, .int .i64 0]) (t := 25) ?hr ?_; (case hd => rfl); (case hg => rfl); (case hr => first | (go_simp; done) | (go_simp; rfl)); intro gb504 hg w55 hbox hb; have n0_ := bkb BK488 hb; have n1_ := bkb BK495 hb; have n2_ := bst HB hb; have n3_ := Aside0.mk (hbox); have n4_ := Aside0.mk ((by rw [hg]; exact (below_size (bl HB)) : w.heap.size ≤ gb504)); have n5_ := Aside0.mk ((by rw [hg]; exact (below_size (bl HB)) : w.heap.size ≤ gb504)); have n6_ := Aside0.mk ((by rw [hg]; exact Nat.ne_of_lt (blk_lt (g := gb488) (o := .cells #[.int .i64 a0_0, .int .i64 a0_1, .int .i64 a0_2, .int .i64 a0_3, .int .i64 a0_4, .int .i64 a0_5, .int .i64 a0_6, .int .i64 a0_7, .int .i64 a0_8, .int .i64 a0_9, .int .i64 a0_10] 23 (0, 0)) (by (with_reducible repeat (first | refine blk_drewN ?_ _ | refine blk_drew ?_ | refine blk_alloc ?_ _)); exact BK488.out)) : gb488 ≠ gb504)); have n7_ := Aside0.mk ((by rw [hg]; exact Nat.ne_of_gt (blk_lt (g := gb488) (o := .cells #[.int .i64 a0_0, .int .i64 a0_1, .int .i64 a0_2, .int .i64 a0_3, .int .i64 a0_4, .int .i64 a0_5, .int .i64 a0_6, .int .i64 a0_7, .int .i64 a0_8, .int .i64 a0_9, .int .i64 a0_10] 23 (0, 0)) (by (with_reducible repeat (first | refine blk_drewN ?_ _ | refine blk_drew ?_ | refine blk_alloc ?_ _)); exact BK488.out)) : gb504 ≠ gb488)); have n8_ := Aside0.mk ((by rw [hg]; exact Nat.ne_of_lt (blk_lt (g := gb495) (o := .cells #[.int .i64 t489, .int .i64 t490, .int .i64 t491, .int .i64 t492, .int .i64 t493] 25 (0, 0)) (by (with_reducible repeat (first | refine blk_drewN ?_ _ | refine blk_drew ?_ | refine blk_alloc ?_ _)); exact BK495.out)) : gb495 ≠ gb504)); have n9_ := Aside0.mk ((by rw [hg]; exact Nat.ne_of_gt (blk_lt (g := gb495) (o := .cells #[.int .i64 t489, .int .i64 t490, .int .i64 t491, .int .i64 t492, .int .i64 t493] 25 (0, 0)) (by (with_reducible repeat (first | refine blk_drewN ?_ _ | refine blk_drew ?_ | refine blk_alloc ?_ _)); exact BK495.out)) : gb504 ≠ gb495)); clear BK488; clear BK495; clear HB; have BK488 := n0_; have BK495 := n1_; have HB := n2_; have BK504 := n3_; have GW504 := n4_; have GE504 := n5_; have NB488_504 := n6_; have NB504_488 := n7_; have NB495_504 := n8_; have NB504_495 := n9_; clear n0_ n1_ n2_ n3_ n4_ n5_ n6_ n7_ n8_ n9_; clear hb hbox hg; have hnb56 := NB504_488.out; have hnc56 := NB488_504.out; have hnb57 := NB504_495.out; have hnc57 := NB495_504.out; obtain ⟨hcz58_0, hcz58_1, hcz58_2, hcz58_3, hcz58_4⟩ := cz5 BK504.out; obtain ⟨hfz58_0, hfz58_1, hfz58_2, hfz58_3, hfz58_4⟩ := fz5 BK504.out))
          have n0_ : Aside0 ((((((w55.setCell ⟨gb504, 0, none⟩ (.int .i64 t498)).setCell ⟨gb504, 1, none⟩ (.int .i64 t499)).setCell ⟨gb504, 2, none⟩ (.int .i64 t500)).setCell ⟨gb504, 3, none⟩ (.int .i64 t501)).setCell ⟨gb504, 4, none⟩ (.int .i64 t502)).heap[gb488]? = some (.cells #[.int .i64 a0_0, .int .i64 a0_1, .int .i64 a0_2, .int .i64 a0_3, .int .i64 a0_4, .int .i64 a0_5, .int .i64 a0_6, .int .i64 a0_7, .int .i64 a0_8, .int .i64 a0_9, .int .i64 a0_10] 23 (0, 0))) := ⟨by (with_reducible repeat (first | refine blk_drewN ?_ _ | refine blk_drew ?_ | refine blk_alloc ?_ _)); refine blk_far ?_ NB488_504.out _; (with_reducible repeat (first | refine blk_drewN ?_ _ | refine blk_drew ?_ | refine blk_alloc ?_ _)); refine blk_far ?_ NB488_504.out _; (with_reducible repeat (first | refine blk_drewN ?_ _ | refine blk_drew ?_ | refine blk_alloc ?_ _)); refine blk_far ?_ NB488_504.out _; (with_reducible repeat (first | refine blk_drewN ?_ _ | refine blk_drew ?_ | refine blk_alloc ?_ _)); refine blk_far ?_ NB488_504.out _; (with_reducible repeat (first | refine blk_drewN ?_ _ | refine blk_drew ?_ | refine blk_alloc ?_ _)); refine blk_far ?_ NB488_504.out _; (with_reducible repeat (first | refine blk_drewN ?_ _ | refine blk_drew ?_ | refine blk_alloc ?_ _)); exact BK488.out⟩
          have n1_ : Aside0 ((((((w55.setCell ⟨gb504, 0, none⟩ (.int .i64 t498)).setCell ⟨gb504, 1, none⟩ (.int .i64 t499)).setCell ⟨gb504, 2, none⟩ (.int .i64 t500)).setCell ⟨gb504, 3, none⟩ (.int .i64 t501)).setCell ⟨gb504, 4, none⟩ (.int .i64 t502)).heap[gb495]? = some (.cells #[.int .i64 t489, .int .i64 t490, .int .i64 t491, .int .i64 t492, .int .i64 t493] 25 (0, 0))) := ⟨by (with_reducible repeat (first | refine blk_drewN ?_ _ | refine blk_drew ?_ | refine blk_alloc ?_ _)); refine blk_far ?_ NB495_504.out _; (with_reducible repeat (first | refine blk_drewN ?_ _ | refine blk_drew ?_ | refine blk_alloc ?_ _)); refine blk_far ?_ NB495_504.out _; (with_reducible repeat (first | refine blk_drewN ?_ _ | refine blk_drew ?_ | refine blk_alloc ?_ _)); refine blk_far ?_ NB495_504.out _; (with_reducible repeat (first | refine blk_drewN ?_ _ | refine blk_drew ?_ | refine blk_alloc ?_ _)); refine blk_far ?_ NB495_504.out _; (with_reducible repeat (first | refine blk_drewN ?_ _ | refine blk_drew ?_ | refine blk_alloc ?_ _)); refine blk_far ?_ NB495_504.out _; (with_reducible repeat (first | refine blk_drewN ?_ _ | refine blk_drew ?_ | refine blk_alloc ?_ _)); exact BK495.out⟩
          have n2_ : Aside0 ((((((w55.setCell ⟨gb504, 0, none⟩ (.int .i64 t498)).setCell ⟨gb504, 1, none⟩ (.int .i64 t499)).setCell ⟨gb504, 2, none⟩ (.int .i64 t500)).setCell ⟨gb504, 3, none⟩ (.int .i64 t501)).setCell ⟨gb504, 4, none⟩ (.int .i64 t502)).heap[gb504]? = some (.cells #[.int .i64 t498, .int .i64 t499, .int .i64 t500, .int .i64 t501, .int .i64 t502] 25 (0, 0))) := ⟨by (with_reducible repeat (first | refine blk_drewN ?_ _ | refine blk_drew ?_ | refine blk_alloc ?_ _)); refine blk_put (cs := #[.int .i64 t498, .int .i64 t499, .int .i64 t500, .int .i64 t501, .int .i64 0]) ?_ 4 _ rfl; (with_reducible repeat (first | refine blk_drewN ?_ _ | refine blk_drew ?_ | refine blk_alloc ?_ _)); refine blk_put (cs := #[.int .i64 t498, .int .i64 t499, .int .i64 t500, .int .i64 0, .int .i64 0]) ?_ 3 _ rfl; (with_reducible repeat (first | refine blk_drewN ?_ _ | refine blk_drew ?_ | refine blk_alloc ?_ _)); refine blk_put (cs := #[.int .i64 t498, .int .i64 t499, .int .i64 0, .int .i64 0, .int .i64 0]) ?_ 2 _ rfl; (with_reducible repeat (first | refine blk_drewN ?_ _ | refine blk_drew ?_ | refine blk_alloc ?_ _)); refine blk_put (cs := #[.int .i64 t498, .int .i64 0, .int .i64 0, .int .i64 0, .int .i64 0]) ?_ 1 _ rfl; (with_reducible repeat (first | refine blk_drewN ?_ _ | refine blk_drew ?_ | refine blk_alloc ?_ _)); refine blk_put (cs := #[.int .i64 0, .int .i64 0, .int .i64 0, .int .i64 0, .int .i64 0]) ?_ 0 _ rfl; (with_reducible repeat (first | refine blk_drewN ?_ _ | refine blk_drew ?_ | refine blk_alloc ?_ _)); exact BK504.out⟩
          have n3_ : Aside0 (Below w.heap.size w (((((w55.setCell ⟨gb504, 0, none⟩ (.int .i64 t498)).setCell ⟨gb504, 1, none⟩ (.int .i64 t499)).setCell ⟨gb504, 2, none⟩ (.int .i64 t500)).setCell ⟨gb504, 3, none⟩ (.int .i64 t501)).setCell ⟨gb504, 4, none⟩ (.int .i64 t502))) := ⟨bl HB⟩
          (try clear BK488)
          (try clear BK495)
          (try clear BK504)
          (try clear HB)
          generalize (((((w55.setCell ⟨gb504, 0, none⟩ (.int .i64 t498)).setCell ⟨gb504, 1, none⟩ (.int .i64 t499)).setCell ⟨gb504, 2, none⟩ (.int .i64 t500)).setCell ⟨gb504, 3, none⟩ (.int .i64 t501)).setCell ⟨gb504, 4, none⟩ (.int .i64 t502)) = w59 at n0_ n1_ n2_ n3_ ⊢
          have BK488 := n0_
          have BK495 := n1_
          have BK504 := n2_
          have HB := n3_
          clear n0_ n1_ n2_ n3_
          replace BK488 := Aside0.mk (blk_drew BK488.out)
          replace BK495 := Aside0.mk (blk_drew BK495.out)
          replace BK504 := Aside0.mk (blk_drew BK504.out)
          replace HB := Aside0.mk (below_drew1 HB.out)
          have p505 : 0 ≤ (t501 : Int) := of_decide_eq_true (by first | (with_reducible assumption) | assumption)
          have q505 : t501 < (l1.length : Int) := of_decide_eq_true (by first | (with_reducible assumption) | assumption)
          obtain ⟨ad505, e505, hx505_0⟩ := Kd.at_int HR1.out t501 p505 q505
          have hw505_0 := hx505_0
          cases e505
          replace hx505_0 := (HB.out.cell (World.block_lt_of_cell? w _ hx505_0)).trans hx505_0
          replace p505 := eq_true p505
          replace q505 := eq_true q505
          refine start_ (n := 25) (S := fun w' => w'.cell? ⟨gb504, 0, none⟩ = some (.int .i64 t498) ∧ w'.cell? ⟨gb504, 1, none⟩ = some (.int .i64 t499) ∧ w'.cell? ⟨gb504, 2, none⟩ = some (.int .i64 t500) ∧ w'.cell? ⟨gb504, 3, none⟩ = some (.int .i64 t501) ∧ w'.cell? ⟨gb504, 4, none⟩ = some (.int .i64 t502) ∧ w'.cell? ⟨gb495, 0, none⟩ = some (.int .i64 t489) ∧ w'.cell? ⟨gb495, 1, none⟩ = some (.int .i64 t490) ∧ w'.cell? ⟨gb495, 2, none⟩ = some (.int .i64 t491) ∧ w'.cell? ⟨gb495, 3, none⟩ = some (.int .i64 t492) ∧ w'.cell? ⟨gb495, 4, none⟩ = some (.int .i64 t493) ∧ w'.cell? (ad505.add (t501).toNat) = some (.int .i64 (rd l1 t501))) (ds := []) (bq 25 0) (by kernel_rfl) rfl rfl ⟨(blk_cell BK504.out 0).trans rfl, (blk_cell BK504.out 1).trans rfl, (blk_cell BK504.out 2).trans rfl, (blk_cell BK504.out 3).trans rfl, (blk_cell BK504.out 4).trans rfl, (blk_cell BK495.out 0).trans rfl, (blk_cell BK495.out 1).trans rfl, (blk_cell BK495.out 2).trans rfl, (blk_cell BK495.out 3).trans rfl, (blk_cell BK495.out 4).trans rfl, ((HB.out.cell (World.block_lt_of_cell? w _ hw505_0)).trans hw505_0)⟩ (fun hHeld => ?_); refine with_tabW revetmentref16_others.tab7 revetmentref16_others.bits7 (fun HT_ HW_ => ?_)
          generalize w59.drew = w60 at BK488 BK495 BK504 HB hx505_0 hHeld ⊢
          apply pu 0 40 (bq 25 1) HT_
          apply pu 1 41 (bq 25 3) HT_
          apply pu 2 42 (bq 25 7) HT_
          apply pu 3 43 (bq 25 15) HT_
          apply pu 4 44 (bq 25 31) HT_
          apply pu 5 45 (bq 25 63) HT_
          apply pu 6 46 (bq 25 127) HT_
          apply pu 7 47 (bq 25 255) HT_
          apply pu 8 48 (bq 25 511) HT_
          apply pu 9 49 (bq 25 1023) HT_
          apply pu 11 51 (bq 25 3071) HT_
          apply tu 10 50 (bq 25 4095) HT_ HW_ hHeld
          apply tu 12 52 (bq 25 8191) HT_ HW_ hHeld
          apply pu 13 53 (bq 25 16383) HT_
          apply pu 14 54 (bq 25 32767) HT_
          apply pu 15 55 (bq 25 65535) HT_
          apply pu 16 56 (bq 25 131071) HT_
          apply pu 17 57 (bq 25 262143) HT_
          apply pu 21 61 (bq 25 2359295) HT_
          apply tu 18 58 (bq 25 2621439) HT_ HW_ hHeld
          apply pu 19 59 (bq 25 3145727) HT_
          apply tu 20 60 (bq 25 4194303) HT_ HW_ hHeld
          apply tu 22 62 (bq 25 8388607) HT_ HW_ hHeld
          apply pu 23 63 (bq 25 16777215) HT_
          apply pu 24 64 (bq 25 33554431) HT_
          refine done_ (done_of HT_.out (by kernel_rfl)) ?_
          try go_wp2
          go_roundg k1
          case measure => have := HK1.out; omega
          case rel => exact ⟨(wrap64 (x11_1 + 1)), (by first | rfl | (simp; done) | (simp [*]; done)), H', ⟨by have := HK1.out; omega⟩, ⟨by (with_reducible repeat (first | refine blk_drewN ?_ _ | refine blk_drew ?_ | refine blk_alloc ?_ _)); exact BK488.out⟩, ⟨by (with_reducible repeat (first | refine blk_drewN ?_ _ | refine blk_drew ?_ | refine blk_alloc ?_ _)); exact BK495.out⟩, ⟨bl HB⟩⟩
        ·rw [if_neg c33] at H
         exact absurd H (by simp)
       ·rw [if_neg c32] at H
        exact absurd H (by simp)
      ·rw [if_neg c31] at H
       have c31b0 : (t500 == t491) = false := beq_eq_false_iff_ne.mpr c31
       have c31b1 : (t500 != t491) = true := bne_iff_ne.mpr c31
       have H' := Aside0.mk H
       clear H
       have hnb61 := NB488_495.out
       have hnc61 := NB495_488.out
       obtain ⟨hcz62_0, hcz62_1, hcz62_2, hcz62_3, hcz62_4, hcz62_5, hcz62_6, hcz62_7, hcz62_8, hcz62_9, hcz62_10⟩ := cz11 BK488.out
       try go_wp2_with (first | ((with_reducible refine gate_callee (f := 59) rfl ?_); refine goesL_ (some 23) rfl rfl Try.func59 (by kernel_rfl) rfl #[.agg #[.int .i64 a0_0, .int .i64 a0_1, .int .i64 a0_2, .int .i64 a0_3, .int .i64 a0_4, .int .i64 a0_5, .int .i64 a0_6, .int .i64 a0_7, .int .i64 a0_8, .int .i64 a0_9, .int .i64 a0_10]] rfl (by (try simp only [List.map_toArray, List.map_cons, List.map_nil]); first | done | rfl | (simp only [List.length_drop, List.length_take]; rfl)) ?_; (with_reducible refine (revetmentref07_Row.calls a0_0 a0_1 a0_2 a0_3 a0_4 a0_5 a0_6 a0_7 a0_8 a0_9 a0_10 t496 _ A12.out).mono ?_); rintro e w63 ⟨rfl, hb⟩; refine ⟨_, rfl, ?_⟩; have n0_ := bkb BK488 hb; have n1_ := bkb BK495 hb; have n2_ := bst HB hb; clear BK488; clear BK495; clear HB; have BK488 := n0_; have BK495 := n1_; have HB := n2_; clear n0_ n1_ n2_; (try clear hb); (try clear hb2); (try clear hk); (try clear hi)))
       replace BK488 := Aside0.mk (blk_drew BK488.out)
       replace BK495 := Aside0.mk (blk_drew BK495.out)
       replace HB := Aside0.mk (below_drew1 HB.out)
       refine start_ (n := 8) (S := fun w' => w'.cell? ⟨gb495, 0, none⟩ = some (.int .i64 t489) ∧ w'.cell? ⟨gb495, 1, none⟩ = some (.int .i64 t490) ∧ w'.cell? ⟨gb495, 2, none⟩ = some (.int .i64 t491) ∧ w'.cell? ⟨gb495, 3, none⟩ = some (.int .i64 t492) ∧ w'.cell? ⟨gb495, 4, none⟩ = some (.int .i64 t493) ∧ w'.cell? ⟨gb488, 0, none⟩ = some (.int .i64 a0_0) ∧ w'.cell? ⟨gb488, 1, none⟩ = some (.int .i64 a0_1) ∧ w'.cell? ⟨gb488, 2, none⟩ = some (.int .i64 a0_2) ∧ w'.cell? ⟨gb488, 3, none⟩ = some (.int .i64 a0_3) ∧ w'.cell? ⟨gb488, 4, none⟩ = some (.int .i64 a0_4) ∧ w'.cell? ⟨gb488, 5, none⟩ = some (.int .i64 a0_5) ∧ w'.cell? ⟨gb488, 6, none⟩ = some (.int .i64 a0_6) ∧ w'.cell? ⟨gb488, 7, none⟩ = some (.int .i64 a0_7) ∧ w'.cell? ⟨gb488, 8, none⟩ = some (.int .i64 a0_8) ∧ w'.cell? ⟨gb488, 9, none⟩ = some (.int .i64 a0_9) ∧ w'.cell? ⟨gb488, 10, none⟩ = some (.int .i64 a0_10)) (ds := []) (bq 8 0) (by kernel_rfl) rfl rfl ⟨(blk_cell BK495.out 0).trans rfl, (blk_cell BK495.out 1).trans rfl, (blk_cell BK495.out 2).trans rfl, (blk_cell BK495.out 3).trans rfl, (blk_cell BK495.out 4).trans rfl, (blk_cell BK488.out 0).trans rfl, (blk_cell BK488.out 1).trans rfl, (blk_cell BK488.out 2).trans rfl, (blk_cell BK488.out 3).trans rfl, (blk_cell BK488.out 4).trans rfl, (blk_cell BK488.out 5).trans rfl, (blk_cell BK488.out 6).trans rfl, (blk_cell BK488.out 7).trans rfl, (blk_cell BK488.out 8).trans rfl, (blk_cell BK488.out 9).trans rfl, (blk_cell BK488.out 10).trans rfl⟩ (fun hHeld => ?_); refine with_tabW revetmentref16_others.tab5 revetmentref16_others.bits5 (fun HT_ HW_ => ?_)
       generalize w63.drew = w64 at BK488 BK495 HB hHeld ⊢
       apply pu 0 27 (bq 8 1) HT_
       apply pu 5 32 (bq 8 33) HT_
       apply tu 1 28 (bq 8 35) HT_ HW_ hHeld
       apply tu 2 29 (bq 8 39) HT_ HW_ hHeld
       refine one_ (i := 3) (N := some 30) (bq 8 47) rfl rfl (one_of HT_.out (by kernel_rfl)) (by decide) (fun K hK => ?_)
       refine gs Try.func59 #[.agg #[.int .i64 a0_0, .int .i64 a0_1, .int .i64 a0_2, .int .i64 a0_3, .int .i64 a0_4, .int .i64 a0_5, .int .i64 a0_6, .int .i64 a0_7, .int .i64 a0_8, .int .i64 a0_9, .int .i64 a0_10]] ?_
       with_reducible refine (revetmentref07_Row.calls a0_0 a0_1 a0_2 a0_3 a0_4 a0_5 a0_6 a0_7 a0_8 a0_9 a0_10 t497 _ A14.out).mono ?_
       rintro e w65 ⟨rfl, hb⟩
       refine ⟨_, rfl, ?_⟩
       replace BK488 := bkb BK488 hb
       replace BK495 := bkb BK495 hb
       replace HB := bst HB hb
       try clear hb; try clear hb2; try clear hk; try clear hi
       refine hK.out _ _ sc (fun hHeld => ?_)
       clear hK K
       apply nm 0
       apply pu 4 31 (bq 8 63) HT_
       apply pu 6 33 (bq 8 127) HT_
       apply pu 7 12 (bq 8 255) HT_
       refine done_ (done_of HT_.out (by kernel_rfl)) ?_
       obtain ⟨hcz66_0, hcz66_1, hcz66_2, hcz66_3, hcz66_4, hcz66_5, hcz66_6, hcz66_7, hcz66_8, hcz66_9, hcz66_10⟩ := cz11 BK488.out
       try go_wp2_with (first | ((with_reducible refine gate_callee (f := 18) rfl ?_); refine goesL_ (some 37) rfl rfl Try.func18 (by kernel_rfl) rfl #[.agg #[.int .i64 a0_0, .int .i64 a0_1, .int .i64 a0_2, .int .i64 a0_3, .int .i64 a0_4, .int .i64 a0_5, .int .i64 a0_6, .int .i64 a0_7, .int .i64 a0_8, .int .i64 a0_9, .int .i64 a0_10], .int .i64 (wrap64 ((wrap64 (t489 * t497)) + x11_1))] rfl (by (try simp only [List.map_toArray, List.map_cons, List.map_nil]); first | done | rfl | (simp only [List.length_drop, List.length_take]; rfl)) ?_; (with_reducible refine (revetmentref08_Of.calls k1 a0_0 a0_1 a0_2 a0_3 a0_4 a0_5 a0_6 a0_7 a0_8 a0_9 a0_10 (wrap64 ((wrap64 (t489 * t497)) + x11_1)) t498 t499 t500 t501 t502 t503 _ A15.out).mono ?_); rintro e w67 ⟨rfl, hb⟩; refine ⟨_, rfl, ?_⟩; have n0_ := bkb BK488 hb; have n1_ := bkb BK495 hb; have n2_ := bst HB hb; clear BK488; clear BK495; clear HB; have BK488 := n0_; have BK495 := n1_; have HB := n2_; clear n0_ n1_ n2_; (try clear hb); (try clear hb2); (try clear hk); (try clear hi)) | ((with_reducible refine gate_dst (N := 13) rfl ?_); refine box_event ?hg (N := 13) ?hd (cs := #[.int .i64 0, .int .i64 0, .int .i64 0, .int .i64 0, .int .i64 0]) (t := 25) ?hr ?_; (case hd => rfl); (case hg => rfl); (case hr => first | (go_simp; done) | (go_simp; rfl)); intro gb504 hg w68 hbox hb; have n0_ := bkb BK488 hb; have n1_ := bkb BK495 hb; have n2_ := bst HB hb; have n3_ := Aside0.mk (hbox); have n4_ := Aside0.mk ((by rw [hg]; exact (below_size (bl HB)) : w.heap.size ≤ gb504)); have n5_ := Aside0.mk ((by rw [hg]; exact (below_size (bl HB)) : w.heap.size ≤ gb504)); have n6_ := Aside0.mk ((by rw [hg]; exact Nat.ne_of_lt (blk_lt (g := gb488) (o := .cells #[.int .i64 a0_0, .int .i64 a0_1, .int .i64 a0_2, .int .i64 a0_3, .int .i64 a0_4, .int .i64 a0_5, .int .i64 a0_6, .int .i64 a0_7, .int .i64 a0_8, .int .i64 a0_9, .int .i64 a0_10] 23 (0, 0)) (by (with_reducible repeat (first | refine blk_drewN ?_ _ | refine blk_drew ?_ | refine blk_alloc ?_ _)); exact BK488.out)) : gb488 ≠ gb504)); have n7_ := Aside0.mk ((by rw [hg]; exact Nat.ne_of_gt (blk_lt (g := gb488) (o := .cells #[.int .i64 a0_0, .int .i64 a0_1, .int .i64 a0_2, .int .i64 a0_3, .int .i64 a0_4, .int .i64 a0_5, .int .i64 a0_6, .int .i64 a0_7, .int .i64 a0_8, .int .i64 a0_9, .int .i64 a0_10] 23 (0, 0)) (by (with_reducible repeat (first | refine blk_drewN ?_ _ | refine blk_drew ?_ | refine blk_alloc ?_ _)); exact BK488.out)) : gb504 ≠ gb488)); have n8_ := Aside0.mk ((by rw [hg]; exact Nat.ne_of_lt (blk_lt (g := gb495) (o := .cells #[.int .i64 t489, .int .i64 t490, .int .i64 t491, .int .i64 t492, .int .i64 t493] 25 (0, 0)) (by (with_reducible repeat (first | refine blk_drewN ?_ _ | refine blk_drew ?_ | refine blk_alloc ?_ _)); exact BK495.out)) : gb495 ≠ gb504)); have n9_ := Aside0.mk ((by rw [hg]; exact Nat.ne_of_gt (blk_lt (g := gb495) (o := .cells #[.int .i64 t489, .int .i64 t490, .int .i64 t491, .int .i64 t492, .int .i64 t493] 25 (0, 0)) (by (with_reducible repeat (first | refine blk_drewN ?_ _ | refine blk_drew ?_ | refine blk_alloc ?_ _)); exact BK495.out)) : gb504 ≠ gb495)); clear BK488; clear BK495; clear HB; have BK488 := n0_; have BK495 := n1_; have HB := n2_; have BK504 := n3_; have GW504 := n4_; have GE504 := n5_; have NB488_504 := n6_; have NB504_488 := n7_; have NB495_504 := n8_; have NB504_495 := n9_; clear n0_ n1_ n2_ n3_ n4_ n5_ n6_ n7_ n8_ n9_; clear hb hbox hg; have hnb69 := NB504_488.out; have hnc69 := NB488_504.out; have hnb70 := NB504_495.out; have hnc70 := NB495_504.out; obtain ⟨hcz71_0, hcz71_1, hcz71_2, hcz71_3, hcz71_4⟩ := cz5 BK504.out; obtain ⟨hfz71_0, hfz71_1, hfz71_2, hfz71_3, hfz71_4⟩ := fz5 BK504.out))
       have n0_ : Aside0 ((((((w68.setCell ⟨gb504, 0, none⟩ (.int .i64 t498)).setCell ⟨gb504, 1, none⟩ (.int .i64 t499)).setCell ⟨gb504, 2, none⟩ (.int .i64 t500)).setCell ⟨gb504, 3, none⟩ (.int .i64 t501)).setCell ⟨gb504, 4, none⟩ (.int .i64 t502)).heap[gb488]? = some (.cells #[.int .i64 a0_0, .int .i64 a0_1, .int .i64 a0_2, .int .i64 a0_3, .int .i64 a0_4, .int .i64 a0_5, .int .i64 a0_6, .int .i64 a0_7, .int .i64 a0_8, .int .i64 a0_9, .int .i64 a0_10] 23 (0, 0))) := ⟨by (with_reducible repeat (first | refine blk_drewN ?_ _ | refine blk_drew ?_ | refine blk_alloc ?_ _)); refine blk_far ?_ NB488_504.out _; (with_reducible repeat (first | refine blk_drewN ?_ _ | refine blk_drew ?_ | refine blk_alloc ?_ _)); refine blk_far ?_ NB488_504.out _; (with_reducible repeat (first | refine blk_drewN ?_ _ | refine blk_drew ?_ | refine blk_alloc ?_ _)); refine blk_far ?_ NB488_504.out _; (with_reducible repeat (first | refine blk_drewN ?_ _ | refine blk_drew ?_ | refine blk_alloc ?_ _)); refine blk_far ?_ NB488_504.out _; (with_reducible repeat (first | refine blk_drewN ?_ _ | refine blk_drew ?_ | refine blk_alloc ?_ _)); refine blk_far ?_ NB488_504.out _; (with_reducible repeat (first | refine blk_drewN ?_ _ | refine blk_drew ?_ | refine blk_alloc ?_ _)); exact BK488.out⟩
       have n1_ : Aside0 ((((((w68.setCell ⟨gb504, 0, none⟩ (.int .i64 t498)).setCell ⟨gb504, 1, none⟩ (.int .i64 t499)).setCell ⟨gb504, 2, none⟩ (.int .i64 t500)).setCell ⟨gb504, 3, none⟩ (.int .i64 t501)).setCell ⟨gb504, 4, none⟩ (.int .i64 t502)).heap[gb495]? = some (.cells #[.int .i64 t489, .int .i64 t490, .int .i64 t491, .int .i64 t492, .int .i64 t493] 25 (0, 0))) := ⟨by (with_reducible repeat (first | refine blk_drewN ?_ _ | refine blk_drew ?_ | refine blk_alloc ?_ _)); refine blk_far ?_ NB495_504.out _; (with_reducible repeat (first | refine blk_drewN ?_ _ | refine blk_drew ?_ | refine blk_alloc ?_ _)); refine blk_far ?_ NB495_504.out _; (with_reducible repeat (first | refine blk_drewN ?_ _ | refine blk_drew ?_ | refine blk_alloc ?_ _)); refine blk_far ?_ NB495_504.out _; (with_reducible repeat (first | refine blk_drewN ?_ _ | refine blk_drew ?_ | refine blk_alloc ?_ _)); refine blk_far ?_ NB495_504.out _; (with_reducible repeat (first | refine blk_drewN ?_ _ | refine blk_drew ?_ | refine blk_alloc ?_ _)); refine blk_far ?_ NB495_504.out _; (with_reducible repeat (first | refine blk_drewN ?_ _ | refine blk_drew ?_ | refine blk_alloc ?_ _)); exact BK495.out⟩
       have n2_ : Aside0 ((((((w68.setCell ⟨gb504, 0, none⟩ (.int .i64 t498)).setCell ⟨gb504, 1, none⟩ (.int .i64 t499)).setCell ⟨gb504, 2, none⟩ (.int .i64 t500)).setCell ⟨gb504, 3, none⟩ (.int .i64 t501)).setCell ⟨gb504, 4, none⟩ (.int .i64 t502)).heap[gb504]? = some (.cells #[.int .i64 t498, .int .i64 t499, .int .i64 t500, .int .i64 t501, .int .i64 t502] 25 (0, 0))) := ⟨by (with_reducible repeat (first | refine blk_drewN ?_ _ | refine blk_drew ?_ | refine blk_alloc ?_ _)); refine blk_put (cs := #[.int .i64 t498, .int .i64 t499, .int .i64 t500, .int .i64 t501, .int .i64 0]) ?_ 4 _ rfl; (with_reducible repeat (first | refine blk_drewN ?_ _ | refine blk_drew ?_ | refine blk_alloc ?_ _)); refine blk_put (cs := #[.int .i64 t498, .int .i64 t499, .int .i64 t500, .int .i64 0, .int .i64 0]) ?_ 3 _ rfl; (with_reducible repeat (first | refine blk_drewN ?_ _ | refine blk_drew ?_ | refine blk_alloc ?_ _)); refine blk_put (cs := #[.int .i64 t498, .int .i64 t499, .int .i64 0, .int .i64 0, .int .i64 0]) ?_ 2 _ rfl; (with_reducible repeat (first | refine blk_drewN ?_ _ | refine blk_drew ?_ | refine blk_alloc ?_ _)); refine blk_put (cs := #[.int .i64 t498, .int .i64 0, .int .i64 0, .int .i64 0, .int .i64 0]) ?_ 1 _ rfl; (with_reducible repeat (first | refine blk_drewN ?_ _ | refine blk_drew ?_ | refine blk_alloc ?_ _)); refine blk_put (cs := #[.int .i64 0, .int .i64 0, .int .i64 0, .int .i64 0, .int .i64 0]) ?_ 0 _ rfl; (with_reducible repeat (first | refine blk_drewN ?_ _ | refine blk_drew ?_ | refine blk_alloc ?_ _)); exact BK504.out⟩
       have n3_ : Aside0 (Below w.heap.size w (((((w68.setCell ⟨gb504, 0, none⟩ (.int .i64 t498)).setCell ⟨gb504, 1, none⟩ (.int .i64 t499)).setCell ⟨gb504, 2, none⟩ (.int .i64 t500)).setCell ⟨gb504, 3, none⟩ (.int .i64 t501)).setCell ⟨gb504, 4, none⟩ (.int .i64 t502))) := ⟨bl HB⟩
       (try clear BK488)
       (try clear BK495)
       (try clear BK504)
       (try clear HB)
       generalize (((((w68.setCell ⟨gb504, 0, none⟩ (.int .i64 t498)).setCell ⟨gb504, 1, none⟩ (.int .i64 t499)).setCell ⟨gb504, 2, none⟩ (.int .i64 t500)).setCell ⟨gb504, 3, none⟩ (.int .i64 t501)).setCell ⟨gb504, 4, none⟩ (.int .i64 t502)) = w72 at n0_ n1_ n2_ n3_ ⊢
       have BK488 := n0_
       have BK495 := n1_
       have BK504 := n2_
       have HB := n3_
       clear n0_ n1_ n2_ n3_
       replace BK488 := Aside0.mk (blk_drew BK488.out)
       replace BK495 := Aside0.mk (blk_drew BK495.out)
       replace BK504 := Aside0.mk (blk_drew BK504.out)
       replace HB := Aside0.mk (below_drew1 HB.out)
       refine start_ (n := 25) (S := fun w' => w'.cell? ⟨gb504, 0, none⟩ = some (.int .i64 t498) ∧ w'.cell? ⟨gb504, 1, none⟩ = some (.int .i64 t499) ∧ w'.cell? ⟨gb504, 2, none⟩ = some (.int .i64 t500) ∧ w'.cell? ⟨gb504, 3, none⟩ = some (.int .i64 t501) ∧ w'.cell? ⟨gb504, 4, none⟩ = some (.int .i64 t502) ∧ w'.cell? ⟨gb495, 0, none⟩ = some (.int .i64 t489) ∧ w'.cell? ⟨gb495, 1, none⟩ = some (.int .i64 t490) ∧ w'.cell? ⟨gb495, 2, none⟩ = some (.int .i64 t491) ∧ w'.cell? ⟨gb495, 3, none⟩ = some (.int .i64 t492) ∧ w'.cell? ⟨gb495, 4, none⟩ = some (.int .i64 t493)) (ds := []) (bq 25 0) (by kernel_rfl) rfl rfl ⟨(blk_cell BK504.out 0).trans rfl, (blk_cell BK504.out 1).trans rfl, (blk_cell BK504.out 2).trans rfl, (blk_cell BK504.out 3).trans rfl, (blk_cell BK504.out 4).trans rfl, (blk_cell BK495.out 0).trans rfl, (blk_cell BK495.out 1).trans rfl, (blk_cell BK495.out 2).trans rfl, (blk_cell BK495.out 3).trans rfl, (blk_cell BK495.out 4).trans rfl⟩ (fun hHeld => ?_); refine with_tabW revetmentref16_others.tab7 revetmentref16_others.bits7 (fun HT_ HW_ => ?_)
       generalize w72.drew = w73 at BK488 BK495 BK504 HB hHeld ⊢
       apply pu 0 40 (bq 25 1) HT_
       apply pu 1 41 (bq 25 3) HT_
       apply pu 2 42 (bq 25 7) HT_
       apply pu 3 43 (bq 25 15) HT_
       apply pu 4 44 (bq 25 31) HT_
       apply pu 5 45 (bq 25 63) HT_
       apply pu 6 46 (bq 25 127) HT_
       apply pu 7 47 (bq 25 255) HT_
       apply pu 8 48 (bq 25 511) HT_
       apply pu 9 49 (bq 25 1023) HT_
       apply pu 11 51 (bq 25 3071) HT_
       apply tu 10 50 (bq 25 4095) HT_ HW_ hHeld
       apply tu 12 52 (bq 25 8191) HT_ HW_ hHeld
       apply pu 13 53 (bq 25 16383) HT_
       apply pu 14 54 (bq 25 32767) HT_
       apply pu 15 55 (bq 25 65535) HT_
       apply po 16 56 (bq 25 131071) HT_
       apply po 17 57 (bq 25 262143) HT_
       apply po 18 58 (bq 25 524287) HT_
       apply po 19 59 (bq 25 1048575) HT_
       apply po 20 60 (bq 25 2097151) HT_
       apply po 21 61 (bq 25 4194303) HT_
       apply po 22 62 (bq 25 8388607) HT_
       apply po 23 63 (bq 25 16777215) HT_
       apply pu 24 64 (bq 25 33554431) HT_
       refine done_ (done_of HT_.out (by kernel_rfl)) ?_
       try go_wp2
       go_roundg k1
       case measure => have := HK1.out; omega
       case rel => exact ⟨(wrap64 (x11_1 + 1)), (by first | rfl | (simp; done) | (simp [*]; done)), H', ⟨by have := HK1.out; omega⟩, ⟨by (with_reducible repeat (first | refine blk_drewN ?_ _ | refine blk_drew ?_ | refine blk_alloc ?_ _)); exact BK488.out⟩, ⟨by (with_reducible repeat (first | refine blk_drewN ?_ _ | refine blk_drew ?_ | refine blk_alloc ?_ _)); exact BK495.out⟩, ⟨bl HB⟩⟩
     ·rw [if_neg c30] at H
      have c30b0 : decide ((wrap64 ((wrap64 (t489 * t497)) + x11_1)) < a3) = false := decide_eq_false c30
      clear c30
      have H' := Aside0.mk H
      clear H
      have hnb74 := NB488_495.out
      have hnc74 := NB495_488.out
      obtain ⟨hcz75_0, hcz75_1, hcz75_2, hcz75_3, hcz75_4, hcz75_5, hcz75_6, hcz75_7, hcz75_8, hcz75_9, hcz75_10⟩ := cz11 BK488.out
      try go_wp2_with (first | ((with_reducible refine gate_callee (f := 59) rfl ?_); refine goesL_ (some 23) rfl rfl Try.func59 (by kernel_rfl) rfl #[.agg #[.int .i64 a0_0, .int .i64 a0_1, .int .i64 a0_2, .int .i64 a0_3, .int .i64 a0_4, .int .i64 a0_5, .int .i64 a0_6, .int .i64 a0_7, .int .i64 a0_8, .int .i64 a0_9, .int .i64 a0_10]] rfl (by (try simp only [List.map_toArray, List.map_cons, List.map_nil]); first | done | rfl | (simp only [List.length_drop, List.length_take]; rfl)) ?_; (with_reducible refine (revetmentref07_Row.calls a0_0 a0_1 a0_2 a0_3 a0_4 a0_5 a0_6 a0_7 a0_8 a0_9 a0_10 t496 _ A12.out).mono ?_); rintro e w76 ⟨rfl, hb⟩; refine ⟨_, rfl, ?_⟩; have n0_ := bkb BK488 hb; have n1_ := bkb BK495 hb; have n2_ := bst HB hb; clear BK488; clear BK495; clear HB; have BK488 := n0_; have BK495 := n1_; have HB := n2_; clear n0_ n1_ n2_; (try clear hb); (try clear hb2); (try clear hk); (try clear hi)))
      replace BK488 := Aside0.mk (blk_drew BK488.out)
      replace BK495 := Aside0.mk (blk_drew BK495.out)
      replace HB := Aside0.mk (below_drew1 HB.out)
      refine start_ (n := 8) (S := fun w' => w'.cell? ⟨gb495, 0, none⟩ = some (.int .i64 t489) ∧ w'.cell? ⟨gb495, 1, none⟩ = some (.int .i64 t490) ∧ w'.cell? ⟨gb495, 2, none⟩ = some (.int .i64 t491) ∧ w'.cell? ⟨gb495, 3, none⟩ = some (.int .i64 t492) ∧ w'.cell? ⟨gb495, 4, none⟩ = some (.int .i64 t493) ∧ w'.cell? ⟨gb488, 0, none⟩ = some (.int .i64 a0_0) ∧ w'.cell? ⟨gb488, 1, none⟩ = some (.int .i64 a0_1) ∧ w'.cell? ⟨gb488, 2, none⟩ = some (.int .i64 a0_2) ∧ w'.cell? ⟨gb488, 3, none⟩ = some (.int .i64 a0_3) ∧ w'.cell? ⟨gb488, 4, none⟩ = some (.int .i64 a0_4) ∧ w'.cell? ⟨gb488, 5, none⟩ = some (.int .i64 a0_5) ∧ w'.cell? ⟨gb488, 6, none⟩ = some (.int .i64 a0_6) ∧ w'.cell? ⟨gb488, 7, none⟩ = some (.int .i64 a0_7) ∧ w'.cell? ⟨gb488, 8, none⟩ = some (.int .i64 a0_8) ∧ w'.cell? ⟨gb488, 9, none⟩ = some (.int .i64 a0_9) ∧ w'.cell? ⟨gb488, 10, none⟩ = some (.int .i64 a0_10)) (ds := []) (bq 8 0) (by kernel_rfl) rfl rfl ⟨(blk_cell BK495.out 0).trans rfl, (blk_cell BK495.out 1).trans rfl, (blk_cell BK495.out 2).trans rfl, (blk_cell BK495.out 3).trans rfl, (blk_cell BK495.out 4).trans rfl, (blk_cell BK488.out 0).trans rfl, (blk_cell BK488.out 1).trans rfl, (blk_cell BK488.out 2).trans rfl, (blk_cell BK488.out 3).trans rfl, (blk_cell BK488.out 4).trans rfl, (blk_cell BK488.out 5).trans rfl, (blk_cell BK488.out 6).trans rfl, (blk_cell BK488.out 7).trans rfl, (blk_cell BK488.out 8).trans rfl, (blk_cell BK488.out 9).trans rfl, (blk_cell BK488.out 10).trans rfl⟩ (fun hHeld => ?_); refine with_tabW revetmentref16_others.tab5 revetmentref16_others.bits5 (fun HT_ HW_ => ?_)
      generalize w76.drew = w77 at BK488 BK495 HB hHeld ⊢
      apply pu 0 27 (bq 8 1) HT_
      apply pu 5 32 (bq 8 33) HT_
      apply tu 1 28 (bq 8 35) HT_ HW_ hHeld
      apply tu 2 29 (bq 8 39) HT_ HW_ hHeld
      refine one_ (i := 3) (N := some 30) (bq 8 47) rfl rfl (one_of HT_.out (by kernel_rfl)) (by decide) (fun K hK => ?_)
      refine gs Try.func59 #[.agg #[.int .i64 a0_0, .int .i64 a0_1, .int .i64 a0_2, .int .i64 a0_3, .int .i64 a0_4, .int .i64 a0_5, .int .i64 a0_6, .int .i64 a0_7, .int .i64 a0_8, .int .i64 a0_9, .int .i64 a0_10]] ?_
      with_reducible refine (revetmentref07_Row.calls a0_0 a0_1 a0_2 a0_3 a0_4 a0_5 a0_6 a0_7 a0_8 a0_9 a0_10 t497 _ A14.out).mono ?_
      rintro e w78 ⟨rfl, hb⟩
      refine ⟨_, rfl, ?_⟩
      replace BK488 := bkb BK488 hb
      replace BK495 := bkb BK495 hb
      replace HB := bst HB hb
      try clear hb; try clear hb2; try clear hk; try clear hi
      refine hK.out _ _ sc (fun hHeld => ?_)
      clear hK K
      apply nm 0
      apply pu 4 31 (bq 8 63) HT_
      apply pu 6 33 (bq 8 127) HT_
      apply pu 7 12 (bq 8 255) HT_
      refine done_ (done_of HT_.out (by kernel_rfl)) ?_
      obtain ⟨hcz79_0, hcz79_1, hcz79_2, hcz79_3, hcz79_4, hcz79_5, hcz79_6, hcz79_7, hcz79_8, hcz79_9, hcz79_10⟩ := cz11 BK488.out
      try go_wp2_with (first | ((with_reducible refine gate_callee (f := 18) rfl ?_); refine goesL_ (some 37) rfl rfl Try.func18 (by kernel_rfl) rfl #[.agg #[.int .i64 a0_0, .int .i64 a0_1, .int .i64 a0_2, .int .i64 a0_3, .int .i64 a0_4, .int .i64 a0_5, .int .i64 a0_6, .int .i64 a0_7, .int .i64 a0_8, .int .i64 a0_9, .int .i64 a0_10], .int .i64 (wrap64 ((wrap64 (t489 * t497)) + x11_1))] rfl (by (try simp only [List.map_toArray, List.map_cons, List.map_nil]); first | done | rfl | (simp only [List.length_drop, List.length_take]; rfl)) ?_; (with_reducible refine (revetmentref08_Of.calls k1 a0_0 a0_1 a0_2 a0_3 a0_4 a0_5 a0_6 a0_7 a0_8 a0_9 a0_10 (wrap64 ((wrap64 (t489 * t497)) + x11_1)) t498 t499 t500 t501 t502 t503 _ A15.out).mono ?_); rintro e w80 ⟨rfl, hb⟩; refine ⟨_, rfl, ?_⟩; have n0_ := bkb BK488 hb; have n1_ := bkb BK495 hb; have n2_ := bst HB hb; clear BK488; clear BK495; clear HB; have BK488 := n0_; have BK495 := n1_; have HB := n2_; clear n0_ n1_ n2_; (try clear hb); (try clear hb2); (try clear hk); (try clear hi)) | ((with_reducible refine gate_dst (N := 13) rfl ?_); refine box_event ?hg (N := 13) ?hd (cs := #[.int .i64 0, .int .i64 0, .int .i64 0, .int .i64 0, .int .i64 0]) (t := 25) ?hr ?_; (case hd => rfl); (case hg => rfl); (case hr => first | (go_simp; done) | (go_simp; rfl)); intro gb504 hg w81 hbox hb; have n0_ := bkb BK488 hb; have n1_ := bkb BK495 hb; have n2_ := bst HB hb; have n3_ := Aside0.mk (hbox); have n4_ := Aside0.mk ((by rw [hg]; exact (below_size (bl HB)) : w.heap.size ≤ gb504)); have n5_ := Aside0.mk ((by rw [hg]; exact (below_size (bl HB)) : w.heap.size ≤ gb504)); have n6_ := Aside0.mk ((by rw [hg]; exact Nat.ne_of_lt (blk_lt (g := gb488) (o := .cells #[.int .i64 a0_0, .int .i64 a0_1, .int .i64 a0_2, .int .i64 a0_3, .int .i64 a0_4, .int .i64 a0_5, .int .i64 a0_6, .int .i64 a0_7, .int .i64 a0_8, .int .i64 a0_9, .int .i64 a0_10] 23 (0, 0)) (by (with_reducible repeat (first | refine blk_drewN ?_ _ | refine blk_drew ?_ | refine blk_alloc ?_ _)); exact BK488.out)) : gb488 ≠ gb504)); have n7_ := Aside0.mk ((by rw [hg]; exact Nat.ne_of_gt (blk_lt (g := gb488) (o := .cells #[.int .i64 a0_0, .int .i64 a0_1, .int .i64 a0_2, .int .i64 a0_3, .int .i64 a0_4, .int .i64 a0_5, .int .i64 a0_6, .int .i64 a0_7, .int .i64 a0_8, .int .i64 a0_9, .int .i64 a0_10] 23 (0, 0)) (by (with_reducible repeat (first | refine blk_drewN ?_ _ | refine blk_drew ?_ | refine blk_alloc ?_ _)); exact BK488.out)) : gb504 ≠ gb488)); have n8_ := Aside0.mk ((by rw [hg]; exact Nat.ne_of_lt (blk_lt (g := gb495) (o := .cells #[.int .i64 t489, .int .i64 t490, .int .i64 t491, .int .i64 t492, .int .i64 t493] 25 (0, 0)) (by (with_reducible repeat (first | refine blk_drewN ?_ _ | refine blk_drew ?_ | refine blk_alloc ?_ _)); exact BK495.out)) : gb495 ≠ gb504)); have n9_ := Aside0.mk ((by rw [hg]; exact Nat.ne_of_gt (blk_lt (g := gb495) (o := .cells #[.int .i64 t489, .int .i64 t490, .int .i64 t491, .int .i64 t492, .int .i64 t493] 25 (0, 0)) (by (with_reducible repeat (first | refine blk_drewN ?_ _ | refine blk_drew ?_ | refine blk_alloc ?_ _)); exact BK495.out)) : gb504 ≠ gb495)); clear BK488; clear BK495; clear HB; have BK488 := n0_; have BK495 := n1_; have HB := n2_; have BK504 := n3_; have GW504 := n4_; have GE504 := n5_; have NB488_504 := n6_; have NB504_488 := n7_; have NB495_504 := n8_; have NB504_495 := n9_; clear n0_ n1_ n2_ n3_ n4_ n5_ n6_ n7_ n8_ n9_; clear hb hbox hg; have hnb82 := NB504_488.out; have hnc82 := NB488_504.out; have hnb83 := NB504_495.out; have hnc83 := NB495_504.out; obtain ⟨hcz84_0, hcz84_1, hcz84_2, hcz84_3, hcz84_4⟩ := cz5 BK504.out; obtain ⟨hfz84_0, hfz84_1, hfz84_2, hfz84_3, hfz84_4⟩ := fz5 BK504.out))
      have n0_ : Aside0 ((((((w81.setCell ⟨gb504, 0, none⟩ (.int .i64 t498)).setCell ⟨gb504, 1, none⟩ (.int .i64 t499)).setCell ⟨gb504, 2, none⟩ (.int .i64 t500)).setCell ⟨gb504, 3, none⟩ (.int .i64 t501)).setCell ⟨gb504, 4, none⟩ (.int .i64 t502)).heap[gb488]? = some (.cells #[.int .i64 a0_0, .int .i64 a0_1, .int .i64 a0_2, .int .i64 a0_3, .int .i64 a0_4, .int .i64 a0_5, .int .i64 a0_6, .int .i64 a0_7, .int .i64 a0_8, .int .i64 a0_9, .int .i64 a0_10] 23 (0, 0))) := ⟨by (with_reducible repeat (first | refine blk_drewN ?_ _ | refine blk_drew ?_ | refine blk_alloc ?_ _)); refine blk_far ?_ NB488_504.out _; (with_reducible repeat (first | refine blk_drewN ?_ _ | refine blk_drew ?_ | refine blk_alloc ?_ _)); refine blk_far ?_ NB488_504.out _; (with_reducible repeat (first | refine blk_drewN ?_ _ | refine blk_drew ?_ | refine blk_alloc ?_ _)); refine blk_far ?_ NB488_504.out _; (with_reducible repeat (first | refine blk_drewN ?_ _ | refine blk_drew ?_ | refine blk_alloc ?_ _)); refine blk_far ?_ NB488_504.out _; (with_reducible repeat (first | refine blk_drewN ?_ _ | refine blk_drew ?_ | refine blk_alloc ?_ _)); refine blk_far ?_ NB488_504.out _; (with_reducible repeat (first | refine blk_drewN ?_ _ | refine blk_drew ?_ | refine blk_alloc ?_ _)); exact BK488.out⟩
      have n1_ : Aside0 ((((((w81.setCell ⟨gb504, 0, none⟩ (.int .i64 t498)).setCell ⟨gb504, 1, none⟩ (.int .i64 t499)).setCell ⟨gb504, 2, none⟩ (.int .i64 t500)).setCell ⟨gb504, 3, none⟩ (.int .i64 t501)).setCell ⟨gb504, 4, none⟩ (.int .i64 t502)).heap[gb495]? = some (.cells #[.int .i64 t489, .int .i64 t490, .int .i64 t491, .int .i64 t492, .int .i64 t493] 25 (0, 0))) := ⟨by (with_reducible repeat (first | refine blk_drewN ?_ _ | refine blk_drew ?_ | refine blk_alloc ?_ _)); refine blk_far ?_ NB495_504.out _; (with_reducible repeat (first | refine blk_drewN ?_ _ | refine blk_drew ?_ | refine blk_alloc ?_ _)); refine blk_far ?_ NB495_504.out _; (with_reducible repeat (first | refine blk_drewN ?_ _ | refine blk_drew ?_ | refine blk_alloc ?_ _)); refine blk_far ?_ NB495_504.out _; (with_reducible repeat (first | refine blk_drewN ?_ _ | refine blk_drew ?_ | refine blk_alloc ?_ _)); refine blk_far ?_ NB495_504.out _; (with_reducible repeat (first | refine blk_drewN ?_ _ | refine blk_drew ?_ | refine blk_alloc ?_ _)); refine blk_far ?_ NB495_504.out _; (with_reducible repeat (first | refine blk_drewN ?_ _ | refine blk_drew ?_ | refine blk_alloc ?_ _)); exact BK495.out⟩
      have n2_ : Aside0 ((((((w81.setCell ⟨gb504, 0, none⟩ (.int .i64 t498)).setCell ⟨gb504, 1, none⟩ (.int .i64 t499)).setCell ⟨gb504, 2, none⟩ (.int .i64 t500)).setCell ⟨gb504, 3, none⟩ (.int .i64 t501)).setCell ⟨gb504, 4, none⟩ (.int .i64 t502)).heap[gb504]? = some (.cells #[.int .i64 t498, .int .i64 t499, .int .i64 t500, .int .i64 t501, .int .i64 t502] 25 (0, 0))) := ⟨by (with_reducible repeat (first | refine blk_drewN ?_ _ | refine blk_drew ?_ | refine blk_alloc ?_ _)); refine blk_put (cs := #[.int .i64 t498, .int .i64 t499, .int .i64 t500, .int .i64 t501, .int .i64 0]) ?_ 4 _ rfl; (with_reducible repeat (first | refine blk_drewN ?_ _ | refine blk_drew ?_ | refine blk_alloc ?_ _)); refine blk_put (cs := #[.int .i64 t498, .int .i64 t499, .int .i64 t500, .int .i64 0, .int .i64 0]) ?_ 3 _ rfl; (with_reducible repeat (first | refine blk_drewN ?_ _ | refine blk_drew ?_ | refine blk_alloc ?_ _)); refine blk_put (cs := #[.int .i64 t498, .int .i64 t499, .int .i64 0, .int .i64 0, .int .i64 0]) ?_ 2 _ rfl; (with_reducible repeat (first | refine blk_drewN ?_ _ | refine blk_drew ?_ | refine blk_alloc ?_ _)); refine blk_put (cs := #[.int .i64 t498, .int .i64 0, .int .i64 0, .int .i64 0, .int .i64 0]) ?_ 1 _ rfl; (with_reducible repeat (first | refine blk_drewN ?_ _ | refine blk_drew ?_ | refine blk_alloc ?_ _)); refine blk_put (cs := #[.int .i64 0, .int .i64 0, .int .i64 0, .int .i64 0, .int .i64 0]) ?_ 0 _ rfl; (with_reducible repeat (first | refine blk_drewN ?_ _ | refine blk_drew ?_ | refine blk_alloc ?_ _)); exact BK504.out⟩
      have n3_ : Aside0 (Below w.heap.size w (((((w81.setCell ⟨gb504, 0, none⟩ (.int .i64 t498)).setCell ⟨gb504, 1, none⟩ (.int .i64 t499)).setCell ⟨gb504, 2, none⟩ (.int .i64 t500)).setCell ⟨gb504, 3, none⟩ (.int .i64 t501)).setCell ⟨gb504, 4, none⟩ (.int .i64 t502))) := ⟨bl HB⟩
      (try clear BK488)
      (try clear BK495)
      (try clear BK504)
      (try clear HB)
      generalize (((((w81.setCell ⟨gb504, 0, none⟩ (.int .i64 t498)).setCell ⟨gb504, 1, none⟩ (.int .i64 t499)).setCell ⟨gb504, 2, none⟩ (.int .i64 t500)).setCell ⟨gb504, 3, none⟩ (.int .i64 t501)).setCell ⟨gb504, 4, none⟩ (.int .i64 t502)) = w85 at n0_ n1_ n2_ n3_ ⊢
      have BK488 := n0_
      have BK495 := n1_
      have BK504 := n2_
      have HB := n3_
      clear n0_ n1_ n2_ n3_
      replace BK488 := Aside0.mk (blk_drew BK488.out)
      replace BK495 := Aside0.mk (blk_drew BK495.out)
      replace BK504 := Aside0.mk (blk_drew BK504.out)
      replace HB := Aside0.mk (below_drew1 HB.out)
      refine start_ (n := 25) (S := fun w' => True) (ds := []) (bq 25 0) (by kernel_rfl) rfl rfl trivial (fun hHeld => ?_); refine with_tabW revetmentref16_others.tab7 revetmentref16_others.bits7 (fun HT_ HW_ => ?_)
      generalize w85.drew = w86 at BK488 BK495 BK504 HB hHeld ⊢
      apply pu 0 40 (bq 25 1) HT_
      apply pu 1 41 (bq 25 3) HT_
      apply pu 2 42 (bq 25 7) HT_
      apply pu 3 43 (bq 25 15) HT_
      apply pu 4 44 (bq 25 31) HT_
      apply pu 5 45 (bq 25 63) HT_
      apply pu 6 46 (bq 25 127) HT_
      apply pu 7 47 (bq 25 255) HT_
      apply pu 8 48 (bq 25 511) HT_
      apply po 9 49 (bq 25 1023) HT_
      apply po 10 50 (bq 25 2047) HT_
      apply po 11 51 (bq 25 4095) HT_
      apply po 12 52 (bq 25 8191) HT_
      apply po 13 53 (bq 25 16383) HT_
      apply pu 14 54 (bq 25 32767) HT_
      apply pu 15 55 (bq 25 65535) HT_
      apply po 16 56 (bq 25 131071) HT_
      apply po 17 57 (bq 25 262143) HT_
      apply po 18 58 (bq 25 524287) HT_
      apply po 19 59 (bq 25 1048575) HT_
      apply po 20 60 (bq 25 2097151) HT_
      apply po 21 61 (bq 25 4194303) HT_
      apply po 22 62 (bq 25 8388607) HT_
      apply po 23 63 (bq 25 16777215) HT_
      apply pu 24 64 (bq 25 33554431) HT_
      refine done_ (done_of HT_.out (by kernel_rfl)) ?_
      try go_wp2
      go_roundg k1
      case measure => have := HK1.out; omega
      case rel => exact ⟨(wrap64 (x11_1 + 1)), (by first | rfl | (simp; done) | (simp [*]; done)), H', ⟨by have := HK1.out; omega⟩, ⟨by (with_reducible repeat (first | refine blk_drewN ?_ _ | refine blk_drew ?_ | refine blk_alloc ?_ _)); exact BK488.out⟩, ⟨by (with_reducible repeat (first | refine blk_drewN ?_ _ | refine blk_drew ?_ | refine blk_alloc ?_ _)); exact BK495.out⟩, ⟨bl HB⟩⟩
   ·rw [if_neg c13] at H
    have c13b0 : decide (x11_1 < t496) = false := decide_eq_false c13
    clear c13
    obtain rfl := Option.some.inj H
    have hnb87 := NB488_495.out
    have hnc87 := NB495_488.out
    obtain ⟨hcz88_0, hcz88_1, hcz88_2, hcz88_3, hcz88_4, hcz88_5, hcz88_6, hcz88_7, hcz88_8, hcz88_9, hcz88_10⟩ := cz11 BK488.out
    go_wp2_with (first | ((with_reducible refine gate_callee (f := 59) rfl ?_); refine goesL_ (some 23) rfl rfl Try.func59 (by kernel_rfl) rfl #[.agg #[.int .i64 a0_0, .int .i64 a0_1, .int .i64 a0_2, .int .i64 a0_3, .int .i64 a0_4, .int .i64 a0_5, .int .i64 a0_6, .int .i64 a0_7, .int .i64 a0_8, .int .i64 a0_9, .int .i64 a0_10]] rfl (by (try simp only [List.map_toArray, List.map_cons, List.map_nil]); first | done | rfl | (simp only [List.length_drop, List.length_take]; rfl)) ?_; (with_reducible refine (revetmentref07_Row.calls a0_0 a0_1 a0_2 a0_3 a0_4 a0_5 a0_6 a0_7 a0_8 a0_9 a0_10 t496 _ A12.out).mono ?_); rintro e w89 ⟨rfl, hb⟩; refine ⟨_, rfl, ?_⟩; have n0_ := bkb BK488 hb; have n1_ := bkb BK495 hb; have n2_ := bst HB hb; clear BK488; clear BK495; clear HB; have BK488 := n0_; have BK495 := n1_; have HB := n2_; clear n0_ n1_ n2_; (try clear hb); (try clear hb2); (try clear hk); (try clear hi)))
    go_ret
    exact ⟨by first | rfl | (simp [errW_none, errW_some] <;> rfl) | (simp [*, errW_none, errW_some] <;> rfl), bl HB⟩

end Go.Proofs.Ytekihhbihnmakaa.PA
