/- Printed by the kit's print over stand-ins for some functions (xprint.py), with contracts of my own in their place. -/
import Derived.Test.YtekihhbihnmakaaPAx0
import Derived.Test.YtekihhbihnmakaaPAx4
import Derived.Test.YtekihhbihnmakaaPAx54
import Derived.Test.YtekihhbihnmakaaPAx57
import Derived.Test.YtekihhbihnmakaaPAx58
import Derived.Test.YtekihhbihnmakaaPAx59
import Derived.Test.YtekihhbihnmakaaPAx61
import Derived.Test.YtekihhbihnmakaaPAx802
namespace Go.Proofs.Ytekihhbihnmakaa.PA
open Go.RowKit Go.Proofs.YtekihhbihnmakaaW.PrintWords Go.Proofs.YtekihhbihnmakaaW.PrintLast
set_option linter.unusedVariables false
set_option linter.unusedSimpArgs false

attribute [local go_sem high] eqA75
/-! ### revetmentlaw44_LoadsSums: function 16 -/
mutual
def revetmentlaw44_LoadsSums.l0 : Nat → List (S75) → Int → Int → Int → Int → Int → Int → Int → Option (Bool)
  | 0, _, _, _, _, _, _, _, _ => none
  | k + 1, x0, x6, x7, x8, x717000, x717001, x719000, x719001 => if x8 < (x0.length : Int) then (if 0 ≤ x8 then ((revetmentlaw44_held.f ((rd_T75 x0 x8).f0)).bind fun t720 => ((revetmentlaw44_held.f ((rd_T75 x0 x8).f1)).bind fun t722 => (if x8 = 0 then (revetmentlaw44_LoadsSums.j1 k x0 x6 x7 x8 t720 t722 true x717000 x717001 (wrap64 (x719000 + t720)) (wrap64 (x719001 + t722))) else (revetmentlaw44_LoadsSums.j1 k x0 x6 x7 x8 t720 t722 (decide ((wrap64 (t720 + t722)) < x6)) x717000 x717001 (wrap64 (x719000 + t720)) (wrap64 (x719001 + t722)))))) else (none)) else ((loads_Part.f k x717000 x717001).bind fun bt723 => ((revetmentlaw44_held.f x717001).bind fun t725 => ((revetmentlaw44_held.f x717000).bind fun t726 => ((revetmentlaw44_held.f x717001).bind fun t727 => ((loads_Sum.f k x0).bind fun bt728 => (if (!(bt728.1 == x719000) || (!(bt728.2 == x719001))) = true then (revetmentlaw44_LoadsSums.j2 k bt723.1 bt723.2 t725 (wrap64 (t726 + t727)) true) else ((loads_Even.f k x0).bind fun t730 => (if t730 = (wrap64 (x7 - x6)) then (if bt723.1 < 0 then (revetmentlaw44_LoadsSums.j2 k bt723.1 bt723.2 t725 (wrap64 (t726 + t727)) true) else (if bt723.2 < 1 then (revetmentlaw44_LoadsSums.j2 k bt723.1 bt723.2 t725 (wrap64 (t726 + t727)) true) else (revetmentlaw44_LoadsSums.j2 k bt723.1 bt723.2 t725 (wrap64 (t726 + t727)) (decide (bt723.1 > bt723.2))))) else (revetmentlaw44_LoadsSums.j2 k bt723.1 bt723.2 t725 (wrap64 (t726 + t727)) true)))))))))
def revetmentlaw44_LoadsSums.j1 : Nat → List (S75) → Int → Int → Int → Int → Int → Bool → Int → Int → Int → Int → Option (Bool)
  | 0, _, _, _, _, _, _, _, _, _, _, _ => none
  | k + 1, x0, x6, x7, x8, x9, x10, x55, x717000, x717001, x719000, x719001 => if x55 = true then (if x8 = 0 then (revetmentlaw44_LoadsSums.l0 k x0 (wrap64 (x9 + x10)) (wrap64 (x9 + x10)) (wrap64 (x8 + 1)) x717000 x717001 x719000 x719001) else (if (wrap64 (x9 + x10)) > x7 then (revetmentlaw44_LoadsSums.l0 k x0 (wrap64 (x9 + x10)) (wrap64 (x9 + x10)) (wrap64 (x8 + 1)) x717000 x717001 x719000 x719001) else (revetmentlaw44_LoadsSums.l0 k x0 (wrap64 (x9 + x10)) x7 (wrap64 (x8 + 1)) x717000 x717001 x719000 x719001))) else (if x8 = 0 then (revetmentlaw44_LoadsSums.l0 k x0 x6 (wrap64 (x9 + x10)) (wrap64 (x8 + 1)) x717000 x717001 x719000 x719001) else (if (wrap64 (x9 + x10)) > x7 then (revetmentlaw44_LoadsSums.l0 k x0 x6 (wrap64 (x9 + x10)) (wrap64 (x8 + 1)) x717000 x717001 x719000 x719001) else (revetmentlaw44_LoadsSums.l0 k x0 x6 x7 (wrap64 (x8 + 1)) x717000 x717001 x719000 x719001)))
def revetmentlaw44_LoadsSums.j2 : Nat → Int → Int → Int → Int → Bool → Option (Bool)
  | 0, _, _, _, _, _ => none
  | k + 1, x11, x12, x13, x14, x110 => if x110 = true then (some false) else (if x14 = 0 then (if x11 = 0 then (if x12 = 1 then ((revetmentlaw44_live.f).bind fun t731 => (some t731)) else (some false)) else (some false)) else (if x12 = 0 then (none) else (if (Int.tmod x14 x12) = 0 then (if (wrap64 ((wrap64 (Int.tdiv x14 x12)) * x11)) = x13 then ((revetmentlaw44_common.f k x11 x12).bind fun t732 => (if t732 = 1 then ((revetmentlaw44_live.f).bind fun t733 => (some t733)) else (some false))) else (some false)) else (some false))))
end
def revetmentlaw44_LoadsSums.f (k : Nat) (l0 : List (S75)) (a1_0 : Int) (a1_1 : Int) : Option (Bool) := if (l0.length : Int) > 40 then ((revetmentlaw44_live.f).bind fun t717 => (some t717)) else (revetmentlaw44_LoadsSums.l0 k l0 0 0 0 a1_0 a1_1 0 0)
theorem revetmentlaw44_LoadsSums.mono_l : ∀ k, (∀ y0 y1 y2 y3 y4 y5 y6 y7, LeO (revetmentlaw44_LoadsSums.l0 k y0 y1 y2 y3 y4 y5 y6 y7) (revetmentlaw44_LoadsSums.l0 (k + 1) y0 y1 y2 y3 y4 y5 y6 y7)) ∧ (∀ y0 y1 y2 y3 y4 y5 y6 y7 y8 y9 y10, LeO (revetmentlaw44_LoadsSums.j1 k y0 y1 y2 y3 y4 y5 y6 y7 y8 y9 y10) (revetmentlaw44_LoadsSums.j1 (k + 1) y0 y1 y2 y3 y4 y5 y6 y7 y8 y9 y10)) ∧ (∀ y0 y1 y2 y3 y4, LeO (revetmentlaw44_LoadsSums.j2 k y0 y1 y2 y3 y4) (revetmentlaw44_LoadsSums.j2 (k + 1) y0 y1 y2 y3 y4))
 | 0 => ⟨fun _ _ _ _ _ _ _ _ r h => by simp [revetmentlaw44_LoadsSums.l0] at h, fun _ _ _ _ _ _ _ _ _ _ _ r h => by simp [revetmentlaw44_LoadsSums.j1] at h, fun _ _ _ _ _ r h => by simp [revetmentlaw44_LoadsSums.j2] at h⟩
 | k + 1 => by
  obtain ⟨ih0, ih1, ih2⟩ := revetmentlaw44_LoadsSums.mono_l k
  refine ⟨?_, ?_, ?_⟩
  ·intro y0 y1 y2 y3 y4 y5 y6 y7
   unfold revetmentlaw44_LoadsSums.l0
   repeat' first
   | (with_reducible exact ih0 _ _ _ _ _ _ _ _)
   | (with_reducible exact ih1 _ _ _ _ _ _ _ _ _ _ _)
   | (with_reducible exact ih2 _ _ _ _ _)
   | (with_reducible exact loads_Even.mono _ _)
   | (with_reducible exact loads_Part.mono _ _ _)
   | (with_reducible exact loads_Sum.mono _ _)
   | (with_reducible exact revetmentlaw44_common.mono _ _ _)
   | (with_reducible exact LeO.refl _)
   | (with_reducible exact LeO.none _)
   | (with_reducible refine LeO.ite ?_ ?_)
   | (with_reducible refine LeO.bind ?_ (fun _ => ?_))
   | exact ih0 _ _ _ _ _ _ _ _
   | exact ih1 _ _ _ _ _ _ _ _ _ _ _
   | exact ih2 _ _ _ _ _
   | exact loads_Even.mono _ _
   | exact loads_Part.mono _ _ _
   | exact loads_Sum.mono _ _
   | exact revetmentlaw44_common.mono _ _ _
   | exact LeO.none _
   | refine LeO.ite ?_ ?_
   | refine LeO.bind ?_ (fun _ => ?_)
  ·intro y0 y1 y2 y3 y4 y5 y6 y7 y8 y9 y10
   unfold revetmentlaw44_LoadsSums.j1
   repeat' first
   | (with_reducible exact ih0 _ _ _ _ _ _ _ _)
   | (with_reducible exact ih1 _ _ _ _ _ _ _ _ _ _ _)
   | (with_reducible exact ih2 _ _ _ _ _)
   | (with_reducible exact loads_Even.mono _ _)
   | (with_reducible exact loads_Part.mono _ _ _)
   | (with_reducible exact loads_Sum.mono _ _)
   | (with_reducible exact revetmentlaw44_common.mono _ _ _)
   | (with_reducible exact LeO.refl _)
   | (with_reducible exact LeO.none _)
   | (with_reducible refine LeO.ite ?_ ?_)
   | (with_reducible refine LeO.bind ?_ (fun _ => ?_))
   | exact ih0 _ _ _ _ _ _ _ _
   | exact ih1 _ _ _ _ _ _ _ _ _ _ _
   | exact ih2 _ _ _ _ _
   | exact loads_Even.mono _ _
   | exact loads_Part.mono _ _ _
   | exact loads_Sum.mono _ _
   | exact revetmentlaw44_common.mono _ _ _
   | exact LeO.none _
   | refine LeO.ite ?_ ?_
   | refine LeO.bind ?_ (fun _ => ?_)
  ·intro y0 y1 y2 y3 y4
   unfold revetmentlaw44_LoadsSums.j2
   repeat' first
   | (with_reducible exact ih0 _ _ _ _ _ _ _ _)
   | (with_reducible exact ih1 _ _ _ _ _ _ _ _ _ _ _)
   | (with_reducible exact ih2 _ _ _ _ _)
   | (with_reducible exact loads_Even.mono _ _)
   | (with_reducible exact loads_Part.mono _ _ _)
   | (with_reducible exact loads_Sum.mono _ _)
   | (with_reducible exact revetmentlaw44_common.mono _ _ _)
   | (with_reducible exact LeO.refl _)
   | (with_reducible exact LeO.none _)
   | (with_reducible refine LeO.ite ?_ ?_)
   | (with_reducible refine LeO.bind ?_ (fun _ => ?_))
   | exact ih0 _ _ _ _ _ _ _ _
   | exact ih1 _ _ _ _ _ _ _ _ _ _ _
   | exact ih2 _ _ _ _ _
   | exact loads_Even.mono _ _
   | exact loads_Part.mono _ _ _
   | exact loads_Sum.mono _ _
   | exact revetmentlaw44_common.mono _ _ _
   | exact LeO.none _
   | refine LeO.ite ?_ ?_
   | refine LeO.bind ?_ (fun _ => ?_)
theorem revetmentlaw44_LoadsSums.mono : ∀ a0 a1 a2 k, LeO (revetmentlaw44_LoadsSums.f k a0 a1 a2) (revetmentlaw44_LoadsSums.f (k + 1) a0 a1 a2) := by
 intro a0 a1 a2 k
 obtain ⟨ih0, ih1, ih2⟩ := revetmentlaw44_LoadsSums.mono_l k
 unfold revetmentlaw44_LoadsSums.f
 repeat' first
   | (with_reducible exact ih0 _ _ _ _ _ _ _ _)
   | (with_reducible exact ih1 _ _ _ _ _ _ _ _ _ _ _)
   | (with_reducible exact ih2 _ _ _ _ _)
   | (with_reducible exact loads_Even.mono _ _)
   | (with_reducible exact loads_Part.mono _ _ _)
   | (with_reducible exact loads_Sum.mono _ _)
   | (with_reducible exact revetmentlaw44_common.mono _ _ _)
   | (with_reducible exact LeO.refl _)
   | (with_reducible exact LeO.none _)
   | (with_reducible refine LeO.ite ?_ ?_)
   | (with_reducible refine LeO.bind ?_ (fun _ => ?_))
   | exact ih0 _ _ _ _ _ _ _ _
   | exact ih1 _ _ _ _ _ _ _ _ _ _ _
   | exact ih2 _ _ _ _ _
   | exact loads_Even.mono _ _
   | exact loads_Part.mono _ _ _
   | exact loads_Sum.mono _ _
   | exact revetmentlaw44_common.mono _ _ _
   | exact LeO.none _
   | refine LeO.ite ?_ ?_
   | refine LeO.bind ?_ (fun _ => ?_)
def revetmentlaw44_LoadsSums.T8 : Bool × List (List Nat × List Nat) := (true, [([], []), ([], []), ([0, 1], [0, 1]), ([2], [2]), ([3], [3]), ([4], [4]), ([], []), ([], []), ([6, 7], [6, 7]), ([8], [8]), ([9], [9]), ([10, 5], [10]), ([5, 11, 0, 1, 2, 3, 4, 5], [5]), ([11, 12, 0, 1, 2, 3, 4, 5, 6, 7, 8, 9, 10, 11, 12], [11])])
def revetmentlaw44_LoadsSums.B8 : List Nat := [0, 0, 3, 7, 15, 31, 0, 0, 192, 448, 960, 2047, 4095, 8191]
theorem revetmentlaw44_LoadsSums.tab8 : rtab .any (opsOf Try.f16 8) = revetmentlaw44_LoadsSums.T8 := by kernel_rfl
theorem revetmentlaw44_LoadsSums.bits8 : waitsOk revetmentlaw44_LoadsSums.T8.2 revetmentlaw44_LoadsSums.B8 = true := by kernel_rfl
def revetmentlaw44_LoadsSums.T15 : Bool × List (List Nat × List Nat) := (true, [([], []), ([0], [0]), ([1], [1]), ([], []), ([3], [3]), ([4, 2], [4]), ([], []), ([6], [6]), ([7, 5], [7]), ([5, 8], [5, 8]), ([2, 8, 0, 1, 2], [2]), ([9, 10, 0, 1, 2, 3, 4, 5, 6, 7, 8, 9, 10], [9])])
def revetmentlaw44_LoadsSums.B15 : List Nat := [0, 1, 3, 0, 8, 31, 0, 64, 255, 511, 511, 2047]
theorem revetmentlaw44_LoadsSums.tab15 : rtab .any (opsOf Try.f16 15) = revetmentlaw44_LoadsSums.T15 := by kernel_rfl
theorem revetmentlaw44_LoadsSums.bits15 : waitsOk revetmentlaw44_LoadsSums.T15.2 revetmentlaw44_LoadsSums.B15 = true := by kernel_rfl
def revetmentlaw44_LoadsSums.T16 : Bool × List (List Nat × List Nat) := (true, [([], []), ([0], [0]), ([], []), ([1, 2], [1, 2]), ([3, 1], [3]), ([4], [4]), ([5, 4, 4], [4, 5]), ([4], [4]), ([4], [4]), ([7, 8, 4], [4, 7, 8]), ([6, 9, 4], [4, 6, 9]), ([4, 10], [4, 10]), ([11, 6], [11]), ([12], [12]), ([13, 12], [12, 13]), ([12, 14], [12, 14]), ([15, 12], [15]), ([16], [16]), ([17, 16], [16, 17]), ([16, 18], [16, 18]), ([19, 16], [19]), ([20], [20]), ([20], [20]), ([21, 22, 20], [20, 21, 22]), ([20, 23], [20, 23])])
def revetmentlaw44_LoadsSums.B16 : List Nat := [0, 1, 0, 7, 15, 31, 63, 31, 31, 415, 1023, 2047, 4095, 8191, 16383, 32767, 65535, 131071, 262143, 524287, 1048575, 2097151, 2097151, 8388607, 16777215]
theorem revetmentlaw44_LoadsSums.tab16 : rtab .any (opsOf Try.f16 16) = revetmentlaw44_LoadsSums.T16 := by kernel_rfl
theorem revetmentlaw44_LoadsSums.bits16 : waitsOk revetmentlaw44_LoadsSums.T16.2 revetmentlaw44_LoadsSums.B16 = true := by kernel_rfl
set_option maxHeartbeats 8000000 in
set_option maxRecDepth 100000 in
theorem revetmentlaw44_LoadsSums.calls (k : Nat) (A0 : Option Addr) (c0 : Nat) (l0 : List (S75)) (a1_0 : Int) (a1_1 : Int) (w : World) (hr0 : Kd.C k75 w A0 l0.length l0) (hc0 : l0.length ≤ c0) (h : revetmentlaw44_LoadsSums.f k l0 a1_0 a1_1 = some true) :
  Calls Try.prog 16 #[.slice A0 l0.length c0, .agg #[.int .i64 a1_0, .int .i64 a1_1]] w fun e w' => e = .returned (.bool true) ∧ Below w.heap.size w w' := by
 have hu75 := Try.underlying75
 have HR0 := Aside0.mk hr0
 have HC0 := Aside0.mk hc0
 clear hr0 hc0
 have HB := Aside0.mk (Below.refl w.heap.size w)
 have H : (if (l0.length : Int) > 40 then ((revetmentlaw44_live.f).bind fun t717 => (some t717)) else (revetmentlaw44_LoadsSums.l0 k l0 0 0 0 a1_0 a1_1 0 0)) = some true := h
 clear h
 by_cases c3 : (l0.length : Int) > 40
 ·rw [if_pos c3] at H
  have c3b0 : decide (40 < (l0.length : Int)) = true := decide_eq_true c3
  have c3b1 : decide (40 < l0.length) = true := decide_eq_true (by omega)
  clear c3
  replace H := Option.bind_eq_some_iff.mp H
  obtain ⟨t717, A40, H⟩ := H
  replace H : (some t717) = some true := H
  have A4 := Aside0.mk A40
  clear A40
  obtain rfl := Option.some.inj H
  go_enter Try.func16, Try.ntmps16
  go_wp2_with (first | ((with_reducible refine gate_dst (N := 3) rfl ?_); refine box_event ?hg (N := 3) ?hd (cs := #[.int .i64 a1_0, .int .i64 a1_1]) (t := 75) ?hr ?_; (case hd => rfl); (case hg => rfl); (case hr => first | (go_simp; done) | (go_simp; rfl)); intro gb716 hg w5 hbox hb; have n0_ := bst HB hb; have n1_ := Aside0.mk (hbox); have n2_ := Aside0.mk ((by rw [hg]; exact (below_size (bl HB)) : w.heap.size ≤ gb716)); have n3_ := Aside0.mk ((by rw [hg]; exact (below_size (bl HB)) : w.heap.size ≤ gb716)); clear HB; have HB := n0_; have BK716 := n1_; have GW716 := n2_; have GE716 := n3_; clear n0_ n1_ n2_ n3_; clear hb hbox hg) | ((with_reducible refine gate_callee (f := 60) rfl ?_); refine goesL_ (some 18) rfl rfl Try.func60 (by kernel_rfl) rfl #[] rfl (by (try simp only [List.map_toArray, List.map_cons, List.map_nil]); first | done | rfl | (simp only [List.length_drop, List.length_take]; rfl)) ?_; (with_reducible refine (revetmentlaw44_live.calls  true _ A4.out).mono ?_); rintro e w6 ⟨rfl, hb⟩; refine ⟨_, rfl, ?_⟩; have n0_ := bkb BK716 hb; have n1_ := bst HB hb; clear BK716; clear HB; have BK716 := n0_; have HB := n1_; clear n0_ n1_; (try clear hb); (try clear hb2); (try clear hk); (try clear hi)))
  go_ret
  exact ⟨by first | rfl | (simp [errW_none, errW_some] <;> rfl) | (simp [*, errW_none, errW_some] <;> rfl), bl HB⟩
 ·rw [if_neg c3] at H
  have c3b0 : decide (40 < (l0.length : Int)) = false := decide_eq_false c3
  have c3b1 : decide (40 < l0.length) = false := decide_eq_false (by omega)
  clear c3
  have H' := Aside0.mk H
  clear H
  go_enter Try.func16, Try.ntmps16
  go_wp2_with (first | ((with_reducible refine gate_dst (N := 3) rfl ?_); refine box_event ?hg (N := 3) ?hd (cs := #[.int .i64 a1_0, .int .i64 a1_1]) (t := 75) ?hr ?_; (case hd => rfl); (case hg => rfl); (case hr => first | (go_simp; done) | (go_simp; rfl)); intro gb716 hg w7 hbox hb; have n0_ := bst HB hb; have n1_ := Aside0.mk (hbox); have n2_ := Aside0.mk ((by rw [hg]; exact (below_size (bl HB)) : w.heap.size ≤ gb716)); have n3_ := Aside0.mk ((by rw [hg]; exact (below_size (bl HB)) : w.heap.size ≤ gb716)); clear HB; have HB := n0_; have BK716 := n1_; have GW716 := n2_; have GE716 := n3_; clear n0_ n1_ n2_ n3_; clear hb hbox hg) | ((with_reducible refine gate_dst (N := 5) rfl ?_); refine box_event ?hg (N := 5) ?hd (cs := #[.int .i64 0, .int .i64 0]) (t := 75) ?hr ?_; (case hd => rfl); (case hg => rfl); (case hr => first | (go_simp; done) | (go_simp; rfl)); intro gb718 hg w8 hbox hb; have n0_ := bkb BK716 hb; have n1_ := bst HB hb; have n2_ := Aside0.mk (hbox); have n3_ := Aside0.mk ((by rw [hg]; exact (below_size (bl HB)) : w.heap.size ≤ gb718)); have n4_ := Aside0.mk ((by rw [hg]; exact (below_size (bl HB)) : w.heap.size ≤ gb718)); have n5_ := Aside0.mk ((by rw [hg]; exact Nat.ne_of_lt (blk_lt (g := gb716) (o := .cells #[.int .i64 a1_0, .int .i64 a1_1] 75 (0, 0)) (by (with_reducible repeat (first | refine blk_drewN ?_ _ | refine blk_drew ?_ | refine blk_alloc ?_ _)); exact BK716.out)) : gb716 ≠ gb718)); have n6_ := Aside0.mk ((by rw [hg]; exact Nat.ne_of_gt (blk_lt (g := gb716) (o := .cells #[.int .i64 a1_0, .int .i64 a1_1] 75 (0, 0)) (by (with_reducible repeat (first | refine blk_drewN ?_ _ | refine blk_drew ?_ | refine blk_alloc ?_ _)); exact BK716.out)) : gb718 ≠ gb716)); clear BK716; clear HB; have BK716 := n0_; have HB := n1_; have BK718 := n2_; have GW718 := n3_; have GE718 := n4_; have NB716_718 := n5_; have NB718_716 := n6_; clear n0_ n1_ n2_ n3_ n4_ n5_ n6_; clear hb hbox hg))
  go_loopg [6, 7, 8] k (fun kq v6 v7 v8 w' => ∃ (x6_1 : Int) (x7_1 : Int) (x8_1 : Int) (x719000_1 : Int) (x719001_1 : Int), v6 = .int .i64 x6_1 ∧ v7 = .int .i64 x7_1 ∧ v8 = .int .i64 x8_1 ∧ Aside0 (revetmentlaw44_LoadsSums.l0 kq l0 x6_1 x7_1 x8_1 a1_0 a1_1 x719000_1 x719001_1 = some true) ∧ Aside0 (kq ≤ k) ∧ Aside0 (w'.heap[gb716]? = some (.cells #[.int .i64 a1_0, .int .i64 a1_1] 75 (0, 0))) ∧ Aside0 (w'.heap[gb718]? = some (.cells #[.int .i64 x719000_1, .int .i64 x719001_1] 75 (0, 0))) ∧ Aside0 (Below w.heap.size w w'))
  case atStart => exact ⟨(0), (0), (0), (0), (0), (by first | rfl | (simp; done) | (simp [*]; done)), (by first | rfl | (simp; done) | (simp [*]; done)), (by first | rfl | (simp; done) | (simp [*]; done)), H', ⟨Nat.le_refl _⟩, ⟨by (with_reducible repeat (first | refine blk_drewN ?_ _ | refine blk_drew ?_ | refine blk_alloc ?_ _)); exact BK716.out⟩, ⟨by (with_reducible repeat (first | refine blk_drewN ?_ _ | refine blk_drew ?_ | refine blk_alloc ?_ _)); exact BK718.out⟩, ⟨bl HB⟩⟩
  case round =>
   clear H'
   try clear c1
   try clear p2
   try clear c3
   try clear c3b0
   try clear c3b1
   try clear c6
   obtain ⟨x6_1, x7_1, x8_1, x719000_1, x719001_1, rfl, rfl, rfl, HA, HK1, BK716, BK718, HB⟩ := hrel
   cases gk with
   | zero => exact absurd HA.out (by simp [revetmentlaw44_LoadsSums.l0])
   | succ k1 =>
    have H := HA.out
    clear HA
    simp only [revetmentlaw44_LoadsSums.l0] at H
    by_cases c9 : x8_1 < (l0.length : Int)
    ·rw [if_pos c9] at H
     have c9b0 : decide (x8_1 < (l0.length : Int)) = true := decide_eq_true c9
     clear c9
     by_cases c10 : 0 ≤ x8_1
     ·rw [if_pos c10] at H
      have c10b0 : decide (0 ≤ x8_1) = true := decide_eq_true c10
      clear c10
      replace H := Option.bind_eq_some_iff.mp H
      obtain ⟨t720, A110, H⟩ := H
      replace H : ((revetmentlaw44_held.f ((rd_T75 l0 x8_1).f1)).bind fun t722 => (if x8_1 = 0 then (revetmentlaw44_LoadsSums.j1 k1 l0 x6_1 x7_1 x8_1 t720 t722 true a1_0 a1_1 (wrap64 (x719000_1 + t720)) (wrap64 (x719001_1 + t722))) else (revetmentlaw44_LoadsSums.j1 k1 l0 x6_1 x7_1 x8_1 t720 t722 (decide ((wrap64 (t720 + t722)) < x6_1)) a1_0 a1_1 (wrap64 (x719000_1 + t720)) (wrap64 (x719001_1 + t722))))) = some true := H
      have A11 := Aside0.mk A110
      clear A110
      replace H := Option.bind_eq_some_iff.mp H
      obtain ⟨t722, A120, H⟩ := H
      replace H : (if x8_1 = 0 then (revetmentlaw44_LoadsSums.j1 k1 l0 x6_1 x7_1 x8_1 t720 t722 true a1_0 a1_1 (wrap64 (x719000_1 + t720)) (wrap64 (x719001_1 + t722))) else (revetmentlaw44_LoadsSums.j1 k1 l0 x6_1 x7_1 x8_1 t720 t722 (decide ((wrap64 (t720 + t722)) < x6_1)) a1_0 a1_1 (wrap64 (x719000_1 + t720)) (wrap64 (x719001_1 + t722)))) = some true := H
      have A12 := Aside0.mk A120
      clear A120
      have HC13 := Aside0.mk H
      clear H
      try go_wp2
      replace BK716 := Aside0.mk (blk_drew BK716.out)
      replace BK718 := Aside0.mk (blk_drew BK718.out)
      replace HB := Aside0.mk (below_drew1 HB.out)
      have p719 : 0 ≤ (x8_1 : Int) := of_decide_eq_true (by first | (with_reducible assumption) | assumption)
      have q719 : x8_1 < (l0.length : Int) := of_decide_eq_true (by first | (with_reducible assumption) | assumption)
      obtain ⟨ad719, e719, hx719_0, hx719_1⟩ := at_T75 HR0.out x8_1 p719 q719
      have hw719_1 := hx719_1
      have hw719_0 := hx719_0
      cases e719
      replace hx719_0 := (HB.out.cell (World.block_lt_of_cell? w _ hx719_0)).trans hx719_0
      replace hx719_1 := (HB.out.cell (World.block_lt_of_cell? w _ hx719_1)).trans hx719_1
      replace p719 := eq_true p719
      replace q719 := eq_true q719
      have p721 : 0 ≤ (x8_1 : Int) := of_decide_eq_true (by first | (with_reducible assumption) | assumption)
      have q721 : x8_1 < (l0.length : Int) := of_decide_eq_true (by first | (with_reducible assumption) | assumption)
      obtain ⟨ad721, e721, hx721_0, hx721_1⟩ := at_T75 HR0.out x8_1 p721 q721
      have hw721_1 := hx721_1
      have hw721_0 := hx721_0
      obtain rfl : ad719 = ad721 := (by injection e721)
      replace hx721_0 := (HB.out.cell (World.block_lt_of_cell? w _ hx721_0)).trans hx721_0
      replace hx721_1 := (HB.out.cell (World.block_lt_of_cell? w _ hx721_1)).trans hx721_1
      replace p721 := eq_true p721
      replace q721 := eq_true q721
      refine start_ (n := 14) (S := fun w' => w'.cell? (ad719.add ((x8_1).toNat * 2)) = some (.int .i64 ((rd_T75 l0 x8_1).f0)) ∧ w'.cell? ⟨(ad719.add ((x8_1).toNat * 2)).block, (ad719.add ((x8_1).toNat * 2)).off + 1, none⟩ = some (.int .i64 ((rd_T75 l0 x8_1).f1)) ∧ w'.cell? (ad719.add ((x8_1).toNat * 2)) = some (.int .i64 ((rd_T75 l0 x8_1).f0)) ∧ w'.cell? ⟨(ad719.add ((x8_1).toNat * 2)).block, (ad719.add ((x8_1).toNat * 2)).off + 1, none⟩ = some (.int .i64 ((rd_T75 l0 x8_1).f1))) (ds := []) (bq 14 0) (by kernel_rfl) rfl rfl ⟨((HB.out.cell (World.block_lt_of_cell? w _ hw719_0)).trans hw719_0), ((HB.out.cell (World.block_lt_of_cell? w _ hw719_1)).trans hw719_1), ((HB.out.cell (World.block_lt_of_cell? w _ hw721_0)).trans hw721_0), ((HB.out.cell (World.block_lt_of_cell? w _ hw721_1)).trans hw721_1)⟩ (fun hHeld => ?_); refine with_tabW revetmentlaw44_LoadsSums.tab8 revetmentlaw44_LoadsSums.bits8 (fun HT_ HW_ => ?_)
      generalize wr.drew = w14 at BK716 BK718 HB hx719_0 hx719_1 hx721_0 hx721_1 hHeld ⊢
      apply pu 0 25 (bq 14 1) HT_
      apply pu 1 26 (bq 14 3) HT_
      apply pu 2 27 (bq 14 7) HT_
      apply pu 3 28 (bq 14 15) HT_
      apply pu 6 31 (bq 14 79) HT_
      apply pu 7 32 (bq 14 207) HT_
      apply pu 8 33 (bq 14 463) HT_
      apply pu 9 34 (bq 14 975) HT_
      apply tu 4 29 (bq 14 991) HT_ HW_ hHeld
      apply tu 10 35 (bq 14 2015) HT_ HW_ hHeld
      refine one_ (i := 5) (N := some 30) (bq 14 2047) rfl rfl (one_of HT_.out (by kernel_rfl)) (by decide) (fun K hK => ?_)
      refine gs Try.func65 #[.int .i64 ((rd_T75 l0 x8_1).f0)] ?_
      with_reducible refine (revetmentlaw44_held.calls ((rd_T75 l0 x8_1).f0) t720 _ A11.out).mono ?_
      rintro e w' ⟨rfl, ⟨nd, rfl⟩⟩
      refine ⟨_, rfl, ?_⟩
      replace BK716 := Aside0.mk (blk_drewN BK716.out nd)
      replace BK718 := Aside0.mk (blk_drewN BK718.out nd)
      replace HB := Aside0.mk (pw_below_drewN HB.out nd)
      generalize w14.drewN nd = w14 at BK716 BK718 HB ⊢
      refine hK.out _ _ ⟨((HB.out.cell (World.block_lt_of_cell? w _ hw719_0)).trans hw719_0), ((HB.out.cell (World.block_lt_of_cell? w _ hw719_1)).trans hw719_1), ((HB.out.cell (World.block_lt_of_cell? w _ hw721_0)).trans hw721_0), ((HB.out.cell (World.block_lt_of_cell? w _ hw721_1)).trans hw721_1)⟩ (fun hHeld => ?_)
      clear hK K
      apply nm 0
      refine one_ (i := 11) (N := some 36) (bq 14 4095) rfl rfl (one_of HT_.out (by kernel_rfl)) (by decide) (fun K hK => ?_)
      refine gs Try.func65 #[.int .i64 ((rd_T75 l0 x8_1).f1)] ?_
      with_reducible refine (revetmentlaw44_held.calls ((rd_T75 l0 x8_1).f1) t722 _ A12.out).mono ?_
      rintro e w' ⟨rfl, ⟨nd, rfl⟩⟩
      refine ⟨_, rfl, ?_⟩
      replace BK716 := Aside0.mk (blk_drewN BK716.out nd)
      replace BK718 := Aside0.mk (blk_drewN BK718.out nd)
      replace HB := Aside0.mk (pw_below_drewN HB.out nd)
      generalize w14.drewN nd = w14 at BK716 BK718 HB ⊢
      refine hK.out _ _ ⟨((HB.out.cell (World.block_lt_of_cell? w _ hw719_0)).trans hw719_0), ((HB.out.cell (World.block_lt_of_cell? w _ hw719_1)).trans hw719_1), ((HB.out.cell (World.block_lt_of_cell? w _ hw721_0)).trans hw721_0), ((HB.out.cell (World.block_lt_of_cell? w _ hw721_1)).trans hw721_1)⟩ (fun hHeld => ?_)
      clear hK K
      apply nm 0
      apply pu 12 9 (bq 14 8191) HT_
      apply pu 13 10 (bq 14 16383) HT_
      refine done_ (done_of HT_.out (by kernel_rfl)) ?_
      have hnb15 := NB718_716.out
      have hnc15 := NB716_718.out
      have hcz16_0 : w14.cell? ⟨gb718, 0, none⟩ = some (.int .i64 x719000_1) := (blk_cell BK718.out 0).trans rfl
      have hcz16_1 : w14.cell? ⟨gb718, 1, none⟩ = some (.int .i64 x719001_1) := (blk_cell BK718.out 1).trans rfl
      have hfz16_0 := blk_frozen BK718.out 0
      have hfz16_1 := blk_frozen BK718.out 1
      go_upto_region 10 with (fail)
      go_cut [55] (fun v55 wc => ∃ (kq : Nat) (x55_12 : Bool), v55 = .bool x55_12 ∧ Aside0 (revetmentlaw44_LoadsSums.j1 kq l0 x6_1 x7_1 x8_1 t720 t722 x55_12 a1_0 a1_1 (wrap64 (x719000_1 + t720)) (wrap64 (x719001_1 + t722)) = some true) ∧ Aside0 (kq ≤ k1) ∧ Aside0 (wc.heap[gb716]? = some (.cells #[.int .i64 a1_0, .int .i64 a1_1] 75 (0, 0))) ∧ Aside0 (wc.heap[gb718]? = some (.cells #[.int .i64 (wrap64 (x719000_1 + t720)), .int .i64 (wrap64 (x719001_1 + t722))] 75 (0, 0))) ∧ Aside0 (Below w.heap.size w wc))
      case first =>
       have H := HC13.out
       clear HC13
       by_cases c17 : x8_1 = 0
       ·rw [if_pos c17] at H
        have c17b0 : (x8_1 == 0) = true := beq_iff_eq.mpr c17
        have c17b1 : (x8_1 != 0) = false := bne_eq_false_iff_eq.mpr c17
        clear c17
        (first | rw [c17b0] | (simp only [i64_w, i32_w]; rw [c17b0]) | skip)
        have H' := Aside0.mk H
        clear H
        go_wp2
        go_meet
        case rel => exact ⟨_, (true), (by first | rfl | (simp; done) | (simp [*]; done)), H', ⟨by have := HK1.out; first | omega | exact Nat.le_refl _⟩, ⟨by (with_reducible repeat (first | refine blk_drewN ?_ _ | refine blk_drew ?_ | refine blk_alloc ?_ _)); refine blk_far ?_ NB716_718.out _; (with_reducible repeat (first | refine blk_drewN ?_ _ | refine blk_drew ?_ | refine blk_alloc ?_ _)); refine blk_far ?_ NB716_718.out _; (with_reducible repeat (first | refine blk_drewN ?_ _ | refine blk_drew ?_ | refine blk_alloc ?_ _)); exact BK716.out⟩, ⟨by (with_reducible repeat (first | refine blk_drewN ?_ _ | refine blk_drew ?_ | refine blk_alloc ?_ _)); refine blk_put (cs := #[.int .i64 (wrap64 (x719000_1 + t720)), .int .i64 x719001_1]) ?_ 1 _ rfl; (with_reducible repeat (first | refine blk_drewN ?_ _ | refine blk_drew ?_ | refine blk_alloc ?_ _)); refine blk_put (cs := #[.int .i64 x719000_1, .int .i64 x719001_1]) ?_ 0 _ rfl; (with_reducible repeat (first | refine blk_drewN ?_ _ | refine blk_drew ?_ | refine blk_alloc ?_ _)); exact BK718.out⟩, ⟨bl HB⟩⟩
       ·rw [if_neg c17] at H
        have c17b0 : (x8_1 == 0) = false := beq_eq_false_iff_ne.mpr c17
        have c17b1 : (x8_1 != 0) = true := bne_iff_ne.mpr c17
        (first | rw [c17b0] | (simp only [i64_w, i32_w]; rw [c17b0]) | skip)
        have H' := Aside0.mk H
        clear H
        go_wp2
        go_meet
        case rel => exact ⟨_, (decide ((wrap64 (t720 + t722)) < x6_1)), (by first | rfl | (simp; done) | (simp [*]; done)), H', ⟨by have := HK1.out; first | omega | exact Nat.le_refl _⟩, ⟨by (with_reducible repeat (first | refine blk_drewN ?_ _ | refine blk_drew ?_ | refine blk_alloc ?_ _)); refine blk_far ?_ NB716_718.out _; (with_reducible repeat (first | refine blk_drewN ?_ _ | refine blk_drew ?_ | refine blk_alloc ?_ _)); refine blk_far ?_ NB716_718.out _; (with_reducible repeat (first | refine blk_drewN ?_ _ | refine blk_drew ?_ | refine blk_alloc ?_ _)); exact BK716.out⟩, ⟨by (with_reducible repeat (first | refine blk_drewN ?_ _ | refine blk_drew ?_ | refine blk_alloc ?_ _)); refine blk_put (cs := #[.int .i64 (wrap64 (x719000_1 + t720)), .int .i64 x719001_1]) ?_ 1 _ rfl; (with_reducible repeat (first | refine blk_drewN ?_ _ | refine blk_drew ?_ | refine blk_alloc ?_ _)); refine blk_put (cs := #[.int .i64 x719000_1, .int .i64 x719001_1]) ?_ 0 _ rfl; (with_reducible repeat (first | refine blk_drewN ?_ _ | refine blk_drew ?_ | refine blk_alloc ?_ _)); exact BK718.out⟩, ⟨bl HB⟩⟩
      case rest =>
       clear HC13
       try clear c1
       try clear p2
       try clear c3
       try clear c3b0
       try clear c3b1
       try clear c6
       try clear p6
       try clear p7
       try clear q7
       try clear hx7
       try clear c9
       try clear c9b0
       try clear c10
       try clear c10b0
       try clear c15
       try clear c16
       try clear c17
       try clear c17b0
       try clear c17b1
       (try clear hcz16_0 hcz16_1)
       (try clear hfz16_0 hfz16_1)
       try clear hx719_0
       try clear hx719_1
       try clear hx721_0
       try clear hx721_1
       try clear p2
       try clear p719
       try clear p721
       try clear q719
       try clear q721
       obtain ⟨kq, x55_12, rfl, HA, HJ12, BK716, BK718, HB⟩ := hcut
       cases kq with
       | zero => exact absurd HA.out (by simp [revetmentlaw44_LoadsSums.j1])
       | succ kj12 =>
        have H := HA.out
        clear HA
        simp only [revetmentlaw44_LoadsSums.j1] at H
        by_cases c18 : x55_12 = true
        ·subst c18
         have H1 : (if x8_1 = 0 then (revetmentlaw44_LoadsSums.l0 kj12 l0 (wrap64 (t720 + t722)) (wrap64 (t720 + t722)) (wrap64 (x8_1 + 1)) a1_0 a1_1 (wrap64 (x719000_1 + t720)) (wrap64 (x719001_1 + t722))) else (if (wrap64 (t720 + t722)) > x7_1 then (revetmentlaw44_LoadsSums.l0 kj12 l0 (wrap64 (t720 + t722)) (wrap64 (t720 + t722)) (wrap64 (x8_1 + 1)) a1_0 a1_1 (wrap64 (x719000_1 + t720)) (wrap64 (x719001_1 + t722))) else (revetmentlaw44_LoadsSums.l0 kj12 l0 (wrap64 (t720 + t722)) x7_1 (wrap64 (x8_1 + 1)) a1_0 a1_1 (wrap64 (x719000_1 + t720)) (wrap64 (x719001_1 + t722))))) = some true := by rw [if_pos rfl] at H; exact H
         clear H
         have H := H1
         clear H1
         by_cases c19 : x8_1 = 0
         ·rw [if_pos c19] at H
          have c19b0 : (x8_1 == 0) = true := beq_iff_eq.mpr c19
          have c19b1 : (x8_1 != 0) = false := bne_eq_false_iff_eq.mpr c19
          clear c19
          have H' := Aside0.mk H
          clear H
          go_wp2
          go_roundg kj12
          case measure => have := HK1.out; have := HJ12.out; omega
          case rel => exact ⟨(wrap64 (t720 + t722)), (wrap64 (t720 + t722)), (wrap64 (x8_1 + 1)), ((wrap64 (x719000_1 + t720))), ((wrap64 (x719001_1 + t722))), (by first | rfl | (simp; done) | (simp [*]; done)), (by first | rfl | (simp; done) | (simp [*]; done)), (by first | rfl | (simp; done) | (simp [*]; done)), H', ⟨by have := HK1.out; have := HJ12.out; omega⟩, ⟨by (with_reducible repeat (first | refine blk_drewN ?_ _ | refine blk_drew ?_ | refine blk_alloc ?_ _)); exact BK716.out⟩, ⟨by (with_reducible repeat (first | refine blk_drewN ?_ _ | refine blk_drew ?_ | refine blk_alloc ?_ _)); exact BK718.out⟩, ⟨bl HB⟩⟩
         ·rw [if_neg c19] at H
          have c19b0 : (x8_1 == 0) = false := beq_eq_false_iff_ne.mpr c19
          have c19b1 : (x8_1 != 0) = true := bne_iff_ne.mpr c19
          by_cases c20 : (wrap64 (t720 + t722)) > x7_1
          ·rw [if_pos c20] at H
           have c20b0 : decide (x7_1 < (wrap64 (t720 + t722))) = true := decide_eq_true c20
           clear c20
           have H' := Aside0.mk H
           clear H
           go_wp2
           go_roundg kj12
           case measure => have := HK1.out; have := HJ12.out; omega
           case rel => exact ⟨(wrap64 (t720 + t722)), (wrap64 (t720 + t722)), (wrap64 (x8_1 + 1)), ((wrap64 (x719000_1 + t720))), ((wrap64 (x719001_1 + t722))), (by first | rfl | (simp; done) | (simp [*]; done)), (by first | rfl | (simp; done) | (simp [*]; done)), (by first | rfl | (simp; done) | (simp [*]; done)), H', ⟨by have := HK1.out; have := HJ12.out; omega⟩, ⟨by (with_reducible repeat (first | refine blk_drewN ?_ _ | refine blk_drew ?_ | refine blk_alloc ?_ _)); exact BK716.out⟩, ⟨by (with_reducible repeat (first | refine blk_drewN ?_ _ | refine blk_drew ?_ | refine blk_alloc ?_ _)); exact BK718.out⟩, ⟨bl HB⟩⟩
          ·rw [if_neg c20] at H
           have c20b0 : decide (x7_1 < (wrap64 (t720 + t722))) = false := decide_eq_false c20
           clear c20
           have H' := Aside0.mk H
           clear H
           go_wp2
           go_roundg kj12
           case measure => have := HK1.out; have := HJ12.out; omega
           case rel => exact ⟨(wrap64 (t720 + t722)), (x7_1), (wrap64 (x8_1 + 1)), ((wrap64 (x719000_1 + t720))), ((wrap64 (x719001_1 + t722))), (by first | rfl | (simp; done) | (simp [*]; done)), (by first | rfl | (simp; done) | (simp [*]; done)), (by first | rfl | (simp; done) | (simp [*]; done)), H', ⟨by have := HK1.out; have := HJ12.out; omega⟩, ⟨by (with_reducible repeat (first | refine blk_drewN ?_ _ | refine blk_drew ?_ | refine blk_alloc ?_ _)); exact BK716.out⟩, ⟨by (with_reducible repeat (first | refine blk_drewN ?_ _ | refine blk_drew ?_ | refine blk_alloc ?_ _)); exact BK718.out⟩, ⟨bl HB⟩⟩
        ·replace c18 := Bool.eq_false_iff.mpr c18
         subst c18
         have H1 : (if x8_1 = 0 then (revetmentlaw44_LoadsSums.l0 kj12 l0 x6_1 (wrap64 (t720 + t722)) (wrap64 (x8_1 + 1)) a1_0 a1_1 (wrap64 (x719000_1 + t720)) (wrap64 (x719001_1 + t722))) else (if (wrap64 (t720 + t722)) > x7_1 then (revetmentlaw44_LoadsSums.l0 kj12 l0 x6_1 (wrap64 (t720 + t722)) (wrap64 (x8_1 + 1)) a1_0 a1_1 (wrap64 (x719000_1 + t720)) (wrap64 (x719001_1 + t722))) else (revetmentlaw44_LoadsSums.l0 kj12 l0 x6_1 x7_1 (wrap64 (x8_1 + 1)) a1_0 a1_1 (wrap64 (x719000_1 + t720)) (wrap64 (x719001_1 + t722))))) = some true := by rw [if_neg (show ¬ (false = true) by decide)] at H; exact H
         clear H
         have H := H1
         clear H1
         by_cases c21 : x8_1 = 0
         ·rw [if_pos c21] at H
          have c21b0 : (x8_1 == 0) = true := beq_iff_eq.mpr c21
          have c21b1 : (x8_1 != 0) = false := bne_eq_false_iff_eq.mpr c21
          clear c21
          have H' := Aside0.mk H
          clear H
          go_wp2
          go_roundg kj12
          case measure => have := HK1.out; have := HJ12.out; omega
          case rel => exact ⟨(x6_1), (wrap64 (t720 + t722)), (wrap64 (x8_1 + 1)), ((wrap64 (x719000_1 + t720))), ((wrap64 (x719001_1 + t722))), (by first | rfl | (simp; done) | (simp [*]; done)), (by first | rfl | (simp; done) | (simp [*]; done)), (by first | rfl | (simp; done) | (simp [*]; done)), H', ⟨by have := HK1.out; have := HJ12.out; omega⟩, ⟨by (with_reducible repeat (first | refine blk_drewN ?_ _ | refine blk_drew ?_ | refine blk_alloc ?_ _)); exact BK716.out⟩, ⟨by (with_reducible repeat (first | refine blk_drewN ?_ _ | refine blk_drew ?_ | refine blk_alloc ?_ _)); exact BK718.out⟩, ⟨bl HB⟩⟩
         ·rw [if_neg c21] at H
          have c21b0 : (x8_1 == 0) = false := beq_eq_false_iff_ne.mpr c21
          have c21b1 : (x8_1 != 0) = true := bne_iff_ne.mpr c21
          by_cases c22 : (wrap64 (t720 + t722)) > x7_1
          ·rw [if_pos c22] at H
           have c22b0 : decide (x7_1 < (wrap64 (t720 + t722))) = true := decide_eq_true c22
           clear c22
           have H' := Aside0.mk H
           clear H
           go_wp2
           go_roundg kj12
           case measure => have := HK1.out; have := HJ12.out; omega
           case rel => exact ⟨(x6_1), (wrap64 (t720 + t722)), (wrap64 (x8_1 + 1)), ((wrap64 (x719000_1 + t720))), ((wrap64 (x719001_1 + t722))), (by first | rfl | (simp; done) | (simp [*]; done)), (by first | rfl | (simp; done) | (simp [*]; done)), (by first | rfl | (simp; done) | (simp [*]; done)), H', ⟨by have := HK1.out; have := HJ12.out; omega⟩, ⟨by (with_reducible repeat (first | refine blk_drewN ?_ _ | refine blk_drew ?_ | refine blk_alloc ?_ _)); exact BK716.out⟩, ⟨by (with_reducible repeat (first | refine blk_drewN ?_ _ | refine blk_drew ?_ | refine blk_alloc ?_ _)); exact BK718.out⟩, ⟨bl HB⟩⟩
          ·rw [if_neg c22] at H
           have c22b0 : decide (x7_1 < (wrap64 (t720 + t722))) = false := decide_eq_false c22
           clear c22
           have H' := Aside0.mk H
           clear H
           go_wp2
           go_roundg kj12
           case measure => have := HK1.out; have := HJ12.out; omega
           case rel => exact ⟨(x6_1), (x7_1), (wrap64 (x8_1 + 1)), ((wrap64 (x719000_1 + t720))), ((wrap64 (x719001_1 + t722))), (by first | rfl | (simp; done) | (simp [*]; done)), (by first | rfl | (simp; done) | (simp [*]; done)), (by first | rfl | (simp; done) | (simp [*]; done)), H', ⟨by have := HK1.out; have := HJ12.out; omega⟩, ⟨by (with_reducible repeat (first | refine blk_drewN ?_ _ | refine blk_drew ?_ | refine blk_alloc ?_ _)); exact BK716.out⟩, ⟨by (with_reducible repeat (first | refine blk_drewN ?_ _ | refine blk_drew ?_ | refine blk_alloc ?_ _)); exact BK718.out⟩, ⟨bl HB⟩⟩
     ·rw [if_neg c10] at H
      exact absurd H (by simp)
    ·rw [if_neg c9] at H
     have c9b0 : decide (x8_1 < (l0.length : Int)) = false := decide_eq_false c9
     clear c9
     replace H := Option.bind_eq_some_iff.mp H
     obtain ⟨⟨t723, t724⟩, A230, H⟩ := H
     replace H : ((revetmentlaw44_held.f a1_1).bind fun t725 => ((revetmentlaw44_held.f a1_0).bind fun t726 => ((revetmentlaw44_held.f a1_1).bind fun t727 => ((loads_Sum.f k1 l0).bind fun bt728 => (if (!(bt728.1 == x719000_1) || (!(bt728.2 == x719001_1))) = true then (revetmentlaw44_LoadsSums.j2 k1 t723 t724 t725 (wrap64 (t726 + t727)) true) else ((loads_Even.f k1 l0).bind fun t730 => (if t730 = (wrap64 (x7_1 - x6_1)) then (if t723 < 0 then (revetmentlaw44_LoadsSums.j2 k1 t723 t724 t725 (wrap64 (t726 + t727)) true) else (if t724 < 1 then (revetmentlaw44_LoadsSums.j2 k1 t723 t724 t725 (wrap64 (t726 + t727)) true) else (revetmentlaw44_LoadsSums.j2 k1 t723 t724 t725 (wrap64 (t726 + t727)) (decide (t723 > t724))))) else (revetmentlaw44_LoadsSums.j2 k1 t723 t724 t725 (wrap64 (t726 + t727)) true)))))))) = some true := H
     have A23 := Aside0.mk A230
     clear A230
     replace H := Option.bind_eq_some_iff.mp H
     obtain ⟨t725, A240, H⟩ := H
     replace H : ((revetmentlaw44_held.f a1_0).bind fun t726 => ((revetmentlaw44_held.f a1_1).bind fun t727 => ((loads_Sum.f k1 l0).bind fun bt728 => (if (!(bt728.1 == x719000_1) || (!(bt728.2 == x719001_1))) = true then (revetmentlaw44_LoadsSums.j2 k1 t723 t724 t725 (wrap64 (t726 + t727)) true) else ((loads_Even.f k1 l0).bind fun t730 => (if t730 = (wrap64 (x7_1 - x6_1)) then (if t723 < 0 then (revetmentlaw44_LoadsSums.j2 k1 t723 t724 t725 (wrap64 (t726 + t727)) true) else (if t724 < 1 then (revetmentlaw44_LoadsSums.j2 k1 t723 t724 t725 (wrap64 (t726 + t727)) true) else (revetmentlaw44_LoadsSums.j2 k1 t723 t724 t725 (wrap64 (t726 + t727)) (decide (t723 > t724))))) else (revetmentlaw44_LoadsSums.j2 k1 t723 t724 t725 (wrap64 (t726 + t727)) true))))))) = some true := H
     have A24 := Aside0.mk A240
     clear A240
     replace H := Option.bind_eq_some_iff.mp H
     obtain ⟨t726, A250, H⟩ := H
     replace H : ((revetmentlaw44_held.f a1_1).bind fun t727 => ((loads_Sum.f k1 l0).bind fun bt728 => (if (!(bt728.1 == x719000_1) || (!(bt728.2 == x719001_1))) = true then (revetmentlaw44_LoadsSums.j2 k1 t723 t724 t725 (wrap64 (t726 + t727)) true) else ((loads_Even.f k1 l0).bind fun t730 => (if t730 = (wrap64 (x7_1 - x6_1)) then (if t723 < 0 then (revetmentlaw44_LoadsSums.j2 k1 t723 t724 t725 (wrap64 (t726 + t727)) true) else (if t724 < 1 then (revetmentlaw44_LoadsSums.j2 k1 t723 t724 t725 (wrap64 (t726 + t727)) true) else (revetmentlaw44_LoadsSums.j2 k1 t723 t724 t725 (wrap64 (t726 + t727)) (decide (t723 > t724))))) else (revetmentlaw44_LoadsSums.j2 k1 t723 t724 t725 (wrap64 (t726 + t727)) true)))))) = some true := H
     have A25 := Aside0.mk A250
     clear A250
     replace H := Option.bind_eq_some_iff.mp H
     obtain ⟨t727, A260, H⟩ := H
     replace H : ((loads_Sum.f k1 l0).bind fun bt728 => (if (!(bt728.1 == x719000_1) || (!(bt728.2 == x719001_1))) = true then (revetmentlaw44_LoadsSums.j2 k1 t723 t724 t725 (wrap64 (t726 + t727)) true) else ((loads_Even.f k1 l0).bind fun t730 => (if t730 = (wrap64 (x7_1 - x6_1)) then (if t723 < 0 then (revetmentlaw44_LoadsSums.j2 k1 t723 t724 t725 (wrap64 (t726 + t727)) true) else (if t724 < 1 then (revetmentlaw44_LoadsSums.j2 k1 t723 t724 t725 (wrap64 (t726 + t727)) true) else (revetmentlaw44_LoadsSums.j2 k1 t723 t724 t725 (wrap64 (t726 + t727)) (decide (t723 > t724))))) else (revetmentlaw44_LoadsSums.j2 k1 t723 t724 t725 (wrap64 (t726 + t727)) true))))) = some true := H
     have A26 := Aside0.mk A260
     clear A260
     have HC27 := Aside0.mk H
     clear H
     have hnb28 := NB716_718.out
     have hnc28 := NB718_716.out
     have hcz29_0 : wr.cell? ⟨gb716, 0, none⟩ = some (.int .i64 a1_0) := (blk_cell BK716.out 0).trans rfl
     have hcz29_1 : wr.cell? ⟨gb716, 1, none⟩ = some (.int .i64 a1_1) := (blk_cell BK716.out 1).trans rfl
     have hfz29_0 := blk_frozen BK716.out 0
     have hfz29_1 := blk_frozen BK716.out 1
     try go_wp2_with (first | ((with_reducible refine gate_callee (f := 62) rfl ?_); refine goesL_ (some 73) rfl rfl Try.func62 (by kernel_rfl) rfl #[.agg #[.int .i64 a1_0, .int .i64 a1_1]] rfl (by (try simp only [List.map_toArray, List.map_cons, List.map_nil]); first | done | rfl | (simp only [List.length_drop, List.length_take]; rfl)) ?_; (with_reducible refine (loads_Part.calls k1 a1_0 a1_1 t723 t724 _ A23.out).mono ?_); rintro e w30 ⟨rfl, hb⟩; refine ⟨_, rfl, ?_⟩; have n0_ := bkb BK716 hb; have n1_ := bkb BK718 hb; have n2_ := bst HB hb; clear BK716; clear BK718; clear HB; have BK716 := n0_; have BK718 := n1_; have HB := n2_; clear n0_ n1_ n2_; (try clear hb); (try clear hb2); (try clear hk); (try clear hi)))
     replace BK716 := Aside0.mk (blk_drew BK716.out)
     replace BK718 := Aside0.mk (blk_drew BK718.out)
     replace HB := Aside0.mk (below_drew1 HB.out)
     refine start_ (n := 12) (S := fun w' => w'.cell? ⟨gb716, 0, none⟩ = some (.int .i64 a1_0) ∧ w'.cell? ⟨gb716, 1, none⟩ = some (.int .i64 a1_1)) (ds := []) (bq 12 0) (by kernel_rfl) rfl rfl ⟨(blk_cell BK716.out 0).trans rfl, (blk_cell BK716.out 1).trans rfl⟩ (fun hHeld => ?_); refine with_tabW revetmentlaw44_LoadsSums.tab15 revetmentlaw44_LoadsSums.bits15 (fun HT_ HW_ => ?_)
     generalize w30.drew = w31 at BK716 BK718 HB hHeld ⊢
     apply pu 0 76 (bq 12 1) HT_
     apply pu 3 79 (bq 12 9) HT_
     apply pu 6 82 (bq 12 73) HT_
     apply tu 1 77 (bq 12 75) HT_ HW_ hHeld
     apply tu 4 80 (bq 12 91) HT_ HW_ hHeld
     apply tu 7 83 (bq 12 219) HT_ HW_ hHeld
     refine one_ (i := 2) (N := some 78) (bq 12 223) rfl rfl (one_of HT_.out (by kernel_rfl)) (by decide) (fun K hK => ?_)
     refine gs Try.func65 #[.int .i64 a1_1] ?_
     with_reducible refine (revetmentlaw44_held.calls a1_1 t725 _ A24.out).mono ?_
     rintro e w' ⟨rfl, ⟨nd, rfl⟩⟩
     refine ⟨_, rfl, ?_⟩
     replace BK716 := Aside0.mk (blk_drewN BK716.out nd)
     replace BK718 := Aside0.mk (blk_drewN BK718.out nd)
     replace HB := Aside0.mk (pw_below_drewN HB.out nd)
     generalize w31.drewN nd = w31 at BK716 BK718 HB ⊢
     refine hK.out _ _ sc (fun hHeld => ?_)
     clear hK K
     apply nm 0
     refine one_ (i := 5) (N := some 81) (bq 12 255) rfl rfl (one_of HT_.out (by kernel_rfl)) (by decide) (fun K hK => ?_)
     refine gs Try.func65 #[.int .i64 a1_0] ?_
     with_reducible refine (revetmentlaw44_held.calls a1_0 t726 _ A25.out).mono ?_
     rintro e w' ⟨rfl, ⟨nd, rfl⟩⟩
     refine ⟨_, rfl, ?_⟩
     replace BK716 := Aside0.mk (blk_drewN BK716.out nd)
     replace BK718 := Aside0.mk (blk_drewN BK718.out nd)
     replace HB := Aside0.mk (pw_below_drewN HB.out nd)
     generalize w31.drewN nd = w31 at BK716 BK718 HB ⊢
     refine hK.out _ _ sc (fun hHeld => ?_)
     clear hK K
     apply nm 0
     refine one_ (i := 8) (N := some 84) (bq 12 511) rfl rfl (one_of HT_.out (by kernel_rfl)) (by decide) (fun K hK => ?_)
     refine gs Try.func65 #[.int .i64 a1_1] ?_
     with_reducible refine (revetmentlaw44_held.calls a1_1 t727 _ A26.out).mono ?_
     rintro e w' ⟨rfl, ⟨nd, rfl⟩⟩
     refine ⟨_, rfl, ?_⟩
     replace BK716 := Aside0.mk (blk_drewN BK716.out nd)
     replace BK718 := Aside0.mk (blk_drewN BK718.out nd)
     replace HB := Aside0.mk (pw_below_drewN HB.out nd)
     generalize w31.drewN nd = w31 at BK716 BK718 HB ⊢
     refine hK.out _ _ sc (fun hHeld => ?_)
     clear hK K
     apply nm 0
     apply pu 9 85 (bq 12 1023) HT_
     apply pu 10 13 (bq 12 2047) HT_
     apply pu 11 14 (bq 12 4095) HT_
     refine done_ (done_of HT_.out (by kernel_rfl)) ?_
     go_upto_region 16 with (fail)
     go_cut [110] (fun v110 wc => ∃ (kq : Nat) (x110_26 : Bool), v110 = .bool x110_26 ∧ Aside0 (revetmentlaw44_LoadsSums.j2 kq t723 t724 t725 (wrap64 (t726 + t727)) x110_26 = some true) ∧ Aside0 (kq ≤ k1) ∧ Aside0 (wc.heap[gb716]? = some (.cells #[.int .i64 a1_0, .int .i64 a1_1] 75 (0, 0))) ∧ Aside0 (wc.heap[gb718]? = some (.cells #[.int .i64 x719000_1, .int .i64 x719001_1] 75 (0, 0))) ∧ Aside0 (Below w.heap.size w wc))
     case first =>
      have H := HC27.out
      clear HC27
      replace H := Option.bind_eq_some_iff.mp H
      obtain ⟨⟨t728, t729⟩, A320, H⟩ := H
      replace H : (if (!(t728 == x719000_1) || (!(t729 == x719001_1))) = true then (revetmentlaw44_LoadsSums.j2 k1 t723 t724 t725 (wrap64 (t726 + t727)) true) else ((loads_Even.f k1 l0).bind fun t730 => (if t730 = (wrap64 (x7_1 - x6_1)) then (if t723 < 0 then (revetmentlaw44_LoadsSums.j2 k1 t723 t724 t725 (wrap64 (t726 + t727)) true) else (if t724 < 1 then (revetmentlaw44_LoadsSums.j2 k1 t723 t724 t725 (wrap64 (t726 + t727)) true) else (revetmentlaw44_LoadsSums.j2 k1 t723 t724 t725 (wrap64 (t726 + t727)) (decide (t723 > t724))))) else (revetmentlaw44_LoadsSums.j2 k1 t723 t724 t725 (wrap64 (t726 + t727)) true)))) = some true := H
      have A32 := Aside0.mk A320
      clear A320
      by_cases c33 : (!(t728 == x719000_1) || (!(t729 == x719001_1))) = true
      ·rw [if_pos c33] at H
       have c33b0 : (!(t728 == x719000_1) || (!(t729 == x719001_1))) = true := c33
       clear c33
       (first | rw [c33b0] | (simp only [i64_w, i32_w]; rw [c33b0]) | skip)
       have H' := Aside0.mk H
       clear H
       try go_wp2
       replace BK716 := Aside0.mk (blk_drew BK716.out)
       replace BK718 := Aside0.mk (blk_drew BK718.out)
       replace HB := Aside0.mk (below_drew1 HB.out)
       refine start_ (n := 25) (S := fun w' => w'.cell? ⟨gb718, 0, none⟩ = some (.int .i64 x719000_1) ∧ w'.cell? ⟨gb718, 1, none⟩ = some (.int .i64 x719001_1)) (ds := []) (bq 25 0) (by kernel_rfl) rfl rfl ⟨(blk_cell BK718.out 0).trans rfl, (blk_cell BK718.out 1).trans rfl⟩ (fun hHeld => ?_); refine with_tabW revetmentlaw44_LoadsSums.tab16 revetmentlaw44_LoadsSums.bits16 (fun HT_ HW_ => ?_)
       generalize w31.drew = w34 at BK716 BK718 HB hHeld ⊢
       apply pu 0 86 (bq 25 1) HT_
       apply tu 2 88 (bq 25 5) HT_ HW_ hHeld
       refine one_ (i := 1) (N := some 87) (bq 25 7) rfl rfl (one_of HT_.out (by kernel_rfl)) (by decide) (fun K hK => ?_)
       refine gs Try.func63 #[.slice A0 l0.length c0] ?_
       with_reducible refine (loads_Sum.calls k1 _ _ l0 t728 t729 _ ?side1 ?side2 A32.out).mono ?_
       (case side1 => repeat (first | exact (Kd.C_below HR0.out HB.out) | (with_reducible refine Kd.C_alloc ?_ _) | (with_reducible refine Kd.C_drewN ?_ _) | (with_reducible refine Kd.C_drew ?_)))
       (case side2 => exact HC0.out)
       rintro e w35 ⟨rfl, hb⟩
       refine ⟨_, rfl, ?_⟩
       replace BK716 := bkb BK716 hb
       replace BK718 := bkb BK718 hb
       replace HB := bst HB hb
       try clear hb; try clear hb2; try clear hk; try clear hi
       refine hK.out _ _ sc (fun hHeld => ?_)
       clear hK K
       apply nm 0
       apply pu 3 89 (bq 25 15) HT_
       apply pu 4 90 (bq 25 31) HT_
       apply po 5 91 (bq 25 63) HT_
       apply po 6 92 (bq 25 127) HT_
       apply po 7 93 (bq 25 255) HT_
       apply po 8 94 (bq 25 511) HT_
       apply po 9 95 (bq 25 1023) HT_
       apply po 10 96 (bq 25 2047) HT_
       apply pu 11 97 (bq 25 4095) HT_
       apply pu 12 98 (bq 25 8191) HT_
       apply po 13 99 (bq 25 16383) HT_
       apply po 14 100 (bq 25 32767) HT_
       apply pu 15 101 (bq 25 65535) HT_
       apply pu 16 102 (bq 25 131071) HT_
       apply po 17 103 (bq 25 262143) HT_
       apply po 18 104 (bq 25 524287) HT_
       apply pu 19 105 (bq 25 1048575) HT_
       apply pu 20 106 (bq 25 2097151) HT_
       apply po 21 107 (bq 25 4194303) HT_
       apply po 22 108 (bq 25 8388607) HT_
       apply po 23 109 (bq 25 16777215) HT_
       apply pu 24 110 (bq 25 33554431) HT_
       refine done_ (done_of HT_.out (by kernel_rfl)) ?_
       try go_wp2
       go_meet
       case rel => exact ⟨_, (true), (by first | rfl | (simp; done) | (simp [*]; done)), H', ⟨by have := HK1.out; first | omega | exact Nat.le_refl _⟩, ⟨by (with_reducible repeat (first | refine blk_drewN ?_ _ | refine blk_drew ?_ | refine blk_alloc ?_ _)); exact BK716.out⟩, ⟨by (with_reducible repeat (first | refine blk_drewN ?_ _ | refine blk_drew ?_ | refine blk_alloc ?_ _)); exact BK718.out⟩, ⟨bl HB⟩⟩
      ·rw [if_neg c33] at H
       have c33b0 : (!(t728 == x719000_1) || (!(t729 == x719001_1))) = false := by simpa using c33
       clear c33
       (first | rw [c33b0] | (simp only [i64_w, i32_w]; rw [c33b0]) | skip)
       replace H := Option.bind_eq_some_iff.mp H
       obtain ⟨t730, A360, H⟩ := H
       replace H : (if t730 = (wrap64 (x7_1 - x6_1)) then (if t723 < 0 then (revetmentlaw44_LoadsSums.j2 k1 t723 t724 t725 (wrap64 (t726 + t727)) true) else (if t724 < 1 then (revetmentlaw44_LoadsSums.j2 k1 t723 t724 t725 (wrap64 (t726 + t727)) true) else (revetmentlaw44_LoadsSums.j2 k1 t723 t724 t725 (wrap64 (t726 + t727)) (decide (t723 > t724))))) else (revetmentlaw44_LoadsSums.j2 k1 t723 t724 t725 (wrap64 (t726 + t727)) true)) = some true := H
       have A36 := Aside0.mk A360
       clear A360
       by_cases c37 : t730 = (wrap64 (x7_1 - x6_1))
       ·rw [if_pos c37] at H
        have c37b0 : (t730 == (wrap64 (x7_1 - x6_1))) = true := beq_iff_eq.mpr c37
        have c37b1 : (t730 != (wrap64 (x7_1 - x6_1))) = false := bne_eq_false_iff_eq.mpr c37
        clear c37
        by_cases c38 : t723 < 0
        ·rw [if_pos c38] at H
         have c38b0 : decide (t723 < 0) = true := decide_eq_true c38
         clear c38
         have H' := Aside0.mk H
         clear H
         try go_wp2
         replace BK716 := Aside0.mk (blk_drew BK716.out)
         replace BK718 := Aside0.mk (blk_drew BK718.out)
         replace HB := Aside0.mk (below_drew1 HB.out)
         refine start_ (n := 25) (S := fun w' => w'.cell? ⟨gb718, 0, none⟩ = some (.int .i64 x719000_1) ∧ w'.cell? ⟨gb718, 1, none⟩ = some (.int .i64 x719001_1)) (ds := []) (bq 25 0) (by kernel_rfl) rfl rfl ⟨(blk_cell BK718.out 0).trans rfl, (blk_cell BK718.out 1).trans rfl⟩ (fun hHeld => ?_); refine with_tabW revetmentlaw44_LoadsSums.tab16 revetmentlaw44_LoadsSums.bits16 (fun HT_ HW_ => ?_)
         generalize w31.drew = w39 at BK716 BK718 HB hHeld ⊢
         apply pu 0 86 (bq 25 1) HT_
         apply tu 2 88 (bq 25 5) HT_ HW_ hHeld
         refine one_ (i := 1) (N := some 87) (bq 25 7) rfl rfl (one_of HT_.out (by kernel_rfl)) (by decide) (fun K hK => ?_)
         refine gs Try.func63 #[.slice A0 l0.length c0] ?_
         with_reducible refine (loads_Sum.calls k1 _ _ l0 t728 t729 _ ?side1 ?side2 A32.out).mono ?_
         (case side1 => repeat (first | exact (Kd.C_below HR0.out HB.out) | (with_reducible refine Kd.C_alloc ?_ _) | (with_reducible refine Kd.C_drewN ?_ _) | (with_reducible refine Kd.C_drew ?_)))
         (case side2 => exact HC0.out)
         rintro e w40 ⟨rfl, hb⟩
         refine ⟨_, rfl, ?_⟩
         replace BK716 := bkb BK716 hb
         replace BK718 := bkb BK718 hb
         replace HB := bst HB hb
         try clear hb; try clear hb2; try clear hk; try clear hi
         refine hK.out _ _ sc (fun hHeld => ?_)
         clear hK K
         apply nm 0
         apply pu 3 89 (bq 25 15) HT_
         apply pu 4 90 (bq 25 31) HT_
         apply pu 5 91 (bq 25 63) HT_
         apply pu 7 93 (bq 25 191) HT_
         apply pu 8 94 (bq 25 447) HT_
         apply pu 9 95 (bq 25 959) HT_
         refine one_ (i := 6) (N := some 92) (bq 25 1023) rfl rfl (one_of HT_.out (by kernel_rfl)) (by decide) (fun K hK => ?_)
         refine gs Try.func64 #[.slice A0 l0.length c0] ?_
         with_reducible refine (loads_Even.calls k1 _ _ l0 t730 _ ?side1 ?side2 A36.out).mono ?_
         (case side1 => repeat (first | exact (Kd.C_below HR0.out HB.out) | (with_reducible refine Kd.C_alloc ?_ _) | (with_reducible refine Kd.C_drewN ?_ _) | (with_reducible refine Kd.C_drew ?_)))
         (case side2 => exact HC0.out)
         rintro e w41 ⟨rfl, hb⟩
         refine ⟨_, rfl, ?_⟩
         replace BK716 := bkb BK716 hb
         replace BK718 := bkb BK718 hb
         replace HB := bst HB hb
         try clear hb; try clear hb2; try clear hk; try clear hi
         refine hK.out _ _ sc (fun hHeld => ?_)
         clear hK K
         apply nm 0
         apply pu 10 96 (bq 25 2047) HT_
         apply pu 11 97 (bq 25 4095) HT_
         apply pu 12 98 (bq 25 8191) HT_
         apply pu 13 99 (bq 25 16383) HT_
         apply pu 14 100 (bq 25 32767) HT_
         apply pu 15 101 (bq 25 65535) HT_
         apply pu 16 102 (bq 25 131071) HT_
         apply po 17 103 (bq 25 262143) HT_
         apply po 18 104 (bq 25 524287) HT_
         apply pu 19 105 (bq 25 1048575) HT_
         apply pu 20 106 (bq 25 2097151) HT_
         apply po 21 107 (bq 25 4194303) HT_
         apply po 22 108 (bq 25 8388607) HT_
         apply po 23 109 (bq 25 16777215) HT_
         apply pu 24 110 (bq 25 33554431) HT_
         refine done_ (done_of HT_.out (by kernel_rfl)) ?_
         try go_wp2
         go_meet
         case rel => exact ⟨_, (true), (by first | rfl | (simp; done) | (simp [*]; done)), H', ⟨by have := HK1.out; first | omega | exact Nat.le_refl _⟩, ⟨by (with_reducible repeat (first | refine blk_drewN ?_ _ | refine blk_drew ?_ | refine blk_alloc ?_ _)); exact BK716.out⟩, ⟨by (with_reducible repeat (first | refine blk_drewN ?_ _ | refine blk_drew ?_ | refine blk_alloc ?_ _)); exact BK718.out⟩, ⟨bl HB⟩⟩
        ·rw [if_neg c38] at H
         have c38b0 : decide (t723 < 0) = false := decide_eq_false c38
         clear c38
         by_cases c42 : t724 < 1
         ·rw [if_pos c42] at H
          have c42b0 : decide (t724 < 1) = true := decide_eq_true c42
          clear c42
          have H' := Aside0.mk H
          clear H
          try go_wp2
          replace BK716 := Aside0.mk (blk_drew BK716.out)
          replace BK718 := Aside0.mk (blk_drew BK718.out)
          replace HB := Aside0.mk (below_drew1 HB.out)
          refine start_ (n := 25) (S := fun w' => w'.cell? ⟨gb718, 0, none⟩ = some (.int .i64 x719000_1) ∧ w'.cell? ⟨gb718, 1, none⟩ = some (.int .i64 x719001_1)) (ds := []) (bq 25 0) (by kernel_rfl) rfl rfl ⟨(blk_cell BK718.out 0).trans rfl, (blk_cell BK718.out 1).trans rfl⟩ (fun hHeld => ?_); refine with_tabW revetmentlaw44_LoadsSums.tab16 revetmentlaw44_LoadsSums.bits16 (fun HT_ HW_ => ?_)
          generalize w31.drew = w43 at BK716 BK718 HB hHeld ⊢
          apply pu 0 86 (bq 25 1) HT_
          apply tu 2 88 (bq 25 5) HT_ HW_ hHeld
          refine one_ (i := 1) (N := some 87) (bq 25 7) rfl rfl (one_of HT_.out (by kernel_rfl)) (by decide) (fun K hK => ?_)
          refine gs Try.func63 #[.slice A0 l0.length c0] ?_
          with_reducible refine (loads_Sum.calls k1 _ _ l0 t728 t729 _ ?side1 ?side2 A32.out).mono ?_
          (case side1 => repeat (first | exact (Kd.C_below HR0.out HB.out) | (with_reducible refine Kd.C_alloc ?_ _) | (with_reducible refine Kd.C_drewN ?_ _) | (with_reducible refine Kd.C_drew ?_)))
          (case side2 => exact HC0.out)
          rintro e w44 ⟨rfl, hb⟩
          refine ⟨_, rfl, ?_⟩
          replace BK716 := bkb BK716 hb
          replace BK718 := bkb BK718 hb
          replace HB := bst HB hb
          try clear hb; try clear hb2; try clear hk; try clear hi
          refine hK.out _ _ sc (fun hHeld => ?_)
          clear hK K
          apply nm 0
          apply pu 3 89 (bq 25 15) HT_
          apply pu 4 90 (bq 25 31) HT_
          apply pu 5 91 (bq 25 63) HT_
          apply pu 7 93 (bq 25 191) HT_
          apply pu 8 94 (bq 25 447) HT_
          apply pu 9 95 (bq 25 959) HT_
          refine one_ (i := 6) (N := some 92) (bq 25 1023) rfl rfl (one_of HT_.out (by kernel_rfl)) (by decide) (fun K hK => ?_)
          refine gs Try.func64 #[.slice A0 l0.length c0] ?_
          with_reducible refine (loads_Even.calls k1 _ _ l0 t730 _ ?side1 ?side2 A36.out).mono ?_
          (case side1 => repeat (first | exact (Kd.C_below HR0.out HB.out) | (with_reducible refine Kd.C_alloc ?_ _) | (with_reducible refine Kd.C_drewN ?_ _) | (with_reducible refine Kd.C_drew ?_)))
          (case side2 => exact HC0.out)
          rintro e w45 ⟨rfl, hb⟩
          refine ⟨_, rfl, ?_⟩
          replace BK716 := bkb BK716 hb
          replace BK718 := bkb BK718 hb
          replace HB := bst HB hb
          try clear hb; try clear hb2; try clear hk; try clear hi
          refine hK.out _ _ sc (fun hHeld => ?_)
          clear hK K
          apply nm 0
          apply pu 10 96 (bq 25 2047) HT_
          apply pu 11 97 (bq 25 4095) HT_
          apply pu 12 98 (bq 25 8191) HT_
          apply pu 13 99 (bq 25 16383) HT_
          apply pu 14 100 (bq 25 32767) HT_
          apply pu 15 101 (bq 25 65535) HT_
          apply pu 16 102 (bq 25 131071) HT_
          apply pu 17 103 (bq 25 262143) HT_
          apply pu 18 104 (bq 25 524287) HT_
          apply pu 19 105 (bq 25 1048575) HT_
          apply pu 20 106 (bq 25 2097151) HT_
          apply po 21 107 (bq 25 4194303) HT_
          apply po 22 108 (bq 25 8388607) HT_
          apply po 23 109 (bq 25 16777215) HT_
          apply pu 24 110 (bq 25 33554431) HT_
          refine done_ (done_of HT_.out (by kernel_rfl)) ?_
          try go_wp2
          go_meet
          case rel => exact ⟨_, (true), (by first | rfl | (simp; done) | (simp [*]; done)), H', ⟨by have := HK1.out; first | omega | exact Nat.le_refl _⟩, ⟨by (with_reducible repeat (first | refine blk_drewN ?_ _ | refine blk_drew ?_ | refine blk_alloc ?_ _)); exact BK716.out⟩, ⟨by (with_reducible repeat (first | refine blk_drewN ?_ _ | refine blk_drew ?_ | refine blk_alloc ?_ _)); exact BK718.out⟩, ⟨bl HB⟩⟩
         ·rw [if_neg c42] at H
          have c42b0 : decide (t724 < 1) = false := decide_eq_false c42
          clear c42
          have H' := Aside0.mk H
          clear H
          try go_wp2
          replace BK716 := Aside0.mk (blk_drew BK716.out)
          replace BK718 := Aside0.mk (blk_drew BK718.out)
          replace HB := Aside0.mk (below_drew1 HB.out)
          refine start_ (n := 25) (S := fun w' => w'.cell? ⟨gb718, 0, none⟩ = some (.int .i64 x719000_1) ∧ w'.cell? ⟨gb718, 1, none⟩ = some (.int .i64 x719001_1)) (ds := []) (bq 25 0) (by kernel_rfl) rfl rfl ⟨(blk_cell BK718.out 0).trans rfl, (blk_cell BK718.out 1).trans rfl⟩ (fun hHeld => ?_); refine with_tabW revetmentlaw44_LoadsSums.tab16 revetmentlaw44_LoadsSums.bits16 (fun HT_ HW_ => ?_)
          generalize w31.drew = w46 at BK716 BK718 HB hHeld ⊢
          apply pu 0 86 (bq 25 1) HT_
          apply tu 2 88 (bq 25 5) HT_ HW_ hHeld
          refine one_ (i := 1) (N := some 87) (bq 25 7) rfl rfl (one_of HT_.out (by kernel_rfl)) (by decide) (fun K hK => ?_)
          refine gs Try.func63 #[.slice A0 l0.length c0] ?_
          with_reducible refine (loads_Sum.calls k1 _ _ l0 t728 t729 _ ?side1 ?side2 A32.out).mono ?_
          (case side1 => repeat (first | exact (Kd.C_below HR0.out HB.out) | (with_reducible refine Kd.C_alloc ?_ _) | (with_reducible refine Kd.C_drewN ?_ _) | (with_reducible refine Kd.C_drew ?_)))
          (case side2 => exact HC0.out)
          rintro e w47 ⟨rfl, hb⟩
          refine ⟨_, rfl, ?_⟩
          replace BK716 := bkb BK716 hb
          replace BK718 := bkb BK718 hb
          replace HB := bst HB hb
          try clear hb; try clear hb2; try clear hk; try clear hi
          refine hK.out _ _ sc (fun hHeld => ?_)
          clear hK K
          apply nm 0
          apply pu 3 89 (bq 25 15) HT_
          apply pu 4 90 (bq 25 31) HT_
          apply pu 5 91 (bq 25 63) HT_
          apply pu 7 93 (bq 25 191) HT_
          apply pu 8 94 (bq 25 447) HT_
          apply pu 9 95 (bq 25 959) HT_
          refine one_ (i := 6) (N := some 92) (bq 25 1023) rfl rfl (one_of HT_.out (by kernel_rfl)) (by decide) (fun K hK => ?_)
          refine gs Try.func64 #[.slice A0 l0.length c0] ?_
          with_reducible refine (loads_Even.calls k1 _ _ l0 t730 _ ?side1 ?side2 A36.out).mono ?_
          (case side1 => repeat (first | exact (Kd.C_below HR0.out HB.out) | (with_reducible refine Kd.C_alloc ?_ _) | (with_reducible refine Kd.C_drewN ?_ _) | (with_reducible refine Kd.C_drew ?_)))
          (case side2 => exact HC0.out)
          rintro e w48 ⟨rfl, hb⟩
          refine ⟨_, rfl, ?_⟩
          replace BK716 := bkb BK716 hb
          replace BK718 := bkb BK718 hb
          replace HB := bst HB hb
          try clear hb; try clear hb2; try clear hk; try clear hi
          refine hK.out _ _ sc (fun hHeld => ?_)
          clear hK K
          apply nm 0
          apply pu 10 96 (bq 25 2047) HT_
          apply pu 11 97 (bq 25 4095) HT_
          apply pu 12 98 (bq 25 8191) HT_
          apply pu 13 99 (bq 25 16383) HT_
          apply pu 14 100 (bq 25 32767) HT_
          apply pu 15 101 (bq 25 65535) HT_
          apply pu 16 102 (bq 25 131071) HT_
          apply pu 17 103 (bq 25 262143) HT_
          apply pu 18 104 (bq 25 524287) HT_
          apply pu 19 105 (bq 25 1048575) HT_
          apply pu 20 106 (bq 25 2097151) HT_
          apply pu 21 107 (bq 25 4194303) HT_
          apply pu 22 108 (bq 25 8388607) HT_
          apply pu 23 109 (bq 25 16777215) HT_
          apply pu 24 110 (bq 25 33554431) HT_
          refine done_ (done_of HT_.out (by kernel_rfl)) ?_
          try go_wp2
          go_meet
          case rel => exact ⟨_, (decide (t723 > t724)), (by first | rfl | (simp; done) | (simp [*]; done)), H', ⟨by have := HK1.out; first | omega | exact Nat.le_refl _⟩, ⟨by (with_reducible repeat (first | refine blk_drewN ?_ _ | refine blk_drew ?_ | refine blk_alloc ?_ _)); exact BK716.out⟩, ⟨by (with_reducible repeat (first | refine blk_drewN ?_ _ | refine blk_drew ?_ | refine blk_alloc ?_ _)); exact BK718.out⟩, ⟨bl HB⟩⟩
       ·rw [if_neg c37] at H
        have c37b0 : (t730 == (wrap64 (x7_1 - x6_1))) = false := beq_eq_false_iff_ne.mpr c37
        have c37b1 : (t730 != (wrap64 (x7_1 - x6_1))) = true := bne_iff_ne.mpr c37
        have H' := Aside0.mk H
        clear H
        try go_wp2
        replace BK716 := Aside0.mk (blk_drew BK716.out)
        replace BK718 := Aside0.mk (blk_drew BK718.out)
        replace HB := Aside0.mk (below_drew1 HB.out)
        refine start_ (n := 25) (S := fun w' => w'.cell? ⟨gb718, 0, none⟩ = some (.int .i64 x719000_1) ∧ w'.cell? ⟨gb718, 1, none⟩ = some (.int .i64 x719001_1)) (ds := []) (bq 25 0) (by kernel_rfl) rfl rfl ⟨(blk_cell BK718.out 0).trans rfl, (blk_cell BK718.out 1).trans rfl⟩ (fun hHeld => ?_); refine with_tabW revetmentlaw44_LoadsSums.tab16 revetmentlaw44_LoadsSums.bits16 (fun HT_ HW_ => ?_)
        generalize w31.drew = w49 at BK716 BK718 HB hHeld ⊢
        apply pu 0 86 (bq 25 1) HT_
        apply tu 2 88 (bq 25 5) HT_ HW_ hHeld
        refine one_ (i := 1) (N := some 87) (bq 25 7) rfl rfl (one_of HT_.out (by kernel_rfl)) (by decide) (fun K hK => ?_)
        refine gs Try.func63 #[.slice A0 l0.length c0] ?_
        with_reducible refine (loads_Sum.calls k1 _ _ l0 t728 t729 _ ?side1 ?side2 A32.out).mono ?_
        (case side1 => repeat (first | exact (Kd.C_below HR0.out HB.out) | (with_reducible refine Kd.C_alloc ?_ _) | (with_reducible refine Kd.C_drewN ?_ _) | (with_reducible refine Kd.C_drew ?_)))
        (case side2 => exact HC0.out)
        rintro e w50 ⟨rfl, hb⟩
        refine ⟨_, rfl, ?_⟩
        replace BK716 := bkb BK716 hb
        replace BK718 := bkb BK718 hb
        replace HB := bst HB hb
        try clear hb; try clear hb2; try clear hk; try clear hi
        refine hK.out _ _ sc (fun hHeld => ?_)
        clear hK K
        apply nm 0
        apply pu 3 89 (bq 25 15) HT_
        apply pu 4 90 (bq 25 31) HT_
        apply pu 5 91 (bq 25 63) HT_
        apply pu 7 93 (bq 25 191) HT_
        apply pu 8 94 (bq 25 447) HT_
        apply pu 9 95 (bq 25 959) HT_
        refine one_ (i := 6) (N := some 92) (bq 25 1023) rfl rfl (one_of HT_.out (by kernel_rfl)) (by decide) (fun K hK => ?_)
        refine gs Try.func64 #[.slice A0 l0.length c0] ?_
        with_reducible refine (loads_Even.calls k1 _ _ l0 t730 _ ?side1 ?side2 A36.out).mono ?_
        (case side1 => repeat (first | exact (Kd.C_below HR0.out HB.out) | (with_reducible refine Kd.C_alloc ?_ _) | (with_reducible refine Kd.C_drewN ?_ _) | (with_reducible refine Kd.C_drew ?_)))
        (case side2 => exact HC0.out)
        rintro e w51 ⟨rfl, hb⟩
        refine ⟨_, rfl, ?_⟩
        replace BK716 := bkb BK716 hb
        replace BK718 := bkb BK718 hb
        replace HB := bst HB hb
        try clear hb; try clear hb2; try clear hk; try clear hi
        refine hK.out _ _ sc (fun hHeld => ?_)
        clear hK K
        apply nm 0
        apply pu 10 96 (bq 25 2047) HT_
        apply pu 11 97 (bq 25 4095) HT_
        apply pu 12 98 (bq 25 8191) HT_
        apply po 13 99 (bq 25 16383) HT_
        apply po 14 100 (bq 25 32767) HT_
        apply pu 15 101 (bq 25 65535) HT_
        apply pu 16 102 (bq 25 131071) HT_
        apply po 17 103 (bq 25 262143) HT_
        apply po 18 104 (bq 25 524287) HT_
        apply pu 19 105 (bq 25 1048575) HT_
        apply pu 20 106 (bq 25 2097151) HT_
        apply po 21 107 (bq 25 4194303) HT_
        apply po 22 108 (bq 25 8388607) HT_
        apply po 23 109 (bq 25 16777215) HT_
        apply pu 24 110 (bq 25 33554431) HT_
        refine done_ (done_of HT_.out (by kernel_rfl)) ?_
        try go_wp2
        go_meet
        case rel => exact ⟨_, (true), (by first | rfl | (simp; done) | (simp [*]; done)), H', ⟨by have := HK1.out; first | omega | exact Nat.le_refl _⟩, ⟨by (with_reducible repeat (first | refine blk_drewN ?_ _ | refine blk_drew ?_ | refine blk_alloc ?_ _)); exact BK716.out⟩, ⟨by (with_reducible repeat (first | refine blk_drewN ?_ _ | refine blk_drew ?_ | refine blk_alloc ?_ _)); exact BK718.out⟩, ⟨bl HB⟩⟩
     case rest =>
      clear HC27
      try clear p2
      try clear c3
      try clear c4
      try clear c6
      try clear p6
      try clear c37
      try clear c37b0
      try clear c37b1
      try clear c42
      try clear c42b0
      obtain ⟨kq, x110_26, rfl, HA, HJ26, BK716, BK718, HB⟩ := hcut
      cases kq with
      | zero => exact absurd HA.out (by simp [revetmentlaw44_LoadsSums.j2])
      | succ kj26 =>
       have H := HA.out
       clear HA
       simp only [revetmentlaw44_LoadsSums.j2] at H
       by_cases c52 : x110_26 = true
       ·subst c52
        have H1 : (some false) = some true := by rw [if_pos rfl] at H; exact H
        clear H
        have H := H1
        clear H1
        exact absurd H (by simp)
       ·replace c52 := Bool.eq_false_iff.mpr c52
        subst c52
        have H1 : (if (wrap64 (t726 + t727)) = 0 then (if t723 = 0 then (if t724 = 1 then ((revetmentlaw44_live.f).bind fun t731 => (some t731)) else (some false)) else (some false)) else (if t724 = 0 then (none) else (if (Int.tmod (wrap64 (t726 + t727)) t724) = 0 then (if (wrap64 ((wrap64 (Int.tdiv (wrap64 (t726 + t727)) t724)) * t723)) = t725 then ((revetmentlaw44_common.f kj26 t723 t724).bind fun t732 => (if t732 = 1 then ((revetmentlaw44_live.f).bind fun t733 => (some t733)) else (some false))) else (some false)) else (some false)))) = some true := by rw [if_neg (show ¬ (false = true) by decide)] at H; exact H
        clear H
        have H := H1
        clear H1
        by_cases c53 : (wrap64 (t726 + t727)) = 0
        ·rw [if_pos c53] at H
         have c53b0 : ((wrap64 (t726 + t727)) == 0) = true := beq_iff_eq.mpr c53
         have c53b1 : ((wrap64 (t726 + t727)) != 0) = false := bne_eq_false_iff_eq.mpr c53
         clear c53
         by_cases c54 : t723 = 0
         ·rw [if_pos c54] at H
          have c54b0 : (t723 == 0) = true := beq_iff_eq.mpr c54
          have c54b1 : (t723 != 0) = false := bne_eq_false_iff_eq.mpr c54
          clear c54
          by_cases c55 : t724 = 1
          ·rw [if_pos c55] at H
           have c55b0 : (t724 == 1) = true := beq_iff_eq.mpr c55
           have c55b1 : (t724 != 1) = false := bne_eq_false_iff_eq.mpr c55
           clear c55
           replace H := Option.bind_eq_some_iff.mp H
           obtain ⟨t731, A560, H⟩ := H
           replace H : (some t731) = some true := H
           have A56 := Aside0.mk A560
           clear A560
           obtain rfl := Option.some.inj H
           go_wp2_with (first | (go_at_call 60; (with_reducible refine (revetmentlaw44_live.calls  true _ A56.out).mono ?_); rintro e w57 ⟨rfl, hb⟩; have n0_ := bkb BK716 hb; have n1_ := bkb BK718 hb; have n2_ := bst HB hb; clear BK716; clear BK718; clear HB; have BK716 := n0_; have BK718 := n1_; have HB := n2_; clear n0_ n1_ n2_; (try clear hb); (try clear hb2); (try clear hk); (try clear hi)))
           go_ret
           exact ⟨by first | rfl | (simp [errW_none, errW_some] <;> rfl) | (simp [*, errW_none, errW_some] <;> rfl), bl HB⟩
          ·rw [if_neg c55] at H
           have c55b0 : (t724 == 1) = false := beq_eq_false_iff_ne.mpr c55
           have c55b1 : (t724 != 1) = true := bne_iff_ne.mpr c55
           exact absurd H (by simp)
         ·rw [if_neg c54] at H
          have c54b0 : (t723 == 0) = false := beq_eq_false_iff_ne.mpr c54
          have c54b1 : (t723 != 0) = true := bne_iff_ne.mpr c54
          exact absurd H (by simp)
        ·rw [if_neg c53] at H
         have c53b0 : ((wrap64 (t726 + t727)) == 0) = false := beq_eq_false_iff_ne.mpr c53
         have c53b1 : ((wrap64 (t726 + t727)) != 0) = true := bne_iff_ne.mpr c53
         by_cases c58 : t724 = 0
         ·rw [if_pos c58] at H
          exact absurd H (by simp)
         ·rw [if_neg c58] at H
          have c58b0 : (t724 == 0) = false := beq_eq_false_iff_ne.mpr c58
          have c58b1 : (t724 != 0) = true := bne_iff_ne.mpr c58
          by_cases c59 : (Int.tmod (wrap64 (t726 + t727)) t724) = 0
          ·rw [if_pos c59] at H
           have c59b0 : ((Int.tmod (wrap64 (t726 + t727)) t724) == 0) = true := beq_iff_eq.mpr c59
           have c59b1 : ((Int.tmod (wrap64 (t726 + t727)) t724) != 0) = false := bne_eq_false_iff_eq.mpr c59
           clear c59
           by_cases c60 : (wrap64 ((wrap64 (Int.tdiv (wrap64 (t726 + t727)) t724)) * t723)) = t725
           ·rw [if_pos c60] at H
            have c60b0 : ((wrap64 ((wrap64 (Int.tdiv (wrap64 (t726 + t727)) t724)) * t723)) == t725) = true := beq_iff_eq.mpr c60
            have c60b1 : ((wrap64 ((wrap64 (Int.tdiv (wrap64 (t726 + t727)) t724)) * t723)) != t725) = false := bne_eq_false_iff_eq.mpr c60
            clear c60
            replace H := Option.bind_eq_some_iff.mp H
            obtain ⟨t732, A610, H⟩ := H
            replace H : (if t732 = 1 then ((revetmentlaw44_live.f).bind fun t733 => (some t733)) else (some false)) = some true := H
            have A61 := Aside0.mk A610
            clear A610
            by_cases c62 : t732 = 1
            ·rw [if_pos c62] at H
             have c62b0 : (t732 == 1) = true := beq_iff_eq.mpr c62
             have c62b1 : (t732 != 1) = false := bne_eq_false_iff_eq.mpr c62
             clear c62
             replace H := Option.bind_eq_some_iff.mp H
             obtain ⟨t733, A630, H⟩ := H
             replace H : (some t733) = some true := H
             have A63 := Aside0.mk A630
             clear A630
             obtain rfl := Option.some.inj H
             go_wp2_with (first | (go_at_call 66; (with_reducible refine (revetmentlaw44_common.calls kj26 t723 t724 t732 _ A61.out).mono ?_); rintro e w' ⟨rfl, ⟨nd, rfl⟩⟩) | (go_at_call 60; (with_reducible refine (revetmentlaw44_live.calls  true _ A63.out).mono ?_); rintro e w64 ⟨rfl, hb⟩; have n0_ := bkb BK716 hb; have n1_ := bkb BK718 hb; have n2_ := bst HB hb; clear BK716; clear BK718; clear HB; have BK716 := n0_; have BK718 := n1_; have HB := n2_; clear n0_ n1_ n2_; (try clear hb); (try clear hb2); (try clear hk); (try clear hi)))
             go_ret
             exact ⟨by first | rfl | (simp [errW_none, errW_some] <;> rfl) | (simp [*, errW_none, errW_some] <;> rfl), bl HB⟩
            ·rw [if_neg c62] at H
             have c62b0 : (t732 == 1) = false := beq_eq_false_iff_ne.mpr c62
             have c62b1 : (t732 != 1) = true := bne_iff_ne.mpr c62
             exact absurd H (by simp)
           ·rw [if_neg c60] at H
            have c60b0 : ((wrap64 ((wrap64 (Int.tdiv (wrap64 (t726 + t727)) t724)) * t723)) == t725) = false := beq_eq_false_iff_ne.mpr c60
            have c60b1 : ((wrap64 ((wrap64 (Int.tdiv (wrap64 (t726 + t727)) t724)) * t723)) != t725) = true := bne_iff_ne.mpr c60
            exact absurd H (by simp)
          ·rw [if_neg c59] at H
           have c59b0 : ((Int.tmod (wrap64 (t726 + t727)) t724) == 0) = false := beq_eq_false_iff_ne.mpr c59
           have c59b1 : ((Int.tmod (wrap64 (t726 + t727)) t724) != 0) = true := bne_iff_ne.mpr c59
           exact absurd H (by simp)end Go.Proofs.Ytekihhbihnmakaa.PA
