/- Printed by the kit's print over stand-ins for some functions (xprint.py), with contracts of my own in their place. -/
import Derived.Test.YtekihhbihnmakaaPAx0
import Derived.Test.YtekihhbihnmakaaPAx54
namespace Go.Proofs.Ytekihhbihnmakaa.PA
open Go.RowKit Go.Proofs.YtekihhbihnmakaaW.PrintWords Go.Proofs.YtekihhbihnmakaaW.PrintLast
set_option linter.unusedVariables false
set_option linter.unusedSimpArgs false

/-! ### loads_Sum: function 63 -/
def loads_Sum.l0 : Nat → List (S75) → Int → Int → Int → Int → Option (Int × Int)
  | 0, _, _, _, _, _ => none
  | k + 1, x6, x7, x8, x684000, x684001 => if x8 < x7 then (if 0 ≤ x8 then (if x8 < (x6.length : Int) then ((loads_held.f ((rd_T75 x6 x8).f0)).bind fun t686 => ((loads_held.f ((rd_T75 x6 x8).f1)).bind fun t687 => (loads_Sum.l0 k x6 x7 (wrap64 (x8 + 1)) (wrap64 (x684000 + t686)) (wrap64 (x684001 + t687))))) else (none)) else (none)) else (some (x684000, x684001))
def loads_Sum.f (k : Nat) (l0 : List (S75)) : Option (Int × Int) := loads_Sum.l0 k l0 (l0.length : Int) 0 0 0
theorem loads_Sum.mono_l : ∀ k, (∀ y0 y1 y2 y3 y4, LeO (loads_Sum.l0 k y0 y1 y2 y3 y4) (loads_Sum.l0 (k + 1) y0 y1 y2 y3 y4))
 | 0 => fun _ _ _ _ _ r h => by simp [loads_Sum.l0] at h
 | k + 1 => by
  have ih0 := loads_Sum.mono_l k
  ·intro y0 y1 y2 y3 y4
   unfold loads_Sum.l0
   repeat' first
   | (with_reducible exact ih0 _ _ _ _ _)
   | (with_reducible exact LeO.refl _)
   | (with_reducible exact LeO.none _)
   | (with_reducible refine LeO.ite ?_ ?_)
   | (with_reducible refine LeO.bind ?_ (fun _ => ?_))
   | exact ih0 _ _ _ _ _
   | exact LeO.none _
   | refine LeO.ite ?_ ?_
   | refine LeO.bind ?_ (fun _ => ?_)
theorem loads_Sum.mono : ∀ a0 k, LeO (loads_Sum.f k a0) (loads_Sum.f (k + 1) a0) := by
 intro a0 k
 have ih0 := loads_Sum.mono_l k
 unfold loads_Sum.f
 repeat' first
   | (with_reducible exact ih0 _ _ _ _ _)
   | (with_reducible exact LeO.refl _)
   | (with_reducible exact LeO.none _)
   | (with_reducible refine LeO.ite ?_ ?_)
   | (with_reducible refine LeO.bind ?_ (fun _ => ?_))
   | exact ih0 _ _ _ _ _
   | exact LeO.none _
   | refine LeO.ite ?_ ?_
   | refine LeO.bind ?_ (fun _ => ?_)
def loads_Sum.T5 : Bool × List (List Nat × List Nat) := (true, [([], []), ([0], [0]), ([], []), ([2], [2]), ([3], [3]), ([1, 4], [1, 4]), ([0, 1, 2, 3, 4, 5], []), ([6, 5, 4, 0, 1, 2, 3, 4, 5], [5, 6])])
def loads_Sum.B5 : List Nat := [0, 1, 0, 4, 12, 31, 63, 127]
theorem loads_Sum.tab5 : rtab .any (opsOf Try.f63 5) = loads_Sum.T5 := by kernel_rfl
theorem loads_Sum.bits5 : waitsOk loads_Sum.T5.2 loads_Sum.B5 = true := by kernel_rfl
def loads_Sum.T6 : Bool × List (List Nat × List Nat) := (true, [([], []), ([0], [0]), ([], []), ([2], [2]), ([3], [3]), ([1, 4], [1, 4]), ([0, 1, 2, 3, 4, 5], []), ([6, 5, 4, 0, 1, 2, 3, 4, 5], [5, 6])])
def loads_Sum.B6 : List Nat := [0, 1, 0, 4, 12, 31, 63, 127]
theorem loads_Sum.tab6 : rtab .any (opsOf Try.f63 6) = loads_Sum.T6 := by kernel_rfl
theorem loads_Sum.bits6 : waitsOk loads_Sum.T6.2 loads_Sum.B6 = true := by kernel_rfl
set_option maxHeartbeats 8000000 in
set_option maxRecDepth 100000 in
theorem loads_Sum.calls (k : Nat) (A0 : Option Addr) (c0 : Nat) (l0 : List (S75)) (r1 : Int) (r2 : Int) (w : World) (hr0 : Kd.C k75 w A0 l0.length l0) (hc0 : l0.length ≤ c0) (h : loads_Sum.f k l0 = some (r1, r2)) :
  Calls Try.prog 63 #[.slice A0 l0.length c0] w fun e w' => e = .returned (.agg #[.int .i64 r1, .int .i64 r2]) ∧ Below w.heap.size w w' := by
 have hu75 := Try.underlying75
 have HR0 := Aside0.mk hr0
 have HC0 := Aside0.mk hc0
 clear hr0 hc0
 have HB := Aside0.mk (Below.refl w.heap.size w)
 have H : (loads_Sum.l0 k l0 (l0.length : Int) 0 0 0) = some (r1, r2) := h
 clear h
 have H' := Aside0.mk H
 clear H
 go_enter Try.func63, Try.ntmps63
 go_wp2_with (first | ((with_reducible refine gate_dst (N := 2) rfl ?_); refine box_event ?hg (N := 2) ?hd (cs := #[.int .i64 0, .int .i64 0]) (t := 75) ?hr ?_; (case hd => rfl); (case hg => rfl); (case hr => first | (go_simp; done) | (go_simp; rfl)); intro gb682 hg w2 hbox hb; have n0_ := bst HB hb; have n1_ := Aside0.mk (hbox); have n2_ := Aside0.mk ((by rw [hg]; exact (below_size (bl HB)) : w.heap.size ≤ gb682)); have n3_ := Aside0.mk ((by rw [hg]; exact (below_size (bl HB)) : w.heap.size ≤ gb682)); clear HB; have HB := n0_; have BK682 := n1_; have GW682 := n2_; have GE682 := n3_; clear n0_ n1_ n2_ n3_; clear hb hbox hg) | ((with_reducible refine gate_dst (N := 3) rfl ?_); refine box_event ?hg (N := 3) ?hd (cs := #[.int .i64 0, .int .i64 0]) (t := 75) ?hr ?_; (case hd => rfl); (case hg => rfl); (case hr => first | (go_simp; done) | (go_simp; rfl)); intro gb683 hg w3 hbox hb; have n0_ := bkb BK682 hb; have n1_ := bst HB hb; have n2_ := Aside0.mk (hbox); have n3_ := Aside0.mk ((by rw [hg]; exact (below_size (bl HB)) : w.heap.size ≤ gb683)); have n4_ := Aside0.mk ((by rw [hg]; exact (below_size (bl HB)) : w.heap.size ≤ gb683)); have n5_ := Aside0.mk ((by rw [hg]; exact Nat.ne_of_lt (blk_lt (g := gb682) (o := .cells #[.int .i64 0, .int .i64 0] 75 (0, 0)) (by (with_reducible repeat (first | refine blk_drewN ?_ _ | refine blk_drew ?_ | refine blk_alloc ?_ _)); exact BK682.out)) : gb682 ≠ gb683)); have n6_ := Aside0.mk ((by rw [hg]; exact Nat.ne_of_gt (blk_lt (g := gb682) (o := .cells #[.int .i64 0, .int .i64 0] 75 (0, 0)) (by (with_reducible repeat (first | refine blk_drewN ?_ _ | refine blk_drew ?_ | refine blk_alloc ?_ _)); exact BK682.out)) : gb683 ≠ gb682)); clear BK682; clear HB; have BK682 := n0_; have HB := n1_; have BK683 := n2_; have GW683 := n3_; have GE683 := n4_; have NB682_683 := n5_; have NB683_682 := n6_; clear n0_ n1_ n2_ n3_ n4_ n5_ n6_; clear hb hbox hg))
 go_loopg [8] k (fun kq v8 w' => ∃ (x8_1 : Int) (x684000_1 : Int) (x684001_1 : Int), v8 = .int .i64 x8_1 ∧ Aside0 (loads_Sum.l0 kq l0 (l0.length : Int) x8_1 x684000_1 x684001_1 = some (r1, r2)) ∧ Aside0 (kq ≤ k) ∧ Aside0 (w'.heap[gb682]? = some (.cells #[.int .i64 0, .int .i64 0] 75 (0, 0))) ∧ Aside0 (w'.heap[gb683]? = some (.cells #[.int .i64 x684000_1, .int .i64 x684001_1] 75 (0, 0))) ∧ Aside0 (Below w.heap.size w w'))
 case atStart => exact ⟨(0), (0), (0), (by first | rfl | (simp; done) | (simp [*]; done)), H', ⟨Nat.le_refl _⟩, ⟨by (with_reducible repeat (first | refine blk_drewN ?_ _ | refine blk_drew ?_ | refine blk_alloc ?_ _)); exact BK682.out⟩, ⟨by (with_reducible repeat (first | refine blk_drewN ?_ _ | refine blk_drew ?_ | refine blk_alloc ?_ _)); exact BK683.out⟩, ⟨bl HB⟩⟩
 case round =>
  clear H'
  try clear p2
  obtain ⟨x8_1, x684000_1, x684001_1, rfl, HA, HK1, BK682, BK683, HB⟩ := hrel
  cases gk with
  | zero => exact absurd HA.out (by simp [loads_Sum.l0])
  | succ k1 =>
   have H := HA.out
   clear HA
   simp only [loads_Sum.l0] at H
   by_cases c4 : x8_1 < (l0.length : Int)
   ·rw [if_pos c4] at H
    have c4b0 : decide (x8_1 < (l0.length : Int)) = true := decide_eq_true c4
    clear c4
    by_cases c5 : 0 ≤ x8_1
    ·rw [if_pos c5] at H
     have c5b0 : decide (0 ≤ x8_1) = true := decide_eq_true c5
     clear c5
     by_cases c6 : x8_1 < (l0.length : Int)
     ·rw [if_pos c6] at H
      have c6b0 : decide (x8_1 < (l0.length : Int)) = true := decide_eq_true c6
      clear c6
      replace H := Option.bind_eq_some_iff.mp H
      obtain ⟨t686, A70, H⟩ := H
      replace H : ((loads_held.f ((rd_T75 l0 x8_1).f1)).bind fun t687 => (loads_Sum.l0 k1 l0 (l0.length : Int) (wrap64 (x8_1 + 1)) (wrap64 (x684000_1 + t686)) (wrap64 (x684001_1 + t687)))) = some (r1, r2) := H
      have A7 := Aside0.mk A70
      clear A70
      replace H := Option.bind_eq_some_iff.mp H
      obtain ⟨t687, A80, H⟩ := H
      replace H : (loads_Sum.l0 k1 l0 (l0.length : Int) (wrap64 (x8_1 + 1)) (wrap64 (x684000_1 + t686)) (wrap64 (x684001_1 + t687))) = some (r1, r2) := H
      have A8 := Aside0.mk A80
      clear A80
      have H' := Aside0.mk H
      clear H
      have p684 : 0 ≤ (x8_1 : Int) := of_decide_eq_true (by first | (with_reducible assumption) | assumption)
      have q684 : x8_1 < (l0.length : Int) := of_decide_eq_true (by first | (with_reducible assumption) | assumption)
      obtain ⟨ad684, e684, hx684_0, hx684_1⟩ := at_T75 HR0.out x8_1 p684 q684
      cases e684
      replace hx684_0 := (HB.out.cell (World.block_lt_of_cell? w _ hx684_0)).trans hx684_0
      replace hx684_1 := (HB.out.cell (World.block_lt_of_cell? w _ hx684_1)).trans hx684_1
      replace p684 := eq_true p684
      replace q684 := eq_true q684
      try go_wp2_with (first | ((with_reducible refine gate_dst (N := 5) rfl ?_); refine box_event ?hg (N := 5) ?hd (cs := #[.int .i64 0, .int .i64 0]) (t := 75) ?hr ?_; (case hd => rfl); (case hg => rfl); (case hr => first | (go_simp; done) | (go_simp; rfl)); intro gb685 hg w9 hbox hb; have n0_ := bkb BK682 hb; have n1_ := bkb BK683 hb; have n2_ := bst HB hb; have n3_ := Aside0.mk (hbox); have n4_ := Aside0.mk ((by rw [hg]; exact (below_size (bl HB)) : w.heap.size ≤ gb685)); have n5_ := Aside0.mk ((by rw [hg]; exact (below_size (bl HB)) : w.heap.size ≤ gb685)); have n6_ := Aside0.mk ((by rw [hg]; exact Nat.ne_of_lt (blk_lt (g := gb682) (o := .cells #[.int .i64 0, .int .i64 0] 75 (0, 0)) (by (with_reducible repeat (first | refine blk_drewN ?_ _ | refine blk_drew ?_ | refine blk_alloc ?_ _)); exact BK682.out)) : gb682 ≠ gb685)); have n7_ := Aside0.mk ((by rw [hg]; exact Nat.ne_of_gt (blk_lt (g := gb682) (o := .cells #[.int .i64 0, .int .i64 0] 75 (0, 0)) (by (with_reducible repeat (first | refine blk_drewN ?_ _ | refine blk_drew ?_ | refine blk_alloc ?_ _)); exact BK682.out)) : gb685 ≠ gb682)); have n8_ := Aside0.mk ((by rw [hg]; exact Nat.ne_of_lt (blk_lt (g := gb683) (o := .cells #[.int .i64 x684000_1, .int .i64 x684001_1] 75 (0, 0)) (by (with_reducible repeat (first | refine blk_drewN ?_ _ | refine blk_drew ?_ | refine blk_alloc ?_ _)); exact BK683.out)) : gb683 ≠ gb685)); have n9_ := Aside0.mk ((by rw [hg]; exact Nat.ne_of_gt (blk_lt (g := gb683) (o := .cells #[.int .i64 x684000_1, .int .i64 x684001_1] 75 (0, 0)) (by (with_reducible repeat (first | refine blk_drewN ?_ _ | refine blk_drew ?_ | refine blk_alloc ?_ _)); exact BK683.out)) : gb685 ≠ gb683)); clear BK682; clear BK683; clear HB; have BK682 := n0_; have BK683 := n1_; have HB := n2_; have BK685 := n3_; have GW685 := n4_; have GE685 := n5_; have NB682_685 := n6_; have NB685_682 := n7_; have NB683_685 := n8_; have NB685_683 := n9_; clear n0_ n1_ n2_ n3_ n4_ n5_ n6_ n7_ n8_ n9_; clear hb hbox hg; have hnb10 := NB685_682.out; have hnc10 := NB682_685.out; have hnb11 := NB685_683.out; have hnc11 := NB683_685.out; have hcz12_0 : w9.cell? ⟨gb685, 0, none⟩ = some (.int .i64 0) := (blk_cell BK685.out 0).trans rfl; have hcz12_1 : w9.cell? ⟨gb685, 1, none⟩ = some (.int .i64 0) := (blk_cell BK685.out 1).trans rfl; have hfz12_0 := blk_frozen BK685.out 0; have hfz12_1 := blk_frozen BK685.out 1))
      have n0_ : Aside0 (((w9.setCell ⟨gb685, 0, none⟩ (.int .i64 ((rd_T75 l0 x8_1).f0))).setCell ⟨gb685, 1, none⟩ (.int .i64 ((rd_T75 l0 x8_1).f1))).heap[gb682]? = some (.cells #[.int .i64 0, .int .i64 0] 75 (0, 0))) := ⟨by (with_reducible repeat (first | refine blk_drewN ?_ _ | refine blk_drew ?_ | refine blk_alloc ?_ _)); refine blk_far ?_ NB682_685.out _; (with_reducible repeat (first | refine blk_drewN ?_ _ | refine blk_drew ?_ | refine blk_alloc ?_ _)); refine blk_far ?_ NB682_685.out _; (with_reducible repeat (first | refine blk_drewN ?_ _ | refine blk_drew ?_ | refine blk_alloc ?_ _)); exact BK682.out⟩
      have n1_ : Aside0 (((w9.setCell ⟨gb685, 0, none⟩ (.int .i64 ((rd_T75 l0 x8_1).f0))).setCell ⟨gb685, 1, none⟩ (.int .i64 ((rd_T75 l0 x8_1).f1))).heap[gb683]? = some (.cells #[.int .i64 x684000_1, .int .i64 x684001_1] 75 (0, 0))) := ⟨by (with_reducible repeat (first | refine blk_drewN ?_ _ | refine blk_drew ?_ | refine blk_alloc ?_ _)); refine blk_far ?_ NB683_685.out _; (with_reducible repeat (first | refine blk_drewN ?_ _ | refine blk_drew ?_ | refine blk_alloc ?_ _)); refine blk_far ?_ NB683_685.out _; (with_reducible repeat (first | refine blk_drewN ?_ _ | refine blk_drew ?_ | refine blk_alloc ?_ _)); exact BK683.out⟩
      have n2_ : Aside0 (((w9.setCell ⟨gb685, 0, none⟩ (.int .i64 ((rd_T75 l0 x8_1).f0))).setCell ⟨gb685, 1, none⟩ (.int .i64 ((rd_T75 l0 x8_1).f1))).heap[gb685]? = some (.cells #[.int .i64 ((rd_T75 l0 x8_1).f0), .int .i64 ((rd_T75 l0 x8_1).f1)] 75 (0, 0))) := ⟨by (with_reducible repeat (first | refine blk_drewN ?_ _ | refine blk_drew ?_ | refine blk_alloc ?_ _)); refine blk_put (cs := #[.int .i64 ((rd_T75 l0 x8_1).f0), .int .i64 0]) ?_ 1 _ rfl; (with_reducible repeat (first | refine blk_drewN ?_ _ | refine blk_drew ?_ | refine blk_alloc ?_ _)); refine blk_put (cs := #[.int .i64 0, .int .i64 0]) ?_ 0 _ rfl; (with_reducible repeat (first | refine blk_drewN ?_ _ | refine blk_drew ?_ | refine blk_alloc ?_ _)); exact BK685.out⟩
      have n3_ : Aside0 (Below w.heap.size w ((w9.setCell ⟨gb685, 0, none⟩ (.int .i64 ((rd_T75 l0 x8_1).f0))).setCell ⟨gb685, 1, none⟩ (.int .i64 ((rd_T75 l0 x8_1).f1)))) := ⟨bl HB⟩
      (try clear BK682)
      (try clear BK683)
      (try clear BK685)
      (try clear HB)
      generalize ((w9.setCell ⟨gb685, 0, none⟩ (.int .i64 ((rd_T75 l0 x8_1).f0))).setCell ⟨gb685, 1, none⟩ (.int .i64 ((rd_T75 l0 x8_1).f1))) = w13 at n0_ n1_ n2_ n3_ ⊢
      have BK682 := n0_
      have BK683 := n1_
      have BK685 := n2_
      have HB := n3_
      clear n0_ n1_ n2_ n3_
      replace BK682 := Aside0.mk (blk_drew BK682.out)
      replace BK683 := Aside0.mk (blk_drew BK683.out)
      replace BK685 := Aside0.mk (blk_drew BK685.out)
      replace HB := Aside0.mk (below_drew1 HB.out)
      refine start_ (n := 8) (S := fun w' => w'.cell? ⟨gb683, 0, none⟩ = some (.int .i64 x684000_1) ∧ w'.cell? ⟨gb683, 1, none⟩ = some (.int .i64 x684001_1) ∧ w'.cell? ⟨gb685, 0, none⟩ = some (.int .i64 ((rd_T75 l0 x8_1).f0)) ∧ w'.cell? ⟨gb685, 1, none⟩ = some (.int .i64 ((rd_T75 l0 x8_1).f1))) (ds := [7]) (bq 8 0) (by kernel_rfl) rfl rfl ⟨(blk_cell BK683.out 0).trans rfl, (blk_cell BK683.out 1).trans rfl, (blk_cell BK685.out 0).trans rfl, (blk_cell BK685.out 1).trans rfl⟩ (fun hHeld => ?_); refine with_tabW loads_Sum.tab5 loads_Sum.bits5 (fun HT_ HW_ => ?_)
      generalize w13.drew = w14 at BK682 BK683 BK685 HB hHeld ⊢
      apply pu 0 12 (bq 8 1) HT_
      apply pu 2 14 (bq 8 5) HT_
      apply tu 1 13 (bq 8 7) HT_ HW_ hHeld
      apply tu 3 15 (bq 8 15) HT_ HW_ hHeld
      refine one_ (i := 4) (N := some 16) (bq 8 31) rfl rfl (one_of HT_.out (by kernel_rfl)) (by decide) (fun K hK => ?_)
      refine gs Try.func90 #[.int .i64 ((rd_T75 l0 x8_1).f0)] ?_
      with_reducible refine (loads_held.calls ((rd_T75 l0 x8_1).f0) t686 _ A7.out).mono ?_
      rintro e w15 ⟨rfl, hb⟩
      refine ⟨_, rfl, ?_⟩
      replace BK682 := bkb BK682 hb
      replace BK683 := bkb BK683 hb
      replace BK685 := bkb BK685 hb
      replace HB := bst HB hb
      try clear hb; try clear hb2; try clear hk; try clear hi
      refine hK.out _ _ sc (fun hHeld => ?_)
      clear hK K
      apply nm 0
      apply pu 5 17 (bq 8 63) HT_
      apply pu 6 18 (bq 8 127) HT_
      refine last_ (i := 7) (N := none) (bq 8 255) rfl rfl (one_of HT_.out (by kernel_rfl)) (by decide) (fun K hK => ?_)
      have hs16 : w15.cell? ⟨gb683, 0, none⟩ = some (.int .i64 x684000_1) := (blk_cell BK683.out 0).trans rfl
      have hfs16 := blk_frozen BK683.out 0
      have hns16_0 := NB682_683.out
      have hns16_2 := NB685_683.out
      have hms16_0 := NB683_682.out
      have hms16_2 := NB683_685.out
      refine skip_ (w1 := ?_) (by rfl) rfl ?_ ?_
      rotate_left
      ·go_simp
       rfl
      refine hK.out _ _ ?_
      clear hK K
      refine done_ (done_of HT_.out (by kernel_rfl)) ?_
      try go_wp2
      have n0_ : Aside0 ((w15.setCell ⟨gb683, 0, none⟩ (.int .i64 (wrap64 (x684000_1 + t686)))).heap[gb682]? = some (.cells #[.int .i64 0, .int .i64 0] 75 (0, 0))) := ⟨by (with_reducible repeat (first | refine blk_drewN ?_ _ | refine blk_drew ?_ | refine blk_alloc ?_ _)); refine blk_far ?_ NB682_683.out _; (with_reducible repeat (first | refine blk_drewN ?_ _ | refine blk_drew ?_ | refine blk_alloc ?_ _)); exact BK682.out⟩
      have n1_ : Aside0 ((w15.setCell ⟨gb683, 0, none⟩ (.int .i64 (wrap64 (x684000_1 + t686)))).heap[gb683]? = some (.cells #[.int .i64 (wrap64 (x684000_1 + t686)), .int .i64 x684001_1] 75 (0, 0))) := ⟨by (with_reducible repeat (first | refine blk_drewN ?_ _ | refine blk_drew ?_ | refine blk_alloc ?_ _)); refine blk_put (cs := #[.int .i64 x684000_1, .int .i64 x684001_1]) ?_ 0 _ rfl; (with_reducible repeat (first | refine blk_drewN ?_ _ | refine blk_drew ?_ | refine blk_alloc ?_ _)); exact BK683.out⟩
      have n2_ : Aside0 ((w15.setCell ⟨gb683, 0, none⟩ (.int .i64 (wrap64 (x684000_1 + t686)))).heap[gb685]? = some (.cells #[.int .i64 ((rd_T75 l0 x8_1).f0), .int .i64 ((rd_T75 l0 x8_1).f1)] 75 (0, 0))) := ⟨by (with_reducible repeat (first | refine blk_drewN ?_ _ | refine blk_drew ?_ | refine blk_alloc ?_ _)); refine blk_far ?_ NB685_683.out _; (with_reducible repeat (first | refine blk_drewN ?_ _ | refine blk_drew ?_ | refine blk_alloc ?_ _)); exact BK685.out⟩
      have n3_ : Aside0 (Below w.heap.size w (w15.setCell ⟨gb683, 0, none⟩ (.int .i64 (wrap64 (x684000_1 + t686))))) := ⟨bl HB⟩
      (try clear BK682)
      (try clear BK683)
      (try clear BK685)
      (try clear HB)
      generalize (w15.setCell ⟨gb683, 0, none⟩ (.int .i64 (wrap64 (x684000_1 + t686)))) = w17 at n0_ n1_ n2_ n3_ ⊢
      have BK682 := n0_
      have BK683 := n1_
      have BK685 := n2_
      have HB := n3_
      clear n0_ n1_ n2_ n3_
      replace BK682 := Aside0.mk (blk_drew BK682.out)
      replace BK683 := Aside0.mk (blk_drew BK683.out)
      replace BK685 := Aside0.mk (blk_drew BK685.out)
      replace HB := Aside0.mk (below_drew1 HB.out)
      refine start_ (n := 8) (S := fun w' => w'.cell? ⟨gb683, 0, none⟩ = some (.int .i64 (wrap64 (x684000_1 + t686))) ∧ w'.cell? ⟨gb683, 1, none⟩ = some (.int .i64 x684001_1) ∧ w'.cell? ⟨gb685, 0, none⟩ = some (.int .i64 ((rd_T75 l0 x8_1).f0)) ∧ w'.cell? ⟨gb685, 1, none⟩ = some (.int .i64 ((rd_T75 l0 x8_1).f1))) (ds := [7]) (bq 8 0) (by kernel_rfl) rfl rfl ⟨(blk_cell BK683.out 0).trans rfl, (blk_cell BK683.out 1).trans rfl, (blk_cell BK685.out 0).trans rfl, (blk_cell BK685.out 1).trans rfl⟩ (fun hHeld => ?_); refine with_tabW loads_Sum.tab6 loads_Sum.bits6 (fun HT_ HW_ => ?_)
      generalize w17.drew = w18 at BK682 BK683 BK685 HB hHeld ⊢
      apply pu 0 19 (bq 8 1) HT_
      apply pu 2 21 (bq 8 5) HT_
      apply tu 1 20 (bq 8 7) HT_ HW_ hHeld
      apply tu 3 22 (bq 8 15) HT_ HW_ hHeld
      refine one_ (i := 4) (N := some 23) (bq 8 31) rfl rfl (one_of HT_.out (by kernel_rfl)) (by decide) (fun K hK => ?_)
      refine gs Try.func90 #[.int .i64 ((rd_T75 l0 x8_1).f1)] ?_
      with_reducible refine (loads_held.calls ((rd_T75 l0 x8_1).f1) t687 _ A8.out).mono ?_
      rintro e w19 ⟨rfl, hb⟩
      refine ⟨_, rfl, ?_⟩
      replace BK682 := bkb BK682 hb
      replace BK683 := bkb BK683 hb
      replace BK685 := bkb BK685 hb
      replace HB := bst HB hb
      try clear hb; try clear hb2; try clear hk; try clear hi
      refine hK.out _ _ sc (fun hHeld => ?_)
      clear hK K
      apply nm 0
      apply pu 5 24 (bq 8 63) HT_
      apply pu 6 25 (bq 8 127) HT_
      refine last_ (i := 7) (N := none) (bq 8 255) rfl rfl (one_of HT_.out (by kernel_rfl)) (by decide) (fun K hK => ?_)
      have hs20 : w19.cell? ⟨gb683, 1, none⟩ = some (.int .i64 x684001_1) := (blk_cell BK683.out 1).trans rfl
      have hfs20 := blk_frozen BK683.out 1
      have hns20_0 := NB682_683.out
      have hns20_2 := NB685_683.out
      have hms20_0 := NB683_682.out
      have hms20_2 := NB683_685.out
      refine skip_ (w1 := ?_) (by rfl) rfl ?_ ?_
      rotate_left
      ·go_simp
       rfl
      refine hK.out _ _ ?_
      clear hK K
      refine done_ (done_of HT_.out (by kernel_rfl)) ?_
      try go_wp2
      go_roundg k1
      case measure => have := HK1.out; omega
      case rel => exact ⟨(wrap64 (x8_1 + 1)), (wrap64 (x684000_1 + t686)), (wrap64 (x684001_1 + t687)), (by first | rfl | (simp; done) | (simp [*]; done)), H', ⟨by have := HK1.out; omega⟩, ⟨by (with_reducible repeat (first | refine blk_drewN ?_ _ | refine blk_drew ?_ | refine blk_alloc ?_ _)); refine blk_far ?_ NB682_683.out _; (with_reducible repeat (first | refine blk_drewN ?_ _ | refine blk_drew ?_ | refine blk_alloc ?_ _)); exact BK682.out⟩, ⟨by (with_reducible repeat (first | refine blk_drewN ?_ _ | refine blk_drew ?_ | refine blk_alloc ?_ _)); refine blk_put (cs := #[.int .i64 (wrap64 (x684000_1 + t686)), .int .i64 x684001_1]) ?_ 1 _ rfl; (with_reducible repeat (first | refine blk_drewN ?_ _ | refine blk_drew ?_ | refine blk_alloc ?_ _)); exact BK683.out⟩, ⟨bl HB⟩⟩
     ·rw [if_neg c6] at H
      exact absurd H (by simp)
    ·rw [if_neg c5] at H
     exact absurd H (by simp)
   ·rw [if_neg c4] at H
    have c4b0 : decide (x8_1 < (l0.length : Int)) = false := decide_eq_false c4
    clear c4
    simp only [Option.some.injEq, Prod.mk.injEq] at H
    obtain ⟨rfl, rfl⟩ := H
    have hnb21 := NB683_682.out
    have hnc21 := NB682_683.out
    have hcz22_0 : wr.cell? ⟨gb683, 0, none⟩ = some (.int .i64 x684000_1) := (blk_cell BK683.out 0).trans rfl
    have hcz22_1 : wr.cell? ⟨gb683, 1, none⟩ = some (.int .i64 x684001_1) := (blk_cell BK683.out 1).trans rfl
    have hfz22_0 := blk_frozen BK683.out 0
    have hfz22_1 := blk_frozen BK683.out 1
    have hcz23_0 : wr.cell? ⟨gb682, 0, none⟩ = some (.int .i64 0) := (blk_cell BK682.out 0).trans rfl
    have hcz23_1 : wr.cell? ⟨gb682, 1, none⟩ = some (.int .i64 0) := (blk_cell BK682.out 1).trans rfl
    have hfz23_0 := blk_frozen BK682.out 0
    have hfz23_1 := blk_frozen BK682.out 1
    go_wp2
    refine bodyPost_ret (results_cell_row rfl _ _ gb682 75 #[.int .i64 x684000_1, .int .i64 x684001_1] (0, 0) _ rfl (by (with_reducible repeat (first | refine blk_drewN ?_ _ | refine blk_drew ?_ | refine blk_alloc ?_ _)); refine blk_put (cs := #[.int .i64 x684000_1, .int .i64 0]) ?_ 1 _ rfl; (with_reducible repeat (first | refine blk_drewN ?_ _ | refine blk_drew ?_ | refine blk_alloc ?_ _)); refine blk_put (cs := #[.int .i64 0, .int .i64 0]) ?_ 0 _ rfl; (with_reducible repeat (first | refine blk_drewN ?_ _ | refine blk_drew ?_ | refine blk_alloc ?_ _)); exact BK682.out) Try.underlying75 rfl (by kernel_rfl)) rfl ?_
    exact ⟨by first | rfl | (simp [errW_none, errW_some] <;> rfl) | (simp [*, errW_none, errW_some] <;> rfl), bl HB⟩

end Go.Proofs.Ytekihhbihnmakaa.PA
