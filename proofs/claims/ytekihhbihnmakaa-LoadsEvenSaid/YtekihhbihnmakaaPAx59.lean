/- Printed by the kit's print over stand-ins for some functions (xprint.py), with contracts of my own in their place. -/
import Derived.Test.YtekihhbihnmakaaPAx0
import Derived.Test.YtekihhbihnmakaaPAx55
namespace Go.Proofs.Ytekihhbihnmakaa.PA
open Go.RowKit Go.Proofs.YtekihhbihnmakaaW.PrintWords Go.Proofs.YtekihhbihnmakaaW.PrintLast
attribute [local go_sem] max2_int min2_int max_two min_two   -- for this text's walks alone
set_option linter.unusedVariables false
set_option linter.unusedSimpArgs false

/-! ### loads_Even: function 64 -/
def loads_Even.l0 : Nat → Int → Int → List (S75) → Int → Int → Option (Int)
  | 0, _, _, _, _, _ => none
  | k + 1, x3, x4, x18, x19, x20 => if x20 < x19 then (if 0 ≤ x20 then (if x20 < (x18.length : Int) then ((loads_whole.f ((rd_T75 x18 x20).f0) ((rd_T75 x18 x20).f1)).bind fun t694 => ((loads_whole.f ((rd_T75 x18 x20).f0) ((rd_T75 x18 x20).f1)).bind fun t695 => (loads_Even.l0 k (mn x3 t694) (mx x4 t695) x18 x19 (wrap64 (x20 + 1))))) else (none)) else (none)) else (some (wrap64 (x4 - x3)))
def loads_Even.f (k : Nat) (l0 : List (S75)) : Option (Int) := if (l0.length : Int) = 0 then (some 0) else (if 0 < (l0.length : Int) then ((loads_whole.f ((rd_T75 l0 0).f0) ((rd_T75 l0 0).f1)).bind fun t689 => ((loads_whole.f ((rd_T75 l0 0).f0) ((rd_T75 l0 0).f1)).bind fun t691 => (loads_Even.l0 k t689 t691 l0 (l0.length : Int) 0))) else (none))
theorem loads_Even.mono_l : ∀ k, (∀ y0 y1 y2 y3 y4, LeO (loads_Even.l0 k y0 y1 y2 y3 y4) (loads_Even.l0 (k + 1) y0 y1 y2 y3 y4))
 | 0 => fun _ _ _ _ _ r h => by simp [loads_Even.l0] at h
 | k + 1 => by
  have ih0 := loads_Even.mono_l k
  ·intro y0 y1 y2 y3 y4
   unfold loads_Even.l0
   repeat' first
   | (with_reducible exact ih0 _ _ _ _ _)
   | (with_reducible exact LeO.refl _)
   | (with_reducible exact LeO.none _)
   | (with_reducible refine LeO.ite ?_ ?_)
   | (with_reducible refine LeO.bind ?_ (fun _ => ?_))
   | exact ih0 _ _ _ _ _
   | exact LeO.none _
   | refine LeO.ite ?_ ?_
   | refine LeO.bind ?_ (fun _ => ?_)
theorem loads_Even.mono : ∀ a0 k, LeO (loads_Even.f k a0) (loads_Even.f (k + 1) a0) := by
 intro a0 k
 have ih0 := loads_Even.mono_l k
 unfold loads_Even.f
 repeat' first
   | (with_reducible exact ih0 _ _ _ _ _)
   | (with_reducible exact LeO.refl _)
   | (with_reducible exact LeO.none _)
   | (with_reducible refine LeO.ite ?_ ?_)
   | (with_reducible refine LeO.bind ?_ (fun _ => ?_))
   | exact ih0 _ _ _ _ _
   | exact LeO.none _
   | refine LeO.ite ?_ ?_
   | refine LeO.bind ?_ (fun _ => ?_)
def loads_Even.T3 : Bool × List (List Nat × List Nat) := (true, [([], []), ([0], [0]), ([1], [1]), ([2], [2]), ([], []), ([4], [4]), ([5], [5]), ([6, 3], [6]), ([3, 7, 0, 1, 2, 3], [3]), ([7, 8, 0, 1, 2, 3, 4, 5, 6, 7, 8], [7])])
def loads_Even.B3 : List Nat := [0, 1, 3, 7, 0, 16, 48, 127, 255, 511]
theorem loads_Even.tab3 : rtab .any (opsOf Try.f64 3) = loads_Even.T3 := by kernel_rfl
theorem loads_Even.bits3 : waitsOk loads_Even.T3.2 loads_Even.B3 = true := by kernel_rfl
def loads_Even.T7 : Bool × List (List Nat × List Nat) := (true, [([], []), ([], []), ([1], [1]), ([0, 2], [0, 2]), ([], []), ([], []), ([5, 2], [5]), ([4, 6], [4, 6]), ([3, 6, 0, 1, 2, 3], [0, 3]), ([7, 8, 0, 1, 2, 3, 4, 5, 6, 7, 8], [4, 7])])
def loads_Even.B7 : List Nat := [0, 0, 2, 7, 0, 0, 38, 118, 111, 511]
theorem loads_Even.tab7 : rtab .any (opsOf Try.f64 7) = loads_Even.T7 := by kernel_rfl
theorem loads_Even.bits7 : waitsOk loads_Even.T7.2 loads_Even.B7 = true := by kernel_rfl
set_option maxHeartbeats 8000000 in
set_option maxRecDepth 100000 in
theorem loads_Even.calls (k : Nat) (A0 : Option Addr) (c0 : Nat) (l0 : List (S75)) (r : Int) (w : World) (hr0 : Kd.C k75 w A0 l0.length l0) (hc0 : l0.length ≤ c0) (h : loads_Even.f k l0 = some r) :
  Calls Try.prog 64 #[.slice A0 l0.length c0] w fun e w' => e = .returned (.int .i64 r) ∧ Below w.heap.size w w' := by
 have hu75 := Try.underlying75
 have HR0 := Aside0.mk hr0
 have HC0 := Aside0.mk hc0
 clear hr0 hc0
 have HB := Aside0.mk (Below.refl w.heap.size w)
 have H : (if (l0.length : Int) = 0 then (some 0) else (if 0 < (l0.length : Int) then ((loads_whole.f ((rd_T75 l0 0).f0) ((rd_T75 l0 0).f1)).bind fun t689 => ((loads_whole.f ((rd_T75 l0 0).f0) ((rd_T75 l0 0).f1)).bind fun t691 => (loads_Even.l0 k t689 t691 l0 (l0.length : Int) 0))) else (none))) = some r := h
 clear h
 by_cases c2 : (l0.length : Int) = 0
 ·rw [if_pos c2] at H
  have c2b0 : ((l0.length : Int) == 0) = true := beq_iff_eq.mpr c2
  have c2b1 : ((l0.length : Int) != 0) = false := bne_eq_false_iff_eq.mpr c2
  clear c2
  obtain rfl := Option.some.inj H
  go_enter Try.func64, Try.ntmps64
  go_wp2
  go_ret
  exact ⟨by first | rfl | (simp [errW_none, errW_some] <;> rfl) | (simp [*, errW_none, errW_some] <;> rfl), bl HB⟩
 ·rw [if_neg c2] at H
  have c2b0 : ((l0.length : Int) == 0) = false := beq_eq_false_iff_ne.mpr c2
  have c2b1 : ((l0.length : Int) != 0) = true := bne_iff_ne.mpr c2
  have c2b2 : ¬ (l0 = []) := fun h_ => c2 (by rw [h_]; rfl)
  by_cases c3 : 0 < (l0.length : Int)
  ·rw [if_pos c3] at H
   have c3b0 : decide (0 < (l0.length : Int)) = true := decide_eq_true c3
   have c3b1 : decide (0 < l0.length) = true := decide_eq_true (by omega)
   clear c3
   replace H := Option.bind_eq_some_iff.mp H
   obtain ⟨t689, A40, H⟩ := H
   replace H : ((loads_whole.f ((rd_T75 l0 0).f0) ((rd_T75 l0 0).f1)).bind fun t691 => (loads_Even.l0 k t689 t691 l0 (l0.length : Int) 0)) = some r := H
   have A4 := Aside0.mk A40
   clear A40
   replace H := Option.bind_eq_some_iff.mp H
   obtain ⟨t691, A50, H⟩ := H
   replace H : (loads_Even.l0 k t689 t691 l0 (l0.length : Int) 0) = some r := H
   have A5 := Aside0.mk A50
   clear A50
   have H' := Aside0.mk H
   clear H
   go_enter Try.func64, Try.ntmps64
   try go_wp2
   replace HB := Aside0.mk (below_drew1 HB.out)
   have p688 : 0 ≤ (0 : Int) := (by omega)
   have q688 : 0 < (l0.length : Int) := of_decide_eq_true (by first | (with_reducible assumption) | assumption)
   obtain ⟨ad688, e688, hx688_0, hx688_1⟩ := at_T75 HR0.out 0 p688 q688
   have hw688_1 := hx688_1
   (try rw [show ((0 : Int)).toNat = 0 from rfl] at hw688_1)
   (try rw [show 0 * 2 = 0 from rfl] at hw688_1)
   (try rw [Addr.add_zero'] at hw688_1)
   have hw688_0 := hx688_0
   (try rw [show ((0 : Int)).toNat = 0 from rfl] at hw688_0)
   (try rw [show 0 * 2 = 0 from rfl] at hw688_0)
   (try rw [Addr.add_zero'] at hw688_0)
   cases e688
   have qi688 : (0 < l0.length) = True := eq_true (by omega)
   (try rw [show ((0 : Int)).toNat = 0 from rfl] at hx688_0)
   (try rw [show 0 * 2 = 0 from rfl] at hx688_0)
   (try rw [Addr.add_zero'] at hx688_0)
   (try rw [show ((0 : Int)).toNat = 0 from rfl] at hx688_1)
   (try rw [show 0 * 2 = 0 from rfl] at hx688_1)
   (try rw [Addr.add_zero'] at hx688_1)
   replace hx688_0 := (HB.out.cell (World.block_lt_of_cell? w _ hx688_0)).trans hx688_0
   replace hx688_1 := (HB.out.cell (World.block_lt_of_cell? w _ hx688_1)).trans hx688_1
   replace p688 := eq_true p688
   replace q688 := eq_true q688
   have p690 : 0 ≤ (0 : Int) := (by omega)
   have q690 : 0 < (l0.length : Int) := of_decide_eq_true (by first | (with_reducible assumption) | assumption)
   obtain ⟨ad690, e690, hx690_0, hx690_1⟩ := at_T75 HR0.out 0 p690 q690
   have hw690_1 := hx690_1
   (try rw [show ((0 : Int)).toNat = 0 from rfl] at hw690_1)
   (try rw [show 0 * 2 = 0 from rfl] at hw690_1)
   (try rw [Addr.add_zero'] at hw690_1)
   have hw690_0 := hx690_0
   (try rw [show ((0 : Int)).toNat = 0 from rfl] at hw690_0)
   (try rw [show 0 * 2 = 0 from rfl] at hw690_0)
   (try rw [Addr.add_zero'] at hw690_0)
   obtain rfl : ad688 = ad690 := (by injection e690)
   have qi690 : (0 < l0.length) = True := eq_true (by omega)
   (try rw [show ((0 : Int)).toNat = 0 from rfl] at hx690_0)
   (try rw [show 0 * 2 = 0 from rfl] at hx690_0)
   (try rw [Addr.add_zero'] at hx690_0)
   (try rw [show ((0 : Int)).toNat = 0 from rfl] at hx690_1)
   (try rw [show 0 * 2 = 0 from rfl] at hx690_1)
   (try rw [Addr.add_zero'] at hx690_1)
   replace hx690_0 := (HB.out.cell (World.block_lt_of_cell? w _ hx690_0)).trans hx690_0
   replace hx690_1 := (HB.out.cell (World.block_lt_of_cell? w _ hx690_1)).trans hx690_1
   replace p690 := eq_true p690
   replace q690 := eq_true q690
   refine start_ (n := 10) (S := fun w' => w'.cell? ad688 = some (.int .i64 ((rd_T75 l0 0).f0)) ∧ w'.cell? ⟨ad688.block, ad688.off + 1, none⟩ = some (.int .i64 ((rd_T75 l0 0).f1)) ∧ w'.cell? ad688 = some (.int .i64 ((rd_T75 l0 0).f0)) ∧ w'.cell? ⟨ad688.block, ad688.off + 1, none⟩ = some (.int .i64 ((rd_T75 l0 0).f1))) (ds := []) (bq 10 0) (by kernel_rfl) rfl rfl ⟨((HB.out.cell (World.block_lt_of_cell? w _ hw688_0)).trans hw688_0), ((HB.out.cell (World.block_lt_of_cell? w _ hw688_1)).trans hw688_1), ((HB.out.cell (World.block_lt_of_cell? w _ hw690_0)).trans hw690_0), ((HB.out.cell (World.block_lt_of_cell? w _ hw690_1)).trans hw690_1)⟩ (fun hHeld => ?_); refine with_tabW loads_Even.tab3 loads_Even.bits3 (fun HT_ HW_ => ?_)
   generalize w.drew = w6 at HB hx688_0 hx688_1 hx690_0 hx690_1 hHeld ⊢
   apply pu 0 10 (bq 10 1) HT_
   apply pu 1 11 (bq 10 3) HT_
   apply pu 4 14 (bq 10 19) HT_
   apply pu 5 15 (bq 10 51) HT_
   apply tu 2 12 (bq 10 55) HT_ HW_ hHeld
   apply tu 6 16 (bq 10 119) HT_ HW_ hHeld
   refine one_ (i := 3) (N := some 13) (bq 10 127) rfl rfl (one_of HT_.out (by kernel_rfl)) (by decide) (fun K hK => ?_)
   refine gs Try.func91 #[.agg #[.int .i64 ((rd_T75 l0 0).f0), .int .i64 ((rd_T75 l0 0).f1)]] ?_
   with_reducible refine (loads_whole.calls ((rd_T75 l0 0).f0) ((rd_T75 l0 0).f1) t689 _ A4.out).mono ?_
   rintro e w7 ⟨rfl, hb⟩
   refine ⟨_, rfl, ?_⟩
   replace HB := bst HB hb
   try clear hb; try clear hb2; try clear hk; try clear hi
   refine hK.out _ _ ⟨((HB.out.cell (World.block_lt_of_cell? w _ hw688_0)).trans hw688_0), ((HB.out.cell (World.block_lt_of_cell? w _ hw688_1)).trans hw688_1), ((HB.out.cell (World.block_lt_of_cell? w _ hw690_0)).trans hw690_0), ((HB.out.cell (World.block_lt_of_cell? w _ hw690_1)).trans hw690_1)⟩ (fun hHeld => ?_)
   clear hK K
   apply nm 0
   refine one_ (i := 7) (N := some 17) (bq 10 255) rfl rfl (one_of HT_.out (by kernel_rfl)) (by decide) (fun K hK => ?_)
   refine gs Try.func91 #[.agg #[.int .i64 ((rd_T75 l0 0).f0), .int .i64 ((rd_T75 l0 0).f1)]] ?_
   with_reducible refine (loads_whole.calls ((rd_T75 l0 0).f0) ((rd_T75 l0 0).f1) t691 _ A5.out).mono ?_
   rintro e w8 ⟨rfl, hb⟩
   refine ⟨_, rfl, ?_⟩
   replace HB := bst HB hb
   try clear hb; try clear hb2; try clear hk; try clear hi
   refine hK.out _ _ ⟨((HB.out.cell (World.block_lt_of_cell? w _ hw688_0)).trans hw688_0), ((HB.out.cell (World.block_lt_of_cell? w _ hw688_1)).trans hw688_1), ((HB.out.cell (World.block_lt_of_cell? w _ hw690_0)).trans hw690_0), ((HB.out.cell (World.block_lt_of_cell? w _ hw690_1)).trans hw690_1)⟩ (fun hHeld => ?_)
   clear hK K
   apply nm 0
   apply pu 8 3 (bq 10 511) HT_
   apply pu 9 4 (bq 10 1023) HT_
   refine done_ (done_of HT_.out (by kernel_rfl)) ?_
   try go_wp2
   go_loopg [3, 4, 20] k (fun kq v3 v4 v20 w' => ∃ (x3_1 : Int) (x4_1 : Int) (x20_1 : Int), v3 = .int .i64 x3_1 ∧ v4 = .int .i64 x4_1 ∧ v20 = .int .i64 x20_1 ∧ Aside0 (loads_Even.l0 kq x3_1 x4_1 l0 (l0.length : Int) x20_1 = some r) ∧ Aside0 (kq ≤ k) ∧ Aside0 (Below w.heap.size w w'))
   case atStart => exact ⟨(t689), (t691), (0), (by first | rfl | (simp; done) | (simp [*]; done)), (by first | rfl | (simp; done) | (simp [*]; done)), (by first | rfl | (simp; done) | (simp [*]; done)), H', ⟨Nat.le_refl _⟩, ⟨bl HB⟩⟩
   case round =>
    clear H'
    try clear c2
    try clear c2b0
    try clear c2b1
    try clear c2b2
    try clear p2
    try clear c3
    try clear c3b0
    try clear c3b1
    try clear c6
    try clear p6
    try clear q6
    try clear hx6
    try clear qi6
    try clear hx688_0
    try clear hx688_1
    try clear hx690_0
    try clear hx690_1
    try clear p688
    try clear p690
    try clear q688
    try clear q690
    obtain ⟨x3_1, x4_1, x20_1, rfl, rfl, rfl, HA, HK1, HB⟩ := hrel
    cases gk with
    | zero => exact absurd HA.out (by simp [loads_Even.l0])
    | succ k1 =>
     have H := HA.out
     clear HA
     simp only [loads_Even.l0] at H
     by_cases c9 : x20_1 < (l0.length : Int)
     ·rw [if_pos c9] at H
      have c9b0 : decide (x20_1 < (l0.length : Int)) = true := decide_eq_true c9
      clear c9
      by_cases c10 : 0 ≤ x20_1
      ·rw [if_pos c10] at H
       have c10b0 : decide (0 ≤ x20_1) = true := decide_eq_true c10
       clear c10
       by_cases c11 : x20_1 < (l0.length : Int)
       ·rw [if_pos c11] at H
        have c11b0 : decide (x20_1 < (l0.length : Int)) = true := decide_eq_true c11
        clear c11
        replace H := Option.bind_eq_some_iff.mp H
        obtain ⟨t694, A120, H⟩ := H
        replace H : ((loads_whole.f ((rd_T75 l0 x20_1).f0) ((rd_T75 l0 x20_1).f1)).bind fun t695 => (loads_Even.l0 k1 (mn x3_1 t694) (mx x4_1 t695) l0 (l0.length : Int) (wrap64 (x20_1 + 1)))) = some r := H
        have A12 := Aside0.mk A120
        clear A120
        obtain ⟨ji13, hji13⟩ : ∃ j_ : Int, (mn x3_1 t694) = j_ := ⟨_, rfl⟩
        replace H : ((loads_whole.f ((rd_T75 l0 x20_1).f0) ((rd_T75 l0 x20_1).f1)).bind fun t695 => (loads_Even.l0 k1 ji13 (mx x4_1 t695) l0 (l0.length : Int) (wrap64 (x20_1 + 1)))) = some r := by first | (rw [hji13] at H; exact H) | (simp only [hji13] at H ⊢; exact H)
        (try rw [hji13] at A12)
        have hji13_ : (if t694 < x3_1 then t694 else x3_1) = ji13 := hji13
        replace H := Option.bind_eq_some_iff.mp H
        obtain ⟨t695, A140, H⟩ := H
        replace H : (loads_Even.l0 k1 ji13 (mx x4_1 t695) l0 (l0.length : Int) (wrap64 (x20_1 + 1))) = some r := H
        have A14 := Aside0.mk A140
        clear A140
        obtain ⟨ji15, hji15⟩ : ∃ j_ : Int, (mx x4_1 t695) = j_ := ⟨_, rfl⟩
        replace H : (loads_Even.l0 k1 ji13 ji15 l0 (l0.length : Int) (wrap64 (x20_1 + 1))) = some r := by first | (rw [hji15] at H; exact H) | (simp only [hji15] at H ⊢; exact H)
        (try rw [hji15] at A12)
        (try rw [hji15] at A14)
        have hji15_ : (if x4_1 < t695 then t695 else x4_1) = ji15 := hji15
        have H' := Aside0.mk H
        clear H
        have p692 : 0 ≤ (x20_1 : Int) := of_decide_eq_true (by first | (with_reducible assumption) | assumption)
        have q692 : x20_1 < (l0.length : Int) := of_decide_eq_true (by first | (with_reducible assumption) | assumption)
        obtain ⟨ad692, e692, hx692_0, hx692_1⟩ := at_T75 HR0.out x20_1 p692 q692
        obtain rfl : ad688 = ad692 := (by injection e692)
        replace hx692_0 := (HB.out.cell (World.block_lt_of_cell? w _ hx692_0)).trans hx692_0
        replace hx692_1 := (HB.out.cell (World.block_lt_of_cell? w _ hx692_1)).trans hx692_1
        replace p692 := eq_true p692
        replace q692 := eq_true q692
        try go_wp2_with (first | ((with_reducible refine gate_dst (N := 6) rfl ?_); refine box_event ?hg (N := 6) ?hd (cs := #[.int .i64 0, .int .i64 0]) (t := 75) ?hr ?_; (case hd => rfl); (case hg => rfl); (case hr => first | (go_simp; done) | (go_simp; rfl)); intro gb693 hg w16 hbox hb; have n0_ := bst HB hb; have n1_ := Aside0.mk (hbox); have n2_ := Aside0.mk ((by rw [hg]; exact (below_size (bl HB)) : w.heap.size ≤ gb693)); have n3_ := Aside0.mk ((by rw [hg]; exact (below_size (bl HB)) : w.heap.size ≤ gb693)); clear HB; have HB := n0_; have BK693 := n1_; have GW693 := n2_; have GE693 := n3_; clear n0_ n1_ n2_ n3_; clear hb hbox hg; have hcz17_0 : w16.cell? ⟨gb693, 0, none⟩ = some (.int .i64 0) := (blk_cell BK693.out 0).trans rfl; have hcz17_1 : w16.cell? ⟨gb693, 1, none⟩ = some (.int .i64 0) := (blk_cell BK693.out 1).trans rfl; have hfz17_0 := blk_frozen BK693.out 0; have hfz17_1 := blk_frozen BK693.out 1))
        have n0_ : Aside0 (((w16.setCell ⟨gb693, 0, none⟩ (.int .i64 ((rd_T75 l0 x20_1).f0))).setCell ⟨gb693, 1, none⟩ (.int .i64 ((rd_T75 l0 x20_1).f1))).heap[gb693]? = some (.cells #[.int .i64 ((rd_T75 l0 x20_1).f0), .int .i64 ((rd_T75 l0 x20_1).f1)] 75 (0, 0))) := ⟨by (with_reducible repeat (first | refine blk_drewN ?_ _ | refine blk_drew ?_ | refine blk_alloc ?_ _)); refine blk_put (cs := #[.int .i64 ((rd_T75 l0 x20_1).f0), .int .i64 0]) ?_ 1 _ rfl; (with_reducible repeat (first | refine blk_drewN ?_ _ | refine blk_drew ?_ | refine blk_alloc ?_ _)); refine blk_put (cs := #[.int .i64 0, .int .i64 0]) ?_ 0 _ rfl; (with_reducible repeat (first | refine blk_drewN ?_ _ | refine blk_drew ?_ | refine blk_alloc ?_ _)); exact BK693.out⟩
        have n1_ : Aside0 (Below w.heap.size w ((w16.setCell ⟨gb693, 0, none⟩ (.int .i64 ((rd_T75 l0 x20_1).f0))).setCell ⟨gb693, 1, none⟩ (.int .i64 ((rd_T75 l0 x20_1).f1)))) := ⟨bl HB⟩
        (try clear BK693)
        (try clear HB)
        generalize ((w16.setCell ⟨gb693, 0, none⟩ (.int .i64 ((rd_T75 l0 x20_1).f0))).setCell ⟨gb693, 1, none⟩ (.int .i64 ((rd_T75 l0 x20_1).f1))) = w18 at n0_ n1_ ⊢
        have BK693 := n0_
        have HB := n1_
        clear n0_ n1_
        replace BK693 := Aside0.mk (blk_drew BK693.out)
        replace HB := Aside0.mk (below_drew1 HB.out)
        refine start_ (n := 10) (S := fun w' => w'.cell? ⟨gb693, 0, none⟩ = some (.int .i64 ((rd_T75 l0 x20_1).f0)) ∧ w'.cell? ⟨gb693, 1, none⟩ = some (.int .i64 ((rd_T75 l0 x20_1).f1))) (ds := []) (bq 10 0) (by kernel_rfl) rfl rfl ⟨(blk_cell BK693.out 0).trans rfl, (blk_cell BK693.out 1).trans rfl⟩ (fun hHeld => ?_); refine with_tabW loads_Even.tab7 loads_Even.bits7 (fun HT_ HW_ => ?_)
        generalize w18.drew = w19 at BK693 HB hHeld ⊢
        apply pu 0 24 (bq 10 1) HT_
        apply pu 4 28 (bq 10 17) HT_
        apply tu 1 25 (bq 10 19) HT_ HW_ hHeld
        apply tu 5 29 (bq 10 51) HT_ HW_ hHeld
        refine one_ (i := 2) (N := some 26) (bq 10 55) rfl rfl (one_of HT_.out (by kernel_rfl)) (by decide) (fun K hK => ?_)
        refine gs Try.func91 #[.agg #[.int .i64 ((rd_T75 l0 x20_1).f0), .int .i64 ((rd_T75 l0 x20_1).f1)]] ?_
        with_reducible refine (loads_whole.calls ((rd_T75 l0 x20_1).f0) ((rd_T75 l0 x20_1).f1) t694 _ A12.out).mono ?_
        rintro e w20 ⟨rfl, hb⟩
        refine ⟨_, rfl, ?_⟩
        replace BK693 := bkb BK693 hb
        replace HB := bst HB hb
        try clear hb; try clear hb2; try clear hk; try clear hi
        refine hK.out _ _ sc (fun hHeld => ?_)
        clear hK K
        apply nm 0
        apply pu 3 27 (bq 10 63) HT_
        refine one_ (i := 6) (N := some 30) (bq 10 127) rfl rfl (one_of HT_.out (by kernel_rfl)) (by decide) (fun K hK => ?_)
        refine gs Try.func91 #[.agg #[.int .i64 ((rd_T75 l0 x20_1).f0), .int .i64 ((rd_T75 l0 x20_1).f1)]] ?_
        with_reducible refine (loads_whole.calls ((rd_T75 l0 x20_1).f0) ((rd_T75 l0 x20_1).f1) t695 _ A14.out).mono ?_
        rintro e w21 ⟨rfl, hb⟩
        refine ⟨_, rfl, ?_⟩
        replace BK693 := bkb BK693 hb
        replace HB := bst HB hb
        try clear hb; try clear hb2; try clear hk; try clear hi
        refine hK.out _ _ sc (fun hHeld => ?_)
        clear hK K
        apply nm 0
        apply pu 7 31 (bq 10 255) HT_
        apply pu 8 3 (bq 10 511) HT_
        apply pu 9 4 (bq 10 1023) HT_
        refine done_ (done_of HT_.out (by kernel_rfl)) ?_
        try go_wp2
        go_roundg k1
        case measure => have := HK1.out; omega
        case rel => exact ⟨(ji13), (ji15), (wrap64 (x20_1 + 1)), (by first | rfl | (simp; done) | (simp only [← hji13] <;> (first | rfl | simp)) | (simp [*]; done)), (by first | rfl | (simp; done) | (simp only [← hji15] <;> (first | rfl | simp)) | (simp [*]; done)), (by first | rfl | (simp; done) | (simp [*]; done)), H', ⟨by have := HK1.out; omega⟩, ⟨bl HB⟩⟩
       ·rw [if_neg c11] at H
        exact absurd H (by simp)
      ·rw [if_neg c10] at H
       exact absurd H (by simp)
     ·rw [if_neg c9] at H
      have c9b0 : decide (x20_1 < (l0.length : Int)) = false := decide_eq_false c9
      clear c9
      obtain rfl := Option.some.inj H
      go_wp2
      go_ret
      exact ⟨by first | rfl | (simp [errW_none, errW_some] <;> rfl) | (simp [*, errW_none, errW_some] <;> rfl), bl HB⟩
  ·rw [if_neg c3] at H
   exact absurd H (by simp)

end Go.Proofs.Ytekihhbihnmakaa.PA
