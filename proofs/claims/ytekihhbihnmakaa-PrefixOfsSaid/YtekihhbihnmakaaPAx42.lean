/- Printed by the kit's print over stand-ins for some functions (xprint.py), with contracts of my own in their place. -/
import Derived.Test.YtekihhbihnmakaaPAx0
import Derived.Test.YtekihhbihnmakaaPAx36
import Derived.Test.YtekihhbihnmakaaPAx41
import Derived.Test.YtekihhbihnmakaaPAx902
import Derived.Test.YtekihhbihnmakaaPAx801
namespace Go.Proofs.Ytekihhbihnmakaa.PA
open Go.RowKit Go.Proofs.YtekihhbihnmakaaW.PrintWords Go.Proofs.YtekihhbihnmakaaW.PrintLast
set_option linter.unusedVariables false
set_option linter.unusedSimpArgs false

/-! ### revetmentlaw16_PrefixOfs: function 10 -/
def revetmentlaw16_PrefixOfs.f (k : Nat) (a0_0 : Int) (a0_1 : Int) (a0_2 : Int) (a0_3 : Int) (a0_4 : Int) (a0_5 : Int) (a0_6 : Int) (a0_7 : Int) (a0_8 : Int) (a0_9 : Int) (a0_10 : Int) (l0_11 : List Int) (a0_12 : Int) (l0_13 : List (S71)) : Option (Bool) := (revetmentlaw16_much.f a0_0 a0_1 a0_2 a0_3 a0_4 a0_5 a0_6 a0_7 a0_8 a0_9 a0_10 l0_11 a0_12 l0_13).bind fun t538 => (if t538 = true then ((revetmentlaw16_live.f).bind fun t539 => (some t539)) else ((prefix_Of.f a0_0 a0_1 a0_2 a0_3 a0_4 a0_5 a0_6 a0_7 a0_8 a0_9 a0_10 l0_11 a0_12 l0_13).bind fun t540 => ((revetmentref16_Of.f k a0_0 a0_1 a0_2 a0_3 a0_4 a0_5 a0_6 a0_7 a0_8 a0_9 a0_10 l0_11 a0_12 l0_13).bind fun t541 => (if t540 = t541 then ((revetmentlaw16_live.f).bind fun t542 => (some t542)) else (some false)))))
theorem revetmentlaw16_PrefixOfs.mono : ∀ a0 a1 a2 a3 a4 a5 a6 a7 a8 a9 a10 a11 a12 a13 k, LeO (revetmentlaw16_PrefixOfs.f k a0 a1 a2 a3 a4 a5 a6 a7 a8 a9 a10 a11 a12 a13) (revetmentlaw16_PrefixOfs.f (k + 1) a0 a1 a2 a3 a4 a5 a6 a7 a8 a9 a10 a11 a12 a13) := by
 intro a0 a1 a2 a3 a4 a5 a6 a7 a8 a9 a10 a11 a12 a13 k
 unfold revetmentlaw16_PrefixOfs.f
 repeat' first
   | (with_reducible exact revetmentref16_Of.mono _ _ _ _ _ _ _ _ _ _ _ _ _ _ _)
   | (with_reducible exact LeO.refl _)
   | (with_reducible exact LeO.none _)
   | (with_reducible refine LeO.ite ?_ ?_)
   | (with_reducible refine LeO.bind ?_ (fun _ => ?_))
   | exact revetmentref16_Of.mono _ _ _ _ _ _ _ _ _ _ _ _ _ _ _
   | exact LeO.none _
   | refine LeO.ite ?_ ?_
   | refine LeO.bind ?_ (fun _ => ?_)
def revetmentlaw16_PrefixOfs.T3 : Bool × List (List Nat × List Nat) := (true, [([], []), ([0], [0]), ([], []), ([2], [2]), ([], []), ([4], [4]), ([], []), ([6], [6]), ([1, 3, 5, 7], [1, 3, 5, 7]), ([], []), ([9], [9]), ([], []), ([11], [11]), ([], []), ([13], [13]), ([], []), ([15], [15]), ([10, 12, 14, 16, 8], [10, 12, 14, 16]), ([8, 17], [8, 17]), ([18, 17], [18]), ([19, 19], [19]), ([19, 20], [19, 20]), ([21, 20, 0, 1, 2, 3, 4, 5, 6, 7, 8, 9, 10, 11, 12, 13, 14, 15, 16, 17, 18, 19, 20, 21], [21])])
def revetmentlaw16_PrefixOfs.B3 : List Nat := [0, 1, 0, 4, 0, 16, 0, 64, 255, 0, 512, 0, 2048, 0, 8192, 0, 32768, 131071, 262143, 524287, 1048575, 2097151, 4194303]
theorem revetmentlaw16_PrefixOfs.tab3 : rtab .any (opsOf Try.f10 3) = revetmentlaw16_PrefixOfs.T3 := by kernel_rfl
theorem revetmentlaw16_PrefixOfs.bits3 : waitsOk revetmentlaw16_PrefixOfs.T3.2 revetmentlaw16_PrefixOfs.B3 = true := by kernel_rfl
set_option maxHeartbeats 8000000 in
set_option maxRecDepth 100000 in
theorem revetmentlaw16_PrefixOfs.calls (k : Nat) (a0_0 : Int) (a0_1 : Int) (a0_2 : Int) (a0_3 : Int) (a0_4 : Int) (a0_5 : Int) (a0_6 : Int) (a0_7 : Int) (a0_8 : Int) (a0_9 : Int) (a0_10 : Int) (A0_11 : Option Addr) (c0_11 : Nat) (l0_11 : List Int) (a0_12 : Int) (A0_13 : Option Addr) (c0_13 : Nat) (l0_13 : List (S71)) (w : World) (hr0_11 : Kd.C (Kd.int .i64) w A0_11 l0_11.length l0_11) (hc0_11 : l0_11.length ≤ c0_11) (hr0_13 : Kd.C k71 w A0_13 l0_13.length l0_13) (hc0_13 : l0_13.length ≤ c0_13) (h : revetmentlaw16_PrefixOfs.f k a0_0 a0_1 a0_2 a0_3 a0_4 a0_5 a0_6 a0_7 a0_8 a0_9 a0_10 l0_11 a0_12 l0_13 = some true) :
  Calls Try.prog 10 #[.agg #[.int .i64 a0_0, .int .i64 a0_1, .int .i64 a0_2, .int .i64 a0_3, .int .i64 a0_4, .int .i64 a0_5, .int .i64 a0_6, .int .i64 a0_7, .int .i64 a0_8, .int .i64 a0_9, .int .i64 a0_10, .slice A0_11 l0_11.length c0_11, .int .i64 a0_12, .slice A0_13 l0_13.length c0_13]] w fun e w' => e = .returned (.bool true) ∧ Below w.heap.size w w' := by
 have hu59 := Try.underlying59
 have hu23 := Try.underlying23
 have HR0_11 := Aside0.mk hr0_11
 have HC0_11 := Aside0.mk hc0_11
 clear hr0_11 hc0_11
 have HR0_13 := Aside0.mk hr0_13
 have HC0_13 := Aside0.mk hc0_13
 clear hr0_13 hc0_13
 have HB := Aside0.mk (Below.refl w.heap.size w)
 have H : ((revetmentlaw16_much.f a0_0 a0_1 a0_2 a0_3 a0_4 a0_5 a0_6 a0_7 a0_8 a0_9 a0_10 l0_11 a0_12 l0_13).bind fun t538 => (if t538 = true then ((revetmentlaw16_live.f).bind fun t539 => (some t539)) else ((prefix_Of.f a0_0 a0_1 a0_2 a0_3 a0_4 a0_5 a0_6 a0_7 a0_8 a0_9 a0_10 l0_11 a0_12 l0_13).bind fun t540 => ((revetmentref16_Of.f k a0_0 a0_1 a0_2 a0_3 a0_4 a0_5 a0_6 a0_7 a0_8 a0_9 a0_10 l0_11 a0_12 l0_13).bind fun t541 => (if t540 = t541 then ((revetmentlaw16_live.f).bind fun t542 => (some t542)) else (some false)))))) = some true := h
 clear h
 replace H := Option.bind_eq_some_iff.mp H
 obtain ⟨t538, A20, H⟩ := H
 replace H : (if t538 = true then ((revetmentlaw16_live.f).bind fun t539 => (some t539)) else ((prefix_Of.f a0_0 a0_1 a0_2 a0_3 a0_4 a0_5 a0_6 a0_7 a0_8 a0_9 a0_10 l0_11 a0_12 l0_13).bind fun t540 => ((revetmentref16_Of.f k a0_0 a0_1 a0_2 a0_3 a0_4 a0_5 a0_6 a0_7 a0_8 a0_9 a0_10 l0_11 a0_12 l0_13).bind fun t541 => (if t540 = t541 then ((revetmentlaw16_live.f).bind fun t542 => (some t542)) else (some false))))) = some true := H
 have A2 := Aside0.mk A20
 clear A20
 by_cases c3 : t538 = true
 ·subst c3
  have H1 : ((revetmentlaw16_live.f).bind fun t539 => (some t539)) = some true := by rw [if_pos rfl] at H; exact H
  clear H
  have H := H1
  clear H1
  replace H := Option.bind_eq_some_iff.mp H
  obtain ⟨t539, A40, H⟩ := H
  replace H : (some t539) = some true := H
  have A4 := Aside0.mk A40
  clear A40
  obtain rfl := Option.some.inj H
  go_enter Try.func10, Try.ntmps10
  go_wp2_with (first | ((with_reducible refine gate_dst (N := 1) rfl ?_); refine box_event ?hg (N := 1) ?hd (cs := #[.int .i64 a0_0, .int .i64 a0_1, .int .i64 a0_2, .int .i64 a0_3, .int .i64 a0_4, .int .i64 a0_5, .int .i64 a0_6, .int .i64 a0_7, .int .i64 a0_8, .int .i64 a0_9, .int .i64 a0_10, .slice A0_11 l0_11.length c0_11, .int .i64 a0_12, .slice A0_13 l0_13.length c0_13]) (t := 59) ?hr ?_; (case hd => rfl); (case hg => rfl); (case hr => first | (go_simp; done) | (go_simp; rfl)); intro gb537 hg w5 hbox hb; have n0_ := bst HB hb; have n1_ := Aside0.mk (hbox); have n2_ := Aside0.mk ((by rw [hg]; exact (below_size (bl HB)) : w.heap.size ≤ gb537)); have n3_ := Aside0.mk ((by rw [hg]; exact (below_size (bl HB)) : w.heap.size ≤ gb537)); clear HB; have HB := n0_; have BK537 := n1_; have GW537 := n2_; have GE537 := n3_; clear n0_ n1_ n2_ n3_; clear hb hbox hg; have hcz6_0 : w5.cell? ⟨gb537, 0, none⟩ = some (.int .i64 a0_0) := (blk_cell BK537.out 0).trans rfl; have hcz6_1 : w5.cell? ⟨gb537, 1, none⟩ = some (.int .i64 a0_1) := (blk_cell BK537.out 1).trans rfl; have hcz6_2 : w5.cell? ⟨gb537, 2, none⟩ = some (.int .i64 a0_2) := (blk_cell BK537.out 2).trans rfl; have hcz6_3 : w5.cell? ⟨gb537, 3, none⟩ = some (.int .i64 a0_3) := (blk_cell BK537.out 3).trans rfl; have hcz6_4 : w5.cell? ⟨gb537, 4, none⟩ = some (.int .i64 a0_4) := (blk_cell BK537.out 4).trans rfl; have hcz6_5 : w5.cell? ⟨gb537, 5, none⟩ = some (.int .i64 a0_5) := (blk_cell BK537.out 5).trans rfl; have hcz6_6 : w5.cell? ⟨gb537, 6, none⟩ = some (.int .i64 a0_6) := (blk_cell BK537.out 6).trans rfl; have hcz6_7 : w5.cell? ⟨gb537, 7, none⟩ = some (.int .i64 a0_7) := (blk_cell BK537.out 7).trans rfl; have hcz6_8 : w5.cell? ⟨gb537, 8, none⟩ = some (.int .i64 a0_8) := (blk_cell BK537.out 8).trans rfl; have hcz6_9 : w5.cell? ⟨gb537, 9, none⟩ = some (.int .i64 a0_9) := (blk_cell BK537.out 9).trans rfl; have hcz6_10 : w5.cell? ⟨gb537, 10, none⟩ = some (.int .i64 a0_10) := (blk_cell BK537.out 10).trans rfl; have hcz6_11 : w5.cell? ⟨gb537, 11, none⟩ = some (.slice A0_11 l0_11.length c0_11) := (blk_cell BK537.out 11).trans rfl; have hcz6_12 : w5.cell? ⟨gb537, 12, none⟩ = some (.int .i64 a0_12) := (blk_cell BK537.out 12).trans rfl; have hcz6_13 : w5.cell? ⟨gb537, 13, none⟩ = some (.slice A0_13 l0_13.length c0_13) := (blk_cell BK537.out 13).trans rfl; have hfz6_0 := blk_frozen BK537.out 0; have hfz6_1 := blk_frozen BK537.out 1; have hfz6_2 := blk_frozen BK537.out 2; have hfz6_3 := blk_frozen BK537.out 3; have hfz6_4 := blk_frozen BK537.out 4; have hfz6_5 := blk_frozen BK537.out 5; have hfz6_6 := blk_frozen BK537.out 6; have hfz6_7 := blk_frozen BK537.out 7; have hfz6_8 := blk_frozen BK537.out 8; have hfz6_9 := blk_frozen BK537.out 9; have hfz6_10 := blk_frozen BK537.out 10; have hfz6_11 := blk_frozen BK537.out 11; have hfz6_12 := blk_frozen BK537.out 12; have hfz6_13 := blk_frozen BK537.out 13) | ((with_reducible refine gate_callee (f := 46) rfl ?_); refine goesL_ (some 4) rfl rfl Try.func46 (by kernel_rfl) rfl #[.agg #[.int .i64 a0_0, .int .i64 a0_1, .int .i64 a0_2, .int .i64 a0_3, .int .i64 a0_4, .int .i64 a0_5, .int .i64 a0_6, .int .i64 a0_7, .int .i64 a0_8, .int .i64 a0_9, .int .i64 a0_10, .slice A0_11 l0_11.length c0_11, .int .i64 a0_12, .slice A0_13 l0_13.length c0_13]] rfl (by (try simp only [List.map_toArray, List.map_cons, List.map_nil]); first | done | rfl | (simp only [List.length_drop, List.length_take]; rfl)) ?_; (with_reducible refine (revetmentlaw16_much.calls a0_0 a0_1 a0_2 a0_3 a0_4 a0_5 a0_6 a0_7 a0_8 a0_9 a0_10 _ _ l0_11 a0_12 _ _ l0_13 true _ ?side1 ?side2 ?side3 ?side4 A2.out).mono ?_); (case side1 => repeat (first | exact (Kd.C_below HR0_11.out HB.out) | (with_reducible refine Kd.C_alloc ?_ _) | (with_reducible refine Kd.C_drewN ?_ _) | (with_reducible refine Kd.C_drew ?_))); (case side2 => exact HC0_11.out); (case side3 => repeat (first | exact (Kd.C_below HR0_13.out HB.out) | (with_reducible refine Kd.C_alloc ?_ _) | (with_reducible refine Kd.C_drewN ?_ _) | (with_reducible refine Kd.C_drew ?_))); (case side4 => exact HC0_13.out); rintro e w7 ⟨rfl, hb⟩; refine ⟨_, rfl, ?_⟩; have n0_ := bkb BK537 hb; have n1_ := bst HB hb; clear BK537; clear HB; have BK537 := n0_; have HB := n1_; clear n0_ n1_; (try clear hb); (try clear hb2); (try clear hk); (try clear hi)) | ((with_reducible refine gate_callee (f := 47) rfl ?_); refine goesL_ (some 5) rfl rfl Try.func47 (by kernel_rfl) rfl #[] rfl (by (try simp only [List.map_toArray, List.map_cons, List.map_nil]); first | done | rfl | (simp only [List.length_drop, List.length_take]; rfl)) ?_; (with_reducible refine (revetmentlaw16_live.calls  true _ A4.out).mono ?_); rintro e w8 ⟨rfl, hb⟩; refine ⟨_, rfl, ?_⟩; have n0_ := bkb BK537 hb; have n1_ := bst HB hb; clear BK537; clear HB; have BK537 := n0_; have HB := n1_; clear n0_ n1_; (try clear hb); (try clear hb2); (try clear hk); (try clear hi)))
  go_ret
  exact ⟨by first | rfl | (simp [errW_none, errW_some] <;> rfl) | (simp [*, errW_none, errW_some] <;> rfl), bl HB⟩
 ·replace c3 := Bool.eq_false_iff.mpr c3
  subst c3
  have H1 : ((prefix_Of.f a0_0 a0_1 a0_2 a0_3 a0_4 a0_5 a0_6 a0_7 a0_8 a0_9 a0_10 l0_11 a0_12 l0_13).bind fun t540 => ((revetmentref16_Of.f k a0_0 a0_1 a0_2 a0_3 a0_4 a0_5 a0_6 a0_7 a0_8 a0_9 a0_10 l0_11 a0_12 l0_13).bind fun t541 => (if t540 = t541 then ((revetmentlaw16_live.f).bind fun t542 => (some t542)) else (some false)))) = some true := by rw [if_neg (show ¬ (false = true) by decide)] at H; exact H
  clear H
  have H := H1
  clear H1
  replace H := Option.bind_eq_some_iff.mp H
  obtain ⟨t540, A90, H⟩ := H
  replace H : ((revetmentref16_Of.f k a0_0 a0_1 a0_2 a0_3 a0_4 a0_5 a0_6 a0_7 a0_8 a0_9 a0_10 l0_11 a0_12 l0_13).bind fun t541 => (if t540 = t541 then ((revetmentlaw16_live.f).bind fun t542 => (some t542)) else (some false))) = some true := H
  have A9 := Aside0.mk A90
  clear A90
  replace H := Option.bind_eq_some_iff.mp H
  obtain ⟨t541, A100, H⟩ := H
  replace H : (if t540 = t541 then ((revetmentlaw16_live.f).bind fun t542 => (some t542)) else (some false)) = some true := H
  have A10 := Aside0.mk A100
  clear A100
  by_cases c11 : t540 = t541
  ·rw [if_pos c11] at H
   have c11b0 : (t540 == t541) = true := beq_iff_eq.mpr c11
   have c11b1 : (t540 != t541) = false := bne_eq_false_iff_eq.mpr c11
   clear c11
   replace H := Option.bind_eq_some_iff.mp H
   obtain ⟨t542, A120, H⟩ := H
   replace H : (some t542) = some true := H
   have A12 := Aside0.mk A120
   clear A120
   obtain rfl := Option.some.inj H
   go_enter Try.func10, Try.ntmps10
   try go_wp2_with (first | ((with_reducible refine gate_dst (N := 1) rfl ?_); refine box_event ?hg (N := 1) ?hd (cs := #[.int .i64 a0_0, .int .i64 a0_1, .int .i64 a0_2, .int .i64 a0_3, .int .i64 a0_4, .int .i64 a0_5, .int .i64 a0_6, .int .i64 a0_7, .int .i64 a0_8, .int .i64 a0_9, .int .i64 a0_10, .slice A0_11 l0_11.length c0_11, .int .i64 a0_12, .slice A0_13 l0_13.length c0_13]) (t := 59) ?hr ?_; (case hd => rfl); (case hg => rfl); (case hr => first | (go_simp; done) | (go_simp; rfl)); intro gb537 hg w13 hbox hb; have n0_ := bst HB hb; have n1_ := Aside0.mk (hbox); have n2_ := Aside0.mk ((by rw [hg]; exact (below_size (bl HB)) : w.heap.size ≤ gb537)); have n3_ := Aside0.mk ((by rw [hg]; exact (below_size (bl HB)) : w.heap.size ≤ gb537)); clear HB; have HB := n0_; have BK537 := n1_; have GW537 := n2_; have GE537 := n3_; clear n0_ n1_ n2_ n3_; clear hb hbox hg; have hcz14_0 : w13.cell? ⟨gb537, 0, none⟩ = some (.int .i64 a0_0) := (blk_cell BK537.out 0).trans rfl; have hcz14_1 : w13.cell? ⟨gb537, 1, none⟩ = some (.int .i64 a0_1) := (blk_cell BK537.out 1).trans rfl; have hcz14_2 : w13.cell? ⟨gb537, 2, none⟩ = some (.int .i64 a0_2) := (blk_cell BK537.out 2).trans rfl; have hcz14_3 : w13.cell? ⟨gb537, 3, none⟩ = some (.int .i64 a0_3) := (blk_cell BK537.out 3).trans rfl; have hcz14_4 : w13.cell? ⟨gb537, 4, none⟩ = some (.int .i64 a0_4) := (blk_cell BK537.out 4).trans rfl; have hcz14_5 : w13.cell? ⟨gb537, 5, none⟩ = some (.int .i64 a0_5) := (blk_cell BK537.out 5).trans rfl; have hcz14_6 : w13.cell? ⟨gb537, 6, none⟩ = some (.int .i64 a0_6) := (blk_cell BK537.out 6).trans rfl; have hcz14_7 : w13.cell? ⟨gb537, 7, none⟩ = some (.int .i64 a0_7) := (blk_cell BK537.out 7).trans rfl; have hcz14_8 : w13.cell? ⟨gb537, 8, none⟩ = some (.int .i64 a0_8) := (blk_cell BK537.out 8).trans rfl; have hcz14_9 : w13.cell? ⟨gb537, 9, none⟩ = some (.int .i64 a0_9) := (blk_cell BK537.out 9).trans rfl; have hcz14_10 : w13.cell? ⟨gb537, 10, none⟩ = some (.int .i64 a0_10) := (blk_cell BK537.out 10).trans rfl; have hcz14_11 : w13.cell? ⟨gb537, 11, none⟩ = some (.slice A0_11 l0_11.length c0_11) := (blk_cell BK537.out 11).trans rfl; have hcz14_12 : w13.cell? ⟨gb537, 12, none⟩ = some (.int .i64 a0_12) := (blk_cell BK537.out 12).trans rfl; have hcz14_13 : w13.cell? ⟨gb537, 13, none⟩ = some (.slice A0_13 l0_13.length c0_13) := (blk_cell BK537.out 13).trans rfl; have hfz14_0 := blk_frozen BK537.out 0; have hfz14_1 := blk_frozen BK537.out 1; have hfz14_2 := blk_frozen BK537.out 2; have hfz14_3 := blk_frozen BK537.out 3; have hfz14_4 := blk_frozen BK537.out 4; have hfz14_5 := blk_frozen BK537.out 5; have hfz14_6 := blk_frozen BK537.out 6; have hfz14_7 := blk_frozen BK537.out 7; have hfz14_8 := blk_frozen BK537.out 8; have hfz14_9 := blk_frozen BK537.out 9; have hfz14_10 := blk_frozen BK537.out 10; have hfz14_11 := blk_frozen BK537.out 11; have hfz14_12 := blk_frozen BK537.out 12; have hfz14_13 := blk_frozen BK537.out 13) | ((with_reducible refine gate_callee (f := 46) rfl ?_); refine goesL_ (some 4) rfl rfl Try.func46 (by kernel_rfl) rfl #[.agg #[.int .i64 a0_0, .int .i64 a0_1, .int .i64 a0_2, .int .i64 a0_3, .int .i64 a0_4, .int .i64 a0_5, .int .i64 a0_6, .int .i64 a0_7, .int .i64 a0_8, .int .i64 a0_9, .int .i64 a0_10, .slice A0_11 l0_11.length c0_11, .int .i64 a0_12, .slice A0_13 l0_13.length c0_13]] rfl (by (try simp only [List.map_toArray, List.map_cons, List.map_nil]); first | done | rfl | (simp only [List.length_drop, List.length_take]; rfl)) ?_; (with_reducible refine (revetmentlaw16_much.calls a0_0 a0_1 a0_2 a0_3 a0_4 a0_5 a0_6 a0_7 a0_8 a0_9 a0_10 _ _ l0_11 a0_12 _ _ l0_13 false _ ?side1 ?side2 ?side3 ?side4 A2.out).mono ?_); (case side1 => repeat (first | exact (Kd.C_below HR0_11.out HB.out) | (with_reducible refine Kd.C_alloc ?_ _) | (with_reducible refine Kd.C_drewN ?_ _) | (with_reducible refine Kd.C_drew ?_))); (case side2 => exact HC0_11.out); (case side3 => repeat (first | exact (Kd.C_below HR0_13.out HB.out) | (with_reducible refine Kd.C_alloc ?_ _) | (with_reducible refine Kd.C_drewN ?_ _) | (with_reducible refine Kd.C_drew ?_))); (case side4 => exact HC0_13.out); rintro e w15 ⟨rfl, hb⟩; refine ⟨_, rfl, ?_⟩; have n0_ := bkb BK537 hb; have n1_ := bst HB hb; clear BK537; clear HB; have BK537 := n0_; have HB := n1_; clear n0_ n1_; (try clear hb); (try clear hb2); (try clear hk); (try clear hi)))
   replace BK537 := Aside0.mk (blk_drew BK537.out)
   replace HB := Aside0.mk (below_drew1 HB.out)
   refine start_ (n := 23) (S := fun w' => w'.cell? ⟨gb537, 0, none⟩ = some (.int .i64 a0_0) ∧ w'.cell? ⟨gb537, 1, none⟩ = some (.int .i64 a0_1) ∧ w'.cell? ⟨gb537, 2, none⟩ = some (.int .i64 a0_2) ∧ w'.cell? ⟨gb537, 3, none⟩ = some (.int .i64 a0_3) ∧ w'.cell? ⟨gb537, 4, none⟩ = some (.int .i64 a0_4) ∧ w'.cell? ⟨gb537, 5, none⟩ = some (.int .i64 a0_5) ∧ w'.cell? ⟨gb537, 6, none⟩ = some (.int .i64 a0_6) ∧ w'.cell? ⟨gb537, 7, none⟩ = some (.int .i64 a0_7) ∧ w'.cell? ⟨gb537, 8, none⟩ = some (.int .i64 a0_8) ∧ w'.cell? ⟨gb537, 9, none⟩ = some (.int .i64 a0_9) ∧ w'.cell? ⟨gb537, 10, none⟩ = some (.int .i64 a0_10) ∧ w'.cell? ⟨gb537, 11, none⟩ = some (.slice A0_11 l0_11.length c0_11) ∧ w'.cell? ⟨gb537, 12, none⟩ = some (.int .i64 a0_12) ∧ w'.cell? ⟨gb537, 13, none⟩ = some (.slice A0_13 l0_13.length c0_13)) (ds := []) (bq 23 0) (by kernel_rfl) rfl rfl ⟨(blk_cell BK537.out 0).trans rfl, (blk_cell BK537.out 1).trans rfl, (blk_cell BK537.out 2).trans rfl, (blk_cell BK537.out 3).trans rfl, (blk_cell BK537.out 4).trans rfl, (blk_cell BK537.out 5).trans rfl, (blk_cell BK537.out 6).trans rfl, (blk_cell BK537.out 7).trans rfl, (blk_cell BK537.out 8).trans rfl, (blk_cell BK537.out 9).trans rfl, (blk_cell BK537.out 10).trans rfl, (blk_cell BK537.out 11).trans rfl, (blk_cell BK537.out 12).trans rfl, (blk_cell BK537.out 13).trans rfl⟩ (fun hHeld => ?_); refine with_tabW revetmentlaw16_PrefixOfs.tab3 revetmentlaw16_PrefixOfs.bits3 (fun HT_ HW_ => ?_)
   generalize w15.drew = w16 at BK537 HB hHeld ⊢
   apply pu 0 6 (bq 23 1) HT_
   apply pu 2 8 (bq 23 5) HT_
   apply pu 4 10 (bq 23 21) HT_
   apply pu 6 12 (bq 23 85) HT_
   apply pu 9 15 (bq 23 597) HT_
   apply pu 11 17 (bq 23 2645) HT_
   apply pu 13 19 (bq 23 10837) HT_
   apply pu 15 21 (bq 23 43605) HT_
   apply tu 1 7 (bq 23 43607) HT_ HW_ hHeld
   apply tu 3 9 (bq 23 43615) HT_ HW_ hHeld
   apply tu 5 11 (bq 23 43647) HT_ HW_ hHeld
   apply tu 7 13 (bq 23 43775) HT_ HW_ hHeld
   apply tu 10 16 (bq 23 44799) HT_ HW_ hHeld
   apply tu 12 18 (bq 23 48895) HT_ HW_ hHeld
   apply tu 14 20 (bq 23 65279) HT_ HW_ hHeld
   apply tu 16 22 (bq 23 130815) HT_ HW_ hHeld
   refine one_ (i := 8) (N := some 14) (bq 23 131071) rfl rfl (one_of HT_.out (by kernel_rfl)) (by decide) (fun K hK => ?_)
   refine gs Try.func48 #[.agg #[.int .i64 a0_0, .int .i64 a0_1, .int .i64 a0_2, .int .i64 a0_3, .int .i64 a0_4, .int .i64 a0_5, .int .i64 a0_6, .int .i64 a0_7, .int .i64 a0_8, .int .i64 a0_9, .int .i64 a0_10], .slice A0_11 l0_11.length c0_11, .int .i64 a0_12, .slice A0_13 l0_13.length c0_13] ?_
   with_reducible refine (prefix_Of.calls a0_0 a0_1 a0_2 a0_3 a0_4 a0_5 a0_6 a0_7 a0_8 a0_9 a0_10 _ _ l0_11 a0_12 _ _ l0_13 t540 _ ?side1 ?side2 ?side3 ?side4 A9.out).mono ?_
   (case side1 => repeat (first | exact (Kd.C_below HR0_11.out HB.out) | (with_reducible refine Kd.C_alloc ?_ _) | (with_reducible refine Kd.C_drewN ?_ _) | (with_reducible refine Kd.C_drew ?_)))
   (case side2 => exact HC0_11.out)
   (case side3 => repeat (first | exact (Kd.C_below HR0_13.out HB.out) | (with_reducible refine Kd.C_alloc ?_ _) | (with_reducible refine Kd.C_drewN ?_ _) | (with_reducible refine Kd.C_drew ?_)))
   (case side4 => exact HC0_13.out)
   rintro e w17 ⟨rfl, hb⟩
   refine ⟨_, rfl, ?_⟩
   replace BK537 := bkb BK537 hb
   replace HB := bst HB hb
   try clear hb; try clear hb2; try clear hk; try clear hi
   refine hK.out _ _ sc (fun hHeld => ?_)
   clear hK K
   apply nm 0
   refine one_ (i := 17) (N := some 23) (bq 23 262143) rfl rfl (one_of HT_.out (by kernel_rfl)) (by decide) (fun K hK => ?_)
   refine gs Try.func49 #[.agg #[.int .i64 a0_0, .int .i64 a0_1, .int .i64 a0_2, .int .i64 a0_3, .int .i64 a0_4, .int .i64 a0_5, .int .i64 a0_6, .int .i64 a0_7, .int .i64 a0_8, .int .i64 a0_9, .int .i64 a0_10], .slice A0_11 l0_11.length c0_11, .int .i64 a0_12, .slice A0_13 l0_13.length c0_13] ?_
   with_reducible refine (revetmentref16_Of.calls k a0_0 a0_1 a0_2 a0_3 a0_4 a0_5 a0_6 a0_7 a0_8 a0_9 a0_10 _ _ l0_11 a0_12 _ _ l0_13 t541 _ ?side1 ?side2 ?side3 ?side4 A10.out).mono ?_
   (case side1 => repeat (first | exact (Kd.C_below HR0_11.out HB.out) | (with_reducible refine Kd.C_alloc ?_ _) | (with_reducible refine Kd.C_drewN ?_ _) | (with_reducible refine Kd.C_drew ?_)))
   (case side2 => exact HC0_11.out)
   (case side3 => repeat (first | exact (Kd.C_below HR0_13.out HB.out) | (with_reducible refine Kd.C_alloc ?_ _) | (with_reducible refine Kd.C_drewN ?_ _) | (with_reducible refine Kd.C_drew ?_)))
   (case side4 => exact HC0_13.out)
   rintro e w18 ⟨rfl, hb⟩
   refine ⟨_, rfl, ?_⟩
   replace BK537 := bkb BK537 hb
   replace HB := bst HB hb
   try clear hb; try clear hb2; try clear hk; try clear hi
   refine hK.out _ _ sc (fun hHeld => ?_)
   clear hK K
   apply nm 0
   apply pu 18 24 (bq 23 524287) HT_
   apply pu 19 25 (bq 23 1048575) HT_
   refine one_ (i := 20) (N := some 26) (bq 23 2097151) rfl rfl (one_of HT_.out (by kernel_rfl)) (by decide) (fun K hK => ?_)
   refine gs Try.func47 #[] ?_
   with_reducible refine (revetmentlaw16_live.calls  true _ A12.out).mono ?_
   rintro e w19 ⟨rfl, hb⟩
   refine ⟨_, rfl, ?_⟩
   replace BK537 := bkb BK537 hb
   replace HB := bst HB hb
   try clear hb; try clear hb2; try clear hk; try clear hi
   refine hK.out _ _ sc (fun hHeld => ?_)
   clear hK K
   apply nm 0
   apply pu 21 27 (bq 23 4194303) HT_
   apply pu 22 2 (bq 23 8388607) HT_
   refine done_ (done_of HT_.out (by kernel_rfl)) ?_
   try go_wp2
   go_ret
   exact ⟨by first | rfl | (simp [errW_none, errW_some] <;> rfl) | (simp [*, errW_none, errW_some] <;> rfl), bl HB⟩
  ·rw [if_neg c11] at H
   have c11b0 : (t540 == t541) = false := beq_eq_false_iff_ne.mpr c11
   have c11b1 : (t540 != t541) = true := bne_iff_ne.mpr c11
   exact absurd H (by simp)end Go.Proofs.Ytekihhbihnmakaa.PA
