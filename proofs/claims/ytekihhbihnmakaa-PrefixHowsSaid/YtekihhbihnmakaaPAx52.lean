/- Printed by the kit's print over stand-ins for some functions (xprint.py), with contracts of my own in their place. -/
import Derived.Test.YtekihhbihnmakaaPAx0
import Derived.Test.YtekihhbihnmakaaPAx36
import Derived.Test.YtekihhbihnmakaaPAx38
import Derived.Test.YtekihhbihnmakaaPAx39
import Derived.Test.YtekihhbihnmakaaPAx48
import Derived.Test.YtekihhbihnmakaaPAx49
import Derived.Test.YtekihhbihnmakaaPAx50
import Derived.Test.YtekihhbihnmakaaPAx51
import Derived.Test.YtekihhbihnmakaaPAx801
namespace Go.Proofs.Ytekihhbihnmakaa.PA
open Go.RowKit Go.Proofs.YtekihhbihnmakaaW.PrintWords Go.Proofs.YtekihhbihnmakaaW.PrintLast
set_option linter.unusedVariables false
set_option linter.unusedSimpArgs false

/-! ### revetmentlaw16_PrefixHows: function 13 -/
def revetmentlaw16_PrefixHows.f (k : Nat) (a0_0 : Int) (a0_1 : Int) (a0_2 : Int) (a0_3 : Int) (a0_4 : Int) (a0_5 : Int) (a0_6 : Int) (a0_7 : Int) (a0_8 : Int) (a0_9 : Int) (a0_10 : Int) (l0_11 : List Int) (a0_12 : Int) (l0_13 : List (S71)) (a1 : Int) (a2 : Int) (a3 : Int) : Option (Bool) := (revetmentlaw16_much.f a0_0 a0_1 a0_2 a0_3 a0_4 a0_5 a0_6 a0_7 a0_8 a0_9 a0_10 l0_11 a0_12 l0_13).bind fun t626 => (if t626 = true then ((revetmentlaw16_live.f).bind fun t627 => (some t627)) else ((prefix_How.f k a0_0 a0_1 a0_2 a0_3 a0_4 a0_5 a0_6 a0_7 a0_8 a0_9 a0_10 l0_11 a0_12 l0_13 a1).bind fun bt628 => ((revetmentref16_How.f k a0_0 a0_1 a0_2 a0_3 a0_4 a0_5 a0_6 a0_7 a0_8 a0_9 a0_10 l0_11 a0_12 l0_13 a1).bind fun bt630 => (if bt628.1 = bt630.1 then (if bt628.2 = bt630.2 then ((prefix_Whole.f a0_0 a0_1 a0_2 a0_3 a0_4 a0_5 a0_6 a0_7 a0_8 a0_9 a0_10 l0_11 a0_12 a2).bind fun t632 => ((revetmentref16_Whole.f a0_0 a0_1 a0_2 a0_3 a0_4 a0_5 a0_6 a0_7 a0_8 a0_9 a0_10 l0_11 a0_12 a2).bind fun t633 => (if (t632 == t633) = true then ((prefix_Ragged.f k a0_0 a0_1 a0_2 a0_3 a0_4 a0_5 a0_6 a0_7 a0_8 a0_9 a0_10 l0_11 a0_12 a3).bind fun t634 => ((revetmentref16_Ragged.f k a0_0 a0_1 a0_2 a0_3 a0_4 a0_5 a0_6 a0_7 a0_8 a0_9 a0_10 l0_11 a0_12 a3).bind fun t635 => (if (t634 == t635) = true then ((revetmentlaw16_live.f).bind fun t636 => (some t636)) else (some false)))) else (some false)))) else (some false)) else (some false)))))
theorem revetmentlaw16_PrefixHows.mono : ∀ a0 a1 a2 a3 a4 a5 a6 a7 a8 a9 a10 a11 a12 a13 a14 a15 a16 k, LeO (revetmentlaw16_PrefixHows.f k a0 a1 a2 a3 a4 a5 a6 a7 a8 a9 a10 a11 a12 a13 a14 a15 a16) (revetmentlaw16_PrefixHows.f (k + 1) a0 a1 a2 a3 a4 a5 a6 a7 a8 a9 a10 a11 a12 a13 a14 a15 a16) := by
 intro a0 a1 a2 a3 a4 a5 a6 a7 a8 a9 a10 a11 a12 a13 a14 a15 a16 k
 unfold revetmentlaw16_PrefixHows.f
 repeat' first
   | (with_reducible exact prefix_How.mono _ _ _ _ _ _ _ _ _ _ _ _ _ _ _ _)
   | (with_reducible exact prefix_Ragged.mono _ _ _ _ _ _ _ _ _ _ _ _ _ _ _)
   | (with_reducible exact revetmentref16_How.mono _ _ _ _ _ _ _ _ _ _ _ _ _ _ _ _)
   | (with_reducible exact revetmentref16_Ragged.mono _ _ _ _ _ _ _ _ _ _ _ _ _ _ _)
   | (with_reducible exact LeO.refl _)
   | (with_reducible exact LeO.none _)
   | (with_reducible refine LeO.ite ?_ ?_)
   | (with_reducible refine LeO.bind ?_ (fun _ => ?_))
   | exact prefix_How.mono _ _ _ _ _ _ _ _ _ _ _ _ _ _ _ _
   | exact prefix_Ragged.mono _ _ _ _ _ _ _ _ _ _ _ _ _ _ _
   | exact revetmentref16_How.mono _ _ _ _ _ _ _ _ _ _ _ _ _ _ _ _
   | exact revetmentref16_Ragged.mono _ _ _ _ _ _ _ _ _ _ _ _ _ _ _
   | exact LeO.none _
   | refine LeO.ite ?_ ?_
   | refine LeO.bind ?_ (fun _ => ?_)
def revetmentlaw16_PrefixHows.T5 : Bool × List (List Nat × List Nat) := (true, [([], []), ([], []), ([0, 1], [0, 1]), ([2], [2]), ([3], [3]), ([3], [3]), ([4, 5, 3], [3, 4, 5]), ([3, 6], [3, 6]), ([7, 3], [7]), ([8], [8]), ([9, 8], [8, 9]), ([8], [8]), ([11, 8], [8, 11]), ([8], [8]), ([13, 8], [8, 13]), ([8], [8]), ([10, 12, 14, 15, 8, 8], [8, 10, 12, 14, 15]), ([8], [8]), ([17, 8], [8, 17]), ([8], [8]), ([19, 8], [8, 19]), ([8], [8]), ([21, 8], [8, 21]), ([8], [8]), ([18, 20, 22, 23, 16, 8], [8, 18, 20, 22, 23]), ([16, 24, 8], [8, 16, 24]), ([8, 25], [8, 25]), ([26, 24], [26]), ([27], [27]), ([28, 27], [27, 28]), ([27], [27]), ([30, 27], [27, 30]), ([27], [27]), ([32, 27], [27, 32]), ([27], [27]), ([29, 31, 33, 34, 27, 27], [27, 29, 31, 33, 34]), ([27], [27]), ([36, 27], [27, 36]), ([27], [27]), ([38, 27], [27, 38]), ([27], [27]), ([40, 27], [27, 40]), ([27], [27]), ([37, 39, 41, 42, 35, 27], [27, 37, 39, 41, 42]), ([35, 43, 27], [27, 35, 43]), ([27, 44], [27, 44]), ([45, 43], [45]), ([46, 46], [46]), ([46, 47], [46, 47]), ([48, 47, 0, 1, 2, 3, 4, 5, 6, 7, 8, 9, 10, 11, 12, 13, 14, 15, 16, 17, 18, 19, 20, 21, 22, 23, 24, 25, 26, 27, 28, 29, 30, 31, 32, 33, 34, 35, 36, 37, 38, 39, 40, 41, 42, 43, 44, 45, 46, 47, 48], [48])])
def revetmentlaw16_PrefixHows.B5 : List Nat := [0, 0, 3, 7, 15, 15, 63, 127, 255, 511, 1023, 511, 2559, 511, 8703, 511, 65535, 511, 131583, 511, 524799, 511, 2097663, 511, 16777215, 33554431, 67108863, 134217727, 268435455, 536870911, 268435455, 1342177279, 268435455, 4563402751, 268435455, 34359738367, 268435455, 68987912191, 268435455, 275146342399, 268435455, 1099780063231, 268435455, 8796093022207, 17592186044415, 35184372088831, 70368744177663, 140737488355327, 281474976710655, 562949953421311]
theorem revetmentlaw16_PrefixHows.tab5 : rtab .any (opsOf Try.f13 5) = revetmentlaw16_PrefixHows.T5 := by kernel_rfl
theorem revetmentlaw16_PrefixHows.bits5 : waitsOk revetmentlaw16_PrefixHows.T5.2 revetmentlaw16_PrefixHows.B5 = true := by kernel_rfl
set_option maxHeartbeats 8000000 in
set_option maxRecDepth 100000 in
theorem revetmentlaw16_PrefixHows.calls (k : Nat) (a0_0 : Int) (a0_1 : Int) (a0_2 : Int) (a0_3 : Int) (a0_4 : Int) (a0_5 : Int) (a0_6 : Int) (a0_7 : Int) (a0_8 : Int) (a0_9 : Int) (a0_10 : Int) (A0_11 : Option Addr) (c0_11 : Nat) (l0_11 : List Int) (a0_12 : Int) (A0_13 : Option Addr) (c0_13 : Nat) (l0_13 : List (S71)) (a1 : Int) (a2 : Int) (a3 : Int) (w : World) (hr0_11 : Kd.C (Kd.int .i64) w A0_11 l0_11.length l0_11) (hc0_11 : l0_11.length ≤ c0_11) (hr0_13 : Kd.C k71 w A0_13 l0_13.length l0_13) (hc0_13 : l0_13.length ≤ c0_13) (h : revetmentlaw16_PrefixHows.f k a0_0 a0_1 a0_2 a0_3 a0_4 a0_5 a0_6 a0_7 a0_8 a0_9 a0_10 l0_11 a0_12 l0_13 a1 a2 a3 = some true) :
  Calls Try.prog 13 #[.agg #[.int .i64 a0_0, .int .i64 a0_1, .int .i64 a0_2, .int .i64 a0_3, .int .i64 a0_4, .int .i64 a0_5, .int .i64 a0_6, .int .i64 a0_7, .int .i64 a0_8, .int .i64 a0_9, .int .i64 a0_10, .slice A0_11 l0_11.length c0_11, .int .i64 a0_12, .slice A0_13 l0_13.length c0_13], .int .i64 a1, .int .i64 a2, .int .i64 a3] w fun e w' => e = .returned (.bool true) ∧ Below w.heap.size w w' := by
 have hu59 := Try.underlying59
 have hu23 := Try.underlying23
 have HR0_11 := Aside0.mk hr0_11
 have HC0_11 := Aside0.mk hc0_11
 clear hr0_11 hc0_11
 have HR0_13 := Aside0.mk hr0_13
 have HC0_13 := Aside0.mk hc0_13
 clear hr0_13 hc0_13
 have HB := Aside0.mk (Below.refl w.heap.size w)
 have H : ((revetmentlaw16_much.f a0_0 a0_1 a0_2 a0_3 a0_4 a0_5 a0_6 a0_7 a0_8 a0_9 a0_10 l0_11 a0_12 l0_13).bind fun t626 => (if t626 = true then ((revetmentlaw16_live.f).bind fun t627 => (some t627)) else ((prefix_How.f k a0_0 a0_1 a0_2 a0_3 a0_4 a0_5 a0_6 a0_7 a0_8 a0_9 a0_10 l0_11 a0_12 l0_13 a1).bind fun bt628 => ((revetmentref16_How.f k a0_0 a0_1 a0_2 a0_3 a0_4 a0_5 a0_6 a0_7 a0_8 a0_9 a0_10 l0_11 a0_12 l0_13 a1).bind fun bt630 => (if bt628.1 = bt630.1 then (if bt628.2 = bt630.2 then ((prefix_Whole.f a0_0 a0_1 a0_2 a0_3 a0_4 a0_5 a0_6 a0_7 a0_8 a0_9 a0_10 l0_11 a0_12 a2).bind fun t632 => ((revetmentref16_Whole.f a0_0 a0_1 a0_2 a0_3 a0_4 a0_5 a0_6 a0_7 a0_8 a0_9 a0_10 l0_11 a0_12 a2).bind fun t633 => (if (t632 == t633) = true then ((prefix_Ragged.f k a0_0 a0_1 a0_2 a0_3 a0_4 a0_5 a0_6 a0_7 a0_8 a0_9 a0_10 l0_11 a0_12 a3).bind fun t634 => ((revetmentref16_Ragged.f k a0_0 a0_1 a0_2 a0_3 a0_4 a0_5 a0_6 a0_7 a0_8 a0_9 a0_10 l0_11 a0_12 a3).bind fun t635 => (if (t634 == t635) = true then ((revetmentlaw16_live.f).bind fun t636 => (some t636)) else (some false)))) else (some false)))) else (some false)) else (some false)))))) = some true := h
 clear h
 replace H := Option.bind_eq_some_iff.mp H
 obtain ⟨t626, A50, H⟩ := H
 replace H : (if t626 = true then ((revetmentlaw16_live.f).bind fun t627 => (some t627)) else ((prefix_How.f k a0_0 a0_1 a0_2 a0_3 a0_4 a0_5 a0_6 a0_7 a0_8 a0_9 a0_10 l0_11 a0_12 l0_13 a1).bind fun bt628 => ((revetmentref16_How.f k a0_0 a0_1 a0_2 a0_3 a0_4 a0_5 a0_6 a0_7 a0_8 a0_9 a0_10 l0_11 a0_12 l0_13 a1).bind fun bt630 => (if bt628.1 = bt630.1 then (if bt628.2 = bt630.2 then ((prefix_Whole.f a0_0 a0_1 a0_2 a0_3 a0_4 a0_5 a0_6 a0_7 a0_8 a0_9 a0_10 l0_11 a0_12 a2).bind fun t632 => ((revetmentref16_Whole.f a0_0 a0_1 a0_2 a0_3 a0_4 a0_5 a0_6 a0_7 a0_8 a0_9 a0_10 l0_11 a0_12 a2).bind fun t633 => (if (t632 == t633) = true then ((prefix_Ragged.f k a0_0 a0_1 a0_2 a0_3 a0_4 a0_5 a0_6 a0_7 a0_8 a0_9 a0_10 l0_11 a0_12 a3).bind fun t634 => ((revetmentref16_Ragged.f k a0_0 a0_1 a0_2 a0_3 a0_4 a0_5 a0_6 a0_7 a0_8 a0_9 a0_10 l0_11 a0_12 a3).bind fun t635 => (if (t634 == t635) = true then ((revetmentlaw16_live.f).bind fun t636 => (some t636)) else (some false)))) else (some false)))) else (some false)) else (some false))))) = some true := H
 have A5 := Aside0.mk A50
 clear A50
 by_cases c6 : t626 = true
 ·subst c6
  have H1 : ((revetmentlaw16_live.f).bind fun t627 => (some t627)) = some true := by rw [if_pos rfl] at H; exact H
  clear H
  have H := H1
  clear H1
  replace H := Option.bind_eq_some_iff.mp H
  obtain ⟨t627, A70, H⟩ := H
  replace H : (some t627) = some true := H
  have A7 := Aside0.mk A70
  clear A70
  obtain rfl := Option.some.inj H
  go_enter Try.func13, Try.ntmps13
  go_wp2_with (first | ((with_reducible refine gate_dst (N := 4) rfl ?_); refine box_event ?hg (N := 4) ?hd (cs := #[.int .i64 a0_0, .int .i64 a0_1, .int .i64 a0_2, .int .i64 a0_3, .int .i64 a0_4, .int .i64 a0_5, .int .i64 a0_6, .int .i64 a0_7, .int .i64 a0_8, .int .i64 a0_9, .int .i64 a0_10, .slice A0_11 l0_11.length c0_11, .int .i64 a0_12, .slice A0_13 l0_13.length c0_13]) (t := 59) ?hr ?_; (case hd => rfl); (case hg => rfl); (case hr => first | (go_simp; done) | (go_simp; rfl)); intro gb625 hg w8 hbox hb; have n0_ := bst HB hb; have n1_ := Aside0.mk (hbox); have n2_ := Aside0.mk ((by rw [hg]; exact (below_size (bl HB)) : w.heap.size ≤ gb625)); have n3_ := Aside0.mk ((by rw [hg]; exact (below_size (bl HB)) : w.heap.size ≤ gb625)); clear HB; have HB := n0_; have BK625 := n1_; have GW625 := n2_; have GE625 := n3_; clear n0_ n1_ n2_ n3_; clear hb hbox hg; have hcz9_0 : w8.cell? ⟨gb625, 0, none⟩ = some (.int .i64 a0_0) := (blk_cell BK625.out 0).trans rfl; have hcz9_1 : w8.cell? ⟨gb625, 1, none⟩ = some (.int .i64 a0_1) := (blk_cell BK625.out 1).trans rfl; have hcz9_2 : w8.cell? ⟨gb625, 2, none⟩ = some (.int .i64 a0_2) := (blk_cell BK625.out 2).trans rfl; have hcz9_3 : w8.cell? ⟨gb625, 3, none⟩ = some (.int .i64 a0_3) := (blk_cell BK625.out 3).trans rfl; have hcz9_4 : w8.cell? ⟨gb625, 4, none⟩ = some (.int .i64 a0_4) := (blk_cell BK625.out 4).trans rfl; have hcz9_5 : w8.cell? ⟨gb625, 5, none⟩ = some (.int .i64 a0_5) := (blk_cell BK625.out 5).trans rfl; have hcz9_6 : w8.cell? ⟨gb625, 6, none⟩ = some (.int .i64 a0_6) := (blk_cell BK625.out 6).trans rfl; have hcz9_7 : w8.cell? ⟨gb625, 7, none⟩ = some (.int .i64 a0_7) := (blk_cell BK625.out 7).trans rfl; have hcz9_8 : w8.cell? ⟨gb625, 8, none⟩ = some (.int .i64 a0_8) := (blk_cell BK625.out 8).trans rfl; have hcz9_9 : w8.cell? ⟨gb625, 9, none⟩ = some (.int .i64 a0_9) := (blk_cell BK625.out 9).trans rfl; have hcz9_10 : w8.cell? ⟨gb625, 10, none⟩ = some (.int .i64 a0_10) := (blk_cell BK625.out 10).trans rfl; have hcz9_11 : w8.cell? ⟨gb625, 11, none⟩ = some (.slice A0_11 l0_11.length c0_11) := (blk_cell BK625.out 11).trans rfl; have hcz9_12 : w8.cell? ⟨gb625, 12, none⟩ = some (.int .i64 a0_12) := (blk_cell BK625.out 12).trans rfl; have hcz9_13 : w8.cell? ⟨gb625, 13, none⟩ = some (.slice A0_13 l0_13.length c0_13) := (blk_cell BK625.out 13).trans rfl; have hfz9_0 := blk_frozen BK625.out 0; have hfz9_1 := blk_frozen BK625.out 1; have hfz9_2 := blk_frozen BK625.out 2; have hfz9_3 := blk_frozen BK625.out 3; have hfz9_4 := blk_frozen BK625.out 4; have hfz9_5 := blk_frozen BK625.out 5; have hfz9_6 := blk_frozen BK625.out 6; have hfz9_7 := blk_frozen BK625.out 7; have hfz9_8 := blk_frozen BK625.out 8; have hfz9_9 := blk_frozen BK625.out 9; have hfz9_10 := blk_frozen BK625.out 10; have hfz9_11 := blk_frozen BK625.out 11; have hfz9_12 := blk_frozen BK625.out 12; have hfz9_13 := blk_frozen BK625.out 13) | ((with_reducible refine gate_callee (f := 46) rfl ?_); refine goesL_ (some 14) rfl rfl Try.func46 (by kernel_rfl) rfl #[.agg #[.int .i64 a0_0, .int .i64 a0_1, .int .i64 a0_2, .int .i64 a0_3, .int .i64 a0_4, .int .i64 a0_5, .int .i64 a0_6, .int .i64 a0_7, .int .i64 a0_8, .int .i64 a0_9, .int .i64 a0_10, .slice A0_11 l0_11.length c0_11, .int .i64 a0_12, .slice A0_13 l0_13.length c0_13]] rfl (by (try simp only [List.map_toArray, List.map_cons, List.map_nil]); first | done | rfl | (simp only [List.length_drop, List.length_take]; rfl)) ?_; (with_reducible refine (revetmentlaw16_much.calls a0_0 a0_1 a0_2 a0_3 a0_4 a0_5 a0_6 a0_7 a0_8 a0_9 a0_10 _ _ l0_11 a0_12 _ _ l0_13 true _ ?side1 ?side2 ?side3 ?side4 A5.out).mono ?_); (case side1 => repeat (first | exact (Kd.C_below HR0_11.out HB.out) | (with_reducible refine Kd.C_alloc ?_ _) | (with_reducible refine Kd.C_drewN ?_ _) | (with_reducible refine Kd.C_drew ?_))); (case side2 => exact HC0_11.out); (case side3 => repeat (first | exact (Kd.C_below HR0_13.out HB.out) | (with_reducible refine Kd.C_alloc ?_ _) | (with_reducible refine Kd.C_drewN ?_ _) | (with_reducible refine Kd.C_drew ?_))); (case side4 => exact HC0_13.out); rintro e w10 ⟨rfl, hb⟩; refine ⟨_, rfl, ?_⟩; have n0_ := bkb BK625 hb; have n1_ := bst HB hb; clear BK625; clear HB; have BK625 := n0_; have HB := n1_; clear n0_ n1_; (try clear hb); (try clear hb2); (try clear hk); (try clear hi)) | ((with_reducible refine gate_callee (f := 47) rfl ?_); refine goesL_ (some 15) rfl rfl Try.func47 (by kernel_rfl) rfl #[] rfl (by (try simp only [List.map_toArray, List.map_cons, List.map_nil]); first | done | rfl | (simp only [List.length_drop, List.length_take]; rfl)) ?_; (with_reducible refine (revetmentlaw16_live.calls  true _ A7.out).mono ?_); rintro e w11 ⟨rfl, hb⟩; refine ⟨_, rfl, ?_⟩; have n0_ := bkb BK625 hb; have n1_ := bst HB hb; clear BK625; clear HB; have BK625 := n0_; have HB := n1_; clear n0_ n1_; (try clear hb); (try clear hb2); (try clear hk); (try clear hi)))
  go_ret
  exact ⟨by first | rfl | (simp [errW_none, errW_some] <;> rfl) | (simp [*, errW_none, errW_some] <;> rfl), bl HB⟩
 ·replace c6 := Bool.eq_false_iff.mpr c6
  subst c6
  have H1 : ((prefix_How.f k a0_0 a0_1 a0_2 a0_3 a0_4 a0_5 a0_6 a0_7 a0_8 a0_9 a0_10 l0_11 a0_12 l0_13 a1).bind fun bt628 => ((revetmentref16_How.f k a0_0 a0_1 a0_2 a0_3 a0_4 a0_5 a0_6 a0_7 a0_8 a0_9 a0_10 l0_11 a0_12 l0_13 a1).bind fun bt630 => (if bt628.1 = bt630.1 then (if bt628.2 = bt630.2 then ((prefix_Whole.f a0_0 a0_1 a0_2 a0_3 a0_4 a0_5 a0_6 a0_7 a0_8 a0_9 a0_10 l0_11 a0_12 a2).bind fun t632 => ((revetmentref16_Whole.f a0_0 a0_1 a0_2 a0_3 a0_4 a0_5 a0_6 a0_7 a0_8 a0_9 a0_10 l0_11 a0_12 a2).bind fun t633 => (if (t632 == t633) = true then ((prefix_Ragged.f k a0_0 a0_1 a0_2 a0_3 a0_4 a0_5 a0_6 a0_7 a0_8 a0_9 a0_10 l0_11 a0_12 a3).bind fun t634 => ((revetmentref16_Ragged.f k a0_0 a0_1 a0_2 a0_3 a0_4 a0_5 a0_6 a0_7 a0_8 a0_9 a0_10 l0_11 a0_12 a3).bind fun t635 => (if (t634 == t635) = true then ((revetmentlaw16_live.f).bind fun t636 => (some t636)) else (some false)))) else (some false)))) else (some false)) else (some false)))) = some true := by rw [if_neg (show ¬ (false = true) by decide)] at H; exact H
  clear H
  have H := H1
  clear H1
  replace H := Option.bind_eq_some_iff.mp H
  obtain ⟨⟨t628, t629⟩, A120, H⟩ := H
  replace H : ((revetmentref16_How.f k a0_0 a0_1 a0_2 a0_3 a0_4 a0_5 a0_6 a0_7 a0_8 a0_9 a0_10 l0_11 a0_12 l0_13 a1).bind fun bt630 => (if t628 = bt630.1 then (if t629 = bt630.2 then ((prefix_Whole.f a0_0 a0_1 a0_2 a0_3 a0_4 a0_5 a0_6 a0_7 a0_8 a0_9 a0_10 l0_11 a0_12 a2).bind fun t632 => ((revetmentref16_Whole.f a0_0 a0_1 a0_2 a0_3 a0_4 a0_5 a0_6 a0_7 a0_8 a0_9 a0_10 l0_11 a0_12 a2).bind fun t633 => (if (t632 == t633) = true then ((prefix_Ragged.f k a0_0 a0_1 a0_2 a0_3 a0_4 a0_5 a0_6 a0_7 a0_8 a0_9 a0_10 l0_11 a0_12 a3).bind fun t634 => ((revetmentref16_Ragged.f k a0_0 a0_1 a0_2 a0_3 a0_4 a0_5 a0_6 a0_7 a0_8 a0_9 a0_10 l0_11 a0_12 a3).bind fun t635 => (if (t634 == t635) = true then ((revetmentlaw16_live.f).bind fun t636 => (some t636)) else (some false)))) else (some false)))) else (some false)) else (some false))) = some true := H
  have A12 := Aside0.mk A120
  clear A120
  replace H := Option.bind_eq_some_iff.mp H
  obtain ⟨⟨t630, t631⟩, A130, H⟩ := H
  replace H : (if t628 = t630 then (if t629 = t631 then ((prefix_Whole.f a0_0 a0_1 a0_2 a0_3 a0_4 a0_5 a0_6 a0_7 a0_8 a0_9 a0_10 l0_11 a0_12 a2).bind fun t632 => ((revetmentref16_Whole.f a0_0 a0_1 a0_2 a0_3 a0_4 a0_5 a0_6 a0_7 a0_8 a0_9 a0_10 l0_11 a0_12 a2).bind fun t633 => (if (t632 == t633) = true then ((prefix_Ragged.f k a0_0 a0_1 a0_2 a0_3 a0_4 a0_5 a0_6 a0_7 a0_8 a0_9 a0_10 l0_11 a0_12 a3).bind fun t634 => ((revetmentref16_Ragged.f k a0_0 a0_1 a0_2 a0_3 a0_4 a0_5 a0_6 a0_7 a0_8 a0_9 a0_10 l0_11 a0_12 a3).bind fun t635 => (if (t634 == t635) = true then ((revetmentlaw16_live.f).bind fun t636 => (some t636)) else (some false)))) else (some false)))) else (some false)) else (some false)) = some true := H
  have A13 := Aside0.mk A130
  clear A130
  by_cases c14 : t628 = t630
  ·rw [if_pos c14] at H
   have c14b0 : (t628 == t630) = true := beq_iff_eq.mpr c14
   have c14b1 : (t628 != t630) = false := bne_eq_false_iff_eq.mpr c14
   clear c14
   by_cases c15 : t629 = t631
   ·rw [if_pos c15] at H
    have c15b0 : (t629 == t631) = true := beq_iff_eq.mpr c15
    have c15b1 : (t629 != t631) = false := bne_eq_false_iff_eq.mpr c15
    clear c15
    replace H := Option.bind_eq_some_iff.mp H
    obtain ⟨t632, A160, H⟩ := H
    replace H : ((revetmentref16_Whole.f a0_0 a0_1 a0_2 a0_3 a0_4 a0_5 a0_6 a0_7 a0_8 a0_9 a0_10 l0_11 a0_12 a2).bind fun t633 => (if (t632 == t633) = true then ((prefix_Ragged.f k a0_0 a0_1 a0_2 a0_3 a0_4 a0_5 a0_6 a0_7 a0_8 a0_9 a0_10 l0_11 a0_12 a3).bind fun t634 => ((revetmentref16_Ragged.f k a0_0 a0_1 a0_2 a0_3 a0_4 a0_5 a0_6 a0_7 a0_8 a0_9 a0_10 l0_11 a0_12 a3).bind fun t635 => (if (t634 == t635) = true then ((revetmentlaw16_live.f).bind fun t636 => (some t636)) else (some false)))) else (some false))) = some true := H
    have A16 := Aside0.mk A160
    clear A160
    replace H := Option.bind_eq_some_iff.mp H
    obtain ⟨t633, A170, H⟩ := H
    replace H : (if (t632 == t633) = true then ((prefix_Ragged.f k a0_0 a0_1 a0_2 a0_3 a0_4 a0_5 a0_6 a0_7 a0_8 a0_9 a0_10 l0_11 a0_12 a3).bind fun t634 => ((revetmentref16_Ragged.f k a0_0 a0_1 a0_2 a0_3 a0_4 a0_5 a0_6 a0_7 a0_8 a0_9 a0_10 l0_11 a0_12 a3).bind fun t635 => (if (t634 == t635) = true then ((revetmentlaw16_live.f).bind fun t636 => (some t636)) else (some false)))) else (some false)) = some true := H
    have A17 := Aside0.mk A170
    clear A170
    by_cases c18 : (t632 == t633) = true
    ·rw [if_pos c18] at H
     have c18b0 : (t632 == t633) = true := c18
     (try (have c18b1 : decide (t632 = t633) = true := by simpa using c18))
     (try (have c18b2 : (t632 == t633) = true := by simpa using c18))
     clear c18
     replace H := Option.bind_eq_some_iff.mp H
     obtain ⟨t634, A190, H⟩ := H
     replace H : ((revetmentref16_Ragged.f k a0_0 a0_1 a0_2 a0_3 a0_4 a0_5 a0_6 a0_7 a0_8 a0_9 a0_10 l0_11 a0_12 a3).bind fun t635 => (if (t634 == t635) = true then ((revetmentlaw16_live.f).bind fun t636 => (some t636)) else (some false))) = some true := H
     have A19 := Aside0.mk A190
     clear A190
     replace H := Option.bind_eq_some_iff.mp H
     obtain ⟨t635, A200, H⟩ := H
     replace H : (if (t634 == t635) = true then ((revetmentlaw16_live.f).bind fun t636 => (some t636)) else (some false)) = some true := H
     have A20 := Aside0.mk A200
     clear A200
     by_cases c21 : (t634 == t635) = true
     ·rw [if_pos c21] at H
      have c21b0 : (t634 == t635) = true := c21
      (try (have c21b1 : decide (t634 = t635) = true := by simpa using c21))
      (try (have c21b2 : (t634 == t635) = true := by simpa using c21))
      clear c21
      replace H := Option.bind_eq_some_iff.mp H
      obtain ⟨t636, A220, H⟩ := H
      replace H : (some t636) = some true := H
      have A22 := Aside0.mk A220
      clear A220
      obtain rfl := Option.some.inj H
      go_enter Try.func13, Try.ntmps13
      try go_wp2_with (first | ((with_reducible refine gate_dst (N := 4) rfl ?_); refine box_event ?hg (N := 4) ?hd (cs := #[.int .i64 a0_0, .int .i64 a0_1, .int .i64 a0_2, .int .i64 a0_3, .int .i64 a0_4, .int .i64 a0_5, .int .i64 a0_6, .int .i64 a0_7, .int .i64 a0_8, .int .i64 a0_9, .int .i64 a0_10, .slice A0_11 l0_11.length c0_11, .int .i64 a0_12, .slice A0_13 l0_13.length c0_13]) (t := 59) ?hr ?_; (case hd => rfl); (case hg => rfl); (case hr => first | (go_simp; done) | (go_simp; rfl)); intro gb625 hg w23 hbox hb; have n0_ := bst HB hb; have n1_ := Aside0.mk (hbox); have n2_ := Aside0.mk ((by rw [hg]; exact (below_size (bl HB)) : w.heap.size ≤ gb625)); have n3_ := Aside0.mk ((by rw [hg]; exact (below_size (bl HB)) : w.heap.size ≤ gb625)); clear HB; have HB := n0_; have BK625 := n1_; have GW625 := n2_; have GE625 := n3_; clear n0_ n1_ n2_ n3_; clear hb hbox hg; have hcz24_0 : w23.cell? ⟨gb625, 0, none⟩ = some (.int .i64 a0_0) := (blk_cell BK625.out 0).trans rfl; have hcz24_1 : w23.cell? ⟨gb625, 1, none⟩ = some (.int .i64 a0_1) := (blk_cell BK625.out 1).trans rfl; have hcz24_2 : w23.cell? ⟨gb625, 2, none⟩ = some (.int .i64 a0_2) := (blk_cell BK625.out 2).trans rfl; have hcz24_3 : w23.cell? ⟨gb625, 3, none⟩ = some (.int .i64 a0_3) := (blk_cell BK625.out 3).trans rfl; have hcz24_4 : w23.cell? ⟨gb625, 4, none⟩ = some (.int .i64 a0_4) := (blk_cell BK625.out 4).trans rfl; have hcz24_5 : w23.cell? ⟨gb625, 5, none⟩ = some (.int .i64 a0_5) := (blk_cell BK625.out 5).trans rfl; have hcz24_6 : w23.cell? ⟨gb625, 6, none⟩ = some (.int .i64 a0_6) := (blk_cell BK625.out 6).trans rfl; have hcz24_7 : w23.cell? ⟨gb625, 7, none⟩ = some (.int .i64 a0_7) := (blk_cell BK625.out 7).trans rfl; have hcz24_8 : w23.cell? ⟨gb625, 8, none⟩ = some (.int .i64 a0_8) := (blk_cell BK625.out 8).trans rfl; have hcz24_9 : w23.cell? ⟨gb625, 9, none⟩ = some (.int .i64 a0_9) := (blk_cell BK625.out 9).trans rfl; have hcz24_10 : w23.cell? ⟨gb625, 10, none⟩ = some (.int .i64 a0_10) := (blk_cell BK625.out 10).trans rfl; have hcz24_11 : w23.cell? ⟨gb625, 11, none⟩ = some (.slice A0_11 l0_11.length c0_11) := (blk_cell BK625.out 11).trans rfl; have hcz24_12 : w23.cell? ⟨gb625, 12, none⟩ = some (.int .i64 a0_12) := (blk_cell BK625.out 12).trans rfl; have hcz24_13 : w23.cell? ⟨gb625, 13, none⟩ = some (.slice A0_13 l0_13.length c0_13) := (blk_cell BK625.out 13).trans rfl; have hfz24_0 := blk_frozen BK625.out 0; have hfz24_1 := blk_frozen BK625.out 1; have hfz24_2 := blk_frozen BK625.out 2; have hfz24_3 := blk_frozen BK625.out 3; have hfz24_4 := blk_frozen BK625.out 4; have hfz24_5 := blk_frozen BK625.out 5; have hfz24_6 := blk_frozen BK625.out 6; have hfz24_7 := blk_frozen BK625.out 7; have hfz24_8 := blk_frozen BK625.out 8; have hfz24_9 := blk_frozen BK625.out 9; have hfz24_10 := blk_frozen BK625.out 10; have hfz24_11 := blk_frozen BK625.out 11; have hfz24_12 := blk_frozen BK625.out 12; have hfz24_13 := blk_frozen BK625.out 13) | ((with_reducible refine gate_callee (f := 46) rfl ?_); refine goesL_ (some 14) rfl rfl Try.func46 (by kernel_rfl) rfl #[.agg #[.int .i64 a0_0, .int .i64 a0_1, .int .i64 a0_2, .int .i64 a0_3, .int .i64 a0_4, .int .i64 a0_5, .int .i64 a0_6, .int .i64 a0_7, .int .i64 a0_8, .int .i64 a0_9, .int .i64 a0_10, .slice A0_11 l0_11.length c0_11, .int .i64 a0_12, .slice A0_13 l0_13.length c0_13]] rfl (by (try simp only [List.map_toArray, List.map_cons, List.map_nil]); first | done | rfl | (simp only [List.length_drop, List.length_take]; rfl)) ?_; (with_reducible refine (revetmentlaw16_much.calls a0_0 a0_1 a0_2 a0_3 a0_4 a0_5 a0_6 a0_7 a0_8 a0_9 a0_10 _ _ l0_11 a0_12 _ _ l0_13 false _ ?side1 ?side2 ?side3 ?side4 A5.out).mono ?_); (case side1 => repeat (first | exact (Kd.C_below HR0_11.out HB.out) | (with_reducible refine Kd.C_alloc ?_ _) | (with_reducible refine Kd.C_drewN ?_ _) | (with_reducible refine Kd.C_drew ?_))); (case side2 => exact HC0_11.out); (case side3 => repeat (first | exact (Kd.C_below HR0_13.out HB.out) | (with_reducible refine Kd.C_alloc ?_ _) | (with_reducible refine Kd.C_drewN ?_ _) | (with_reducible refine Kd.C_drew ?_))); (case side4 => exact HC0_13.out); rintro e w25 ⟨rfl, hb⟩; refine ⟨_, rfl, ?_⟩; have n0_ := bkb BK625 hb; have n1_ := bst HB hb; clear BK625; clear HB; have BK625 := n0_; have HB := n1_; clear n0_ n1_; (try clear hb); (try clear hb2); (try clear hk); (try clear hi); have hcz26_0 : w25.cell? ⟨gb625, 0, none⟩ = some (.int .i64 a0_0) := (blk_cell BK625.out 0).trans rfl; have hcz26_1 : w25.cell? ⟨gb625, 1, none⟩ = some (.int .i64 a0_1) := (blk_cell BK625.out 1).trans rfl; have hcz26_2 : w25.cell? ⟨gb625, 2, none⟩ = some (.int .i64 a0_2) := (blk_cell BK625.out 2).trans rfl; have hcz26_3 : w25.cell? ⟨gb625, 3, none⟩ = some (.int .i64 a0_3) := (blk_cell BK625.out 3).trans rfl; have hcz26_4 : w25.cell? ⟨gb625, 4, none⟩ = some (.int .i64 a0_4) := (blk_cell BK625.out 4).trans rfl; have hcz26_5 : w25.cell? ⟨gb625, 5, none⟩ = some (.int .i64 a0_5) := (blk_cell BK625.out 5).trans rfl; have hcz26_6 : w25.cell? ⟨gb625, 6, none⟩ = some (.int .i64 a0_6) := (blk_cell BK625.out 6).trans rfl; have hcz26_7 : w25.cell? ⟨gb625, 7, none⟩ = some (.int .i64 a0_7) := (blk_cell BK625.out 7).trans rfl; have hcz26_8 : w25.cell? ⟨gb625, 8, none⟩ = some (.int .i64 a0_8) := (blk_cell BK625.out 8).trans rfl; have hcz26_9 : w25.cell? ⟨gb625, 9, none⟩ = some (.int .i64 a0_9) := (blk_cell BK625.out 9).trans rfl; have hcz26_10 : w25.cell? ⟨gb625, 10, none⟩ = some (.int .i64 a0_10) := (blk_cell BK625.out 10).trans rfl; have hcz26_11 : w25.cell? ⟨gb625, 11, none⟩ = some (.slice A0_11 l0_11.length c0_11) := (blk_cell BK625.out 11).trans rfl; have hcz26_12 : w25.cell? ⟨gb625, 12, none⟩ = some (.int .i64 a0_12) := (blk_cell BK625.out 12).trans rfl; have hcz26_13 : w25.cell? ⟨gb625, 13, none⟩ = some (.slice A0_13 l0_13.length c0_13) := (blk_cell BK625.out 13).trans rfl; have hfz26_0 := blk_frozen BK625.out 0; have hfz26_1 := blk_frozen BK625.out 1; have hfz26_2 := blk_frozen BK625.out 2; have hfz26_3 := blk_frozen BK625.out 3; have hfz26_4 := blk_frozen BK625.out 4; have hfz26_5 := blk_frozen BK625.out 5; have hfz26_6 := blk_frozen BK625.out 6; have hfz26_7 := blk_frozen BK625.out 7; have hfz26_8 := blk_frozen BK625.out 8; have hfz26_9 := blk_frozen BK625.out 9; have hfz26_10 := blk_frozen BK625.out 10; have hfz26_11 := blk_frozen BK625.out 11; have hfz26_12 := blk_frozen BK625.out 12; have hfz26_13 := blk_frozen BK625.out 13) | ((with_reducible refine gate_callee (f := 52) rfl ?_); refine goesL_ (some 26) rfl rfl Try.func52 (by kernel_rfl) rfl #[.agg #[.int .i64 a0_0, .int .i64 a0_1, .int .i64 a0_2, .int .i64 a0_3, .int .i64 a0_4, .int .i64 a0_5, .int .i64 a0_6, .int .i64 a0_7, .int .i64 a0_8, .int .i64 a0_9, .int .i64 a0_10], .slice A0_11 l0_11.length c0_11, .int .i64 a0_12, .slice A0_13 l0_13.length c0_13, .int .i64 a1] rfl (by (try simp only [List.map_toArray, List.map_cons, List.map_nil]); first | done | rfl | (simp only [List.length_drop, List.length_take]; rfl)) ?_; (with_reducible refine (prefix_How.calls k a0_0 a0_1 a0_2 a0_3 a0_4 a0_5 a0_6 a0_7 a0_8 a0_9 a0_10 _ _ l0_11 a0_12 _ _ l0_13 a1 t628 t629 _ ?side1 ?side2 ?side3 ?side4 A12.out).mono ?_); (case side1 => repeat (first | exact (Kd.C_below HR0_11.out HB.out) | (with_reducible refine Kd.C_alloc ?_ _) | (with_reducible refine Kd.C_drewN ?_ _) | (with_reducible refine Kd.C_drew ?_))); (case side2 => exact HC0_11.out); (case side3 => repeat (first | exact (Kd.C_below HR0_13.out HB.out) | (with_reducible refine Kd.C_alloc ?_ _) | (with_reducible refine Kd.C_drewN ?_ _) | (with_reducible refine Kd.C_drew ?_))); (case side4 => exact HC0_13.out); rintro e w27 ⟨rfl, hb⟩; refine ⟨_, rfl, ?_⟩; have n0_ := bkb BK625 hb; have n1_ := bst HB hb; clear BK625; clear HB; have BK625 := n0_; have HB := n1_; clear n0_ n1_; (try clear hb); (try clear hb2); (try clear hk); (try clear hi); have hcz28_0 : w27.cell? ⟨gb625, 0, none⟩ = some (.int .i64 a0_0) := (blk_cell BK625.out 0).trans rfl; have hcz28_1 : w27.cell? ⟨gb625, 1, none⟩ = some (.int .i64 a0_1) := (blk_cell BK625.out 1).trans rfl; have hcz28_2 : w27.cell? ⟨gb625, 2, none⟩ = some (.int .i64 a0_2) := (blk_cell BK625.out 2).trans rfl; have hcz28_3 : w27.cell? ⟨gb625, 3, none⟩ = some (.int .i64 a0_3) := (blk_cell BK625.out 3).trans rfl; have hcz28_4 : w27.cell? ⟨gb625, 4, none⟩ = some (.int .i64 a0_4) := (blk_cell BK625.out 4).trans rfl; have hcz28_5 : w27.cell? ⟨gb625, 5, none⟩ = some (.int .i64 a0_5) := (blk_cell BK625.out 5).trans rfl; have hcz28_6 : w27.cell? ⟨gb625, 6, none⟩ = some (.int .i64 a0_6) := (blk_cell BK625.out 6).trans rfl; have hcz28_7 : w27.cell? ⟨gb625, 7, none⟩ = some (.int .i64 a0_7) := (blk_cell BK625.out 7).trans rfl; have hcz28_8 : w27.cell? ⟨gb625, 8, none⟩ = some (.int .i64 a0_8) := (blk_cell BK625.out 8).trans rfl; have hcz28_9 : w27.cell? ⟨gb625, 9, none⟩ = some (.int .i64 a0_9) := (blk_cell BK625.out 9).trans rfl; have hcz28_10 : w27.cell? ⟨gb625, 10, none⟩ = some (.int .i64 a0_10) := (blk_cell BK625.out 10).trans rfl; have hcz28_11 : w27.cell? ⟨gb625, 11, none⟩ = some (.slice A0_11 l0_11.length c0_11) := (blk_cell BK625.out 11).trans rfl; have hcz28_12 : w27.cell? ⟨gb625, 12, none⟩ = some (.int .i64 a0_12) := (blk_cell BK625.out 12).trans rfl; have hcz28_13 : w27.cell? ⟨gb625, 13, none⟩ = some (.slice A0_13 l0_13.length c0_13) := (blk_cell BK625.out 13).trans rfl; have hfz28_0 := blk_frozen BK625.out 0; have hfz28_1 := blk_frozen BK625.out 1; have hfz28_2 := blk_frozen BK625.out 2; have hfz28_3 := blk_frozen BK625.out 3; have hfz28_4 := blk_frozen BK625.out 4; have hfz28_5 := blk_frozen BK625.out 5; have hfz28_6 := blk_frozen BK625.out 6; have hfz28_7 := blk_frozen BK625.out 7; have hfz28_8 := blk_frozen BK625.out 8; have hfz28_9 := blk_frozen BK625.out 9; have hfz28_10 := blk_frozen BK625.out 10; have hfz28_11 := blk_frozen BK625.out 11; have hfz28_12 := blk_frozen BK625.out 12; have hfz28_13 := blk_frozen BK625.out 13) | ((with_reducible refine gate_callee (f := 53) rfl ?_); refine goesL_ (some 39) rfl rfl Try.func53 (by kernel_rfl) rfl #[.agg #[.int .i64 a0_0, .int .i64 a0_1, .int .i64 a0_2, .int .i64 a0_3, .int .i64 a0_4, .int .i64 a0_5, .int .i64 a0_6, .int .i64 a0_7, .int .i64 a0_8, .int .i64 a0_9, .int .i64 a0_10], .slice A0_11 l0_11.length c0_11, .int .i64 a0_12, .slice A0_13 l0_13.length c0_13, .int .i64 a1] rfl (by (try simp only [List.map_toArray, List.map_cons, List.map_nil]); first | done | rfl | (simp only [List.length_drop, List.length_take]; rfl)) ?_; (with_reducible refine (revetmentref16_How.calls k a0_0 a0_1 a0_2 a0_3 a0_4 a0_5 a0_6 a0_7 a0_8 a0_9 a0_10 _ _ l0_11 a0_12 _ _ l0_13 a1 t630 t631 _ ?side1 ?side2 ?side3 ?side4 A13.out).mono ?_); (case side1 => repeat (first | exact (Kd.C_below HR0_11.out HB.out) | (with_reducible refine Kd.C_alloc ?_ _) | (with_reducible refine Kd.C_drewN ?_ _) | (with_reducible refine Kd.C_drew ?_))); (case side2 => exact HC0_11.out); (case side3 => repeat (first | exact (Kd.C_below HR0_13.out HB.out) | (with_reducible refine Kd.C_alloc ?_ _) | (with_reducible refine Kd.C_drewN ?_ _) | (with_reducible refine Kd.C_drew ?_))); (case side4 => exact HC0_13.out); rintro e w29 ⟨rfl, hb⟩; refine ⟨_, rfl, ?_⟩; have n0_ := bkb BK625 hb; have n1_ := bst HB hb; clear BK625; clear HB; have BK625 := n0_; have HB := n1_; clear n0_ n1_; (try clear hb); (try clear hb2); (try clear hk); (try clear hi)))
      replace BK625 := Aside0.mk (blk_drew BK625.out)
      replace HB := Aside0.mk (below_drew1 HB.out)
      refine start_ (n := 50) (S := fun w' => w'.cell? ⟨gb625, 0, none⟩ = some (.int .i64 a0_0) ∧ w'.cell? ⟨gb625, 1, none⟩ = some (.int .i64 a0_1) ∧ w'.cell? ⟨gb625, 2, none⟩ = some (.int .i64 a0_2) ∧ w'.cell? ⟨gb625, 3, none⟩ = some (.int .i64 a0_3) ∧ w'.cell? ⟨gb625, 4, none⟩ = some (.int .i64 a0_4) ∧ w'.cell? ⟨gb625, 5, none⟩ = some (.int .i64 a0_5) ∧ w'.cell? ⟨gb625, 6, none⟩ = some (.int .i64 a0_6) ∧ w'.cell? ⟨gb625, 7, none⟩ = some (.int .i64 a0_7) ∧ w'.cell? ⟨gb625, 8, none⟩ = some (.int .i64 a0_8) ∧ w'.cell? ⟨gb625, 9, none⟩ = some (.int .i64 a0_9) ∧ w'.cell? ⟨gb625, 10, none⟩ = some (.int .i64 a0_10) ∧ w'.cell? ⟨gb625, 11, none⟩ = some (.slice A0_11 l0_11.length c0_11) ∧ w'.cell? ⟨gb625, 12, none⟩ = some (.int .i64 a0_12) ∧ w'.cell? ⟨gb625, 13, none⟩ = some (.slice A0_13 l0_13.length c0_13)) (ds := []) (bq 50 0) (by kernel_rfl) rfl rfl ⟨(blk_cell BK625.out 0).trans rfl, (blk_cell BK625.out 1).trans rfl, (blk_cell BK625.out 2).trans rfl, (blk_cell BK625.out 3).trans rfl, (blk_cell BK625.out 4).trans rfl, (blk_cell BK625.out 5).trans rfl, (blk_cell BK625.out 6).trans rfl, (blk_cell BK625.out 7).trans rfl, (blk_cell BK625.out 8).trans rfl, (blk_cell BK625.out 9).trans rfl, (blk_cell BK625.out 10).trans rfl, (blk_cell BK625.out 11).trans rfl, (blk_cell BK625.out 12).trans rfl, (blk_cell BK625.out 13).trans rfl⟩ (fun hHeld => ?_); refine with_tabW revetmentlaw16_PrefixHows.tab5 revetmentlaw16_PrefixHows.bits5 (fun HT_ HW_ => ?_)
      generalize w29.drew = w30 at BK625 HB hHeld ⊢
      apply pu 0 42 (bq 50 1) HT_
      apply pu 1 43 (bq 50 3) HT_
      apply pu 2 44 (bq 50 7) HT_
      apply pu 3 45 (bq 50 15) HT_
      apply pu 4 46 (bq 50 31) HT_
      apply pu 5 47 (bq 50 63) HT_
      apply pu 6 48 (bq 50 127) HT_
      apply pu 7 49 (bq 50 255) HT_
      apply pu 8 50 (bq 50 511) HT_
      apply pu 9 51 (bq 50 1023) HT_
      apply pu 11 53 (bq 50 3071) HT_
      apply pu 13 55 (bq 50 11263) HT_
      apply pu 15 57 (bq 50 44031) HT_
      apply pu 17 59 (bq 50 175103) HT_
      apply pu 19 61 (bq 50 699391) HT_
      apply pu 21 63 (bq 50 2796543) HT_
      apply pu 23 65 (bq 50 11185151) HT_
      apply tu 10 52 (bq 50 11186175) HT_ HW_ hHeld
      apply tu 12 54 (bq 50 11190271) HT_ HW_ hHeld
      apply tu 14 56 (bq 50 11206655) HT_ HW_ hHeld
      apply tu 18 60 (bq 50 11468799) HT_ HW_ hHeld
      apply tu 20 62 (bq 50 12517375) HT_ HW_ hHeld
      apply tu 22 64 (bq 50 16711679) HT_ HW_ hHeld
      refine one_ (i := 16) (N := some 58) (bq 50 16777215) rfl rfl (one_of HT_.out (by kernel_rfl)) (by decide) (fun K hK => ?_)
      refine gs Try.func54 #[.agg #[.int .i64 a0_0, .int .i64 a0_1, .int .i64 a0_2, .int .i64 a0_3, .int .i64 a0_4, .int .i64 a0_5, .int .i64 a0_6, .int .i64 a0_7, .int .i64 a0_8, .int .i64 a0_9, .int .i64 a0_10], .slice A0_11 l0_11.length c0_11, .int .i64 a0_12, .int .i64 a2] ?_
      with_reducible refine (prefix_Whole.calls a0_0 a0_1 a0_2 a0_3 a0_4 a0_5 a0_6 a0_7 a0_8 a0_9 a0_10 _ _ l0_11 a0_12 a2 t632 _ ?side1 ?side2 A16.out).mono ?_
      (case side1 => repeat (first | exact (Kd.C_below HR0_11.out HB.out) | (with_reducible refine Kd.C_alloc ?_ _) | (with_reducible refine Kd.C_drewN ?_ _) | (with_reducible refine Kd.C_drew ?_)))
      (case side2 => exact HC0_11.out)
      rintro e w31 ⟨rfl, hb⟩
      refine ⟨_, rfl, ?_⟩
      replace BK625 := bkb BK625 hb
      replace HB := bst HB hb
      try clear hb; try clear hb2; try clear hk; try clear hi
      refine hK.out _ _ sc (fun hHeld => ?_)
      clear hK K
      apply nm 0
      refine one_ (i := 24) (N := some 66) (bq 50 33554431) rfl rfl (one_of HT_.out (by kernel_rfl)) (by decide) (fun K hK => ?_)
      refine gs Try.func55 #[.agg #[.int .i64 a0_0, .int .i64 a0_1, .int .i64 a0_2, .int .i64 a0_3, .int .i64 a0_4, .int .i64 a0_5, .int .i64 a0_6, .int .i64 a0_7, .int .i64 a0_8, .int .i64 a0_9, .int .i64 a0_10], .slice A0_11 l0_11.length c0_11, .int .i64 a0_12, .int .i64 a2] ?_
      with_reducible refine (revetmentref16_Whole.calls a0_0 a0_1 a0_2 a0_3 a0_4 a0_5 a0_6 a0_7 a0_8 a0_9 a0_10 _ _ l0_11 a0_12 a2 t633 _ ?side1 ?side2 A17.out).mono ?_
      (case side1 => repeat (first | exact (Kd.C_below HR0_11.out HB.out) | (with_reducible refine Kd.C_alloc ?_ _) | (with_reducible refine Kd.C_drewN ?_ _) | (with_reducible refine Kd.C_drew ?_)))
      (case side2 => exact HC0_11.out)
      rintro e w32 ⟨rfl, hb⟩
      refine ⟨_, rfl, ?_⟩
      replace BK625 := bkb BK625 hb
      replace HB := bst HB hb
      try clear hb; try clear hb2; try clear hk; try clear hi
      refine hK.out _ _ sc (fun hHeld => ?_)
      clear hK K
      apply nm 0
      apply pu 25 67 (bq 50 67108863) HT_
      apply pu 26 68 (bq 50 134217727) HT_
      apply pu 27 69 (bq 50 268435455) HT_
      apply pu 28 70 (bq 50 536870911) HT_
      apply pu 30 72 (bq 50 1610612735) HT_
      apply pu 32 74 (bq 50 5905580031) HT_
      apply pu 34 76 (bq 50 23085449215) HT_
      apply pu 36 78 (bq 50 91804925951) HT_
      apply pu 38 80 (bq 50 366682832895) HT_
      apply pu 40 82 (bq 50 1466194460671) HT_
      apply pu 42 84 (bq 50 5864240971775) HT_
      apply tu 29 71 (bq 50 5864777842687) HT_ HW_ hHeld
      apply tu 31 73 (bq 50 5866925326335) HT_ HW_ hHeld
      apply tu 33 75 (bq 50 5875515260927) HT_ HW_ hHeld
      apply tu 37 79 (bq 50 6012954214399) HT_ HW_ hHeld
      apply tu 39 81 (bq 50 6562710028287) HT_ HW_ hHeld
      apply tu 41 83 (bq 50 8761733283839) HT_ HW_ hHeld
      refine one_ (i := 35) (N := some 77) (bq 50 8796093022207) rfl rfl (one_of HT_.out (by kernel_rfl)) (by decide) (fun K hK => ?_)
      refine gs Try.func56 #[.agg #[.int .i64 a0_0, .int .i64 a0_1, .int .i64 a0_2, .int .i64 a0_3, .int .i64 a0_4, .int .i64 a0_5, .int .i64 a0_6, .int .i64 a0_7, .int .i64 a0_8, .int .i64 a0_9, .int .i64 a0_10], .slice A0_11 l0_11.length c0_11, .int .i64 a0_12, .int .i64 a3] ?_
      with_reducible refine (prefix_Ragged.calls k a0_0 a0_1 a0_2 a0_3 a0_4 a0_5 a0_6 a0_7 a0_8 a0_9 a0_10 _ _ l0_11 a0_12 a3 t634 _ ?side1 ?side2 A19.out).mono ?_
      (case side1 => repeat (first | exact (Kd.C_below HR0_11.out HB.out) | (with_reducible refine Kd.C_alloc ?_ _) | (with_reducible refine Kd.C_drewN ?_ _) | (with_reducible refine Kd.C_drew ?_)))
      (case side2 => exact HC0_11.out)
      rintro e w33 ⟨rfl, hb⟩
      refine ⟨_, rfl, ?_⟩
      replace BK625 := bkb BK625 hb
      replace HB := bst HB hb
      try clear hb; try clear hb2; try clear hk; try clear hi
      refine hK.out _ _ sc (fun hHeld => ?_)
      clear hK K
      apply nm 0
      refine one_ (i := 43) (N := some 85) (bq 50 17592186044415) rfl rfl (one_of HT_.out (by kernel_rfl)) (by decide) (fun K hK => ?_)
      refine gs Try.func57 #[.agg #[.int .i64 a0_0, .int .i64 a0_1, .int .i64 a0_2, .int .i64 a0_3, .int .i64 a0_4, .int .i64 a0_5, .int .i64 a0_6, .int .i64 a0_7, .int .i64 a0_8, .int .i64 a0_9, .int .i64 a0_10], .slice A0_11 l0_11.length c0_11, .int .i64 a0_12, .int .i64 a3] ?_
      with_reducible refine (revetmentref16_Ragged.calls k a0_0 a0_1 a0_2 a0_3 a0_4 a0_5 a0_6 a0_7 a0_8 a0_9 a0_10 _ _ l0_11 a0_12 a3 t635 _ ?side1 ?side2 A20.out).mono ?_
      (case side1 => repeat (first | exact (Kd.C_below HR0_11.out HB.out) | (with_reducible refine Kd.C_alloc ?_ _) | (with_reducible refine Kd.C_drewN ?_ _) | (with_reducible refine Kd.C_drew ?_)))
      (case side2 => exact HC0_11.out)
      rintro e w34 ⟨rfl, hb⟩
      refine ⟨_, rfl, ?_⟩
      replace BK625 := bkb BK625 hb
      replace HB := bst HB hb
      try clear hb; try clear hb2; try clear hk; try clear hi
      refine hK.out _ _ sc (fun hHeld => ?_)
      clear hK K
      apply nm 0
      apply pu 44 86 (bq 50 35184372088831) HT_
      apply pu 45 87 (bq 50 70368744177663) HT_
      apply pu 46 88 (bq 50 140737488355327) HT_
      refine one_ (i := 47) (N := some 89) (bq 50 281474976710655) rfl rfl (one_of HT_.out (by kernel_rfl)) (by decide) (fun K hK => ?_)
      refine gs Try.func47 #[] ?_
      with_reducible refine (revetmentlaw16_live.calls  true _ A22.out).mono ?_
      rintro e w35 ⟨rfl, hb⟩
      refine ⟨_, rfl, ?_⟩
      replace BK625 := bkb BK625 hb
      replace HB := bst HB hb
      try clear hb; try clear hb2; try clear hk; try clear hi
      refine hK.out _ _ sc (fun hHeld => ?_)
      clear hK K
      apply nm 0
      apply pu 48 90 (bq 50 562949953421311) HT_
      apply pu 49 8 (bq 50 1125899906842623) HT_
      refine done_ (done_of HT_.out (by kernel_rfl)) ?_
      try go_wp2
      go_ret
      exact ⟨by first | rfl | (simp [errW_none, errW_some] <;> rfl) | (simp [*, errW_none, errW_some] <;> rfl), bl HB⟩
     ·rw [if_neg c21] at H
      have c21b0 : (t634 == t635) = false := by simpa using c21
      (try (have c21b1 : decide (t634 = t635) = false := by simpa using c21))
      (try (have c21b2 : (t634 == t635) = false := by simpa using c21))
      (try (have c21b3 : ¬ (t634 = t635) := by simpa using c21))
      clear c21
      exact absurd H (by simp)
    ·rw [if_neg c18] at H
     have c18b0 : (t632 == t633) = false := by simpa using c18
     (try (have c18b1 : decide (t632 = t633) = false := by simpa using c18))
     (try (have c18b2 : (t632 == t633) = false := by simpa using c18))
     (try (have c18b3 : ¬ (t632 = t633) := by simpa using c18))
     clear c18
     exact absurd H (by simp)
   ·rw [if_neg c15] at H
    have c15b0 : (t629 == t631) = false := beq_eq_false_iff_ne.mpr c15
    have c15b1 : (t629 != t631) = true := bne_iff_ne.mpr c15
    exact absurd H (by simp)
  ·rw [if_neg c14] at H
   have c14b0 : (t628 == t630) = false := beq_eq_false_iff_ne.mpr c14
   have c14b1 : (t628 != t630) = true := bne_iff_ne.mpr c14
   exact absurd H (by simp)end Go.Proofs.Ytekihhbihnmakaa.PA
