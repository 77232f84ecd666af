/- Printed by the kit's print over stand-ins for some functions (xprint.py), with contracts of my own in their place. -/
import Derived.Test.YtekihhbihnmakaaPAx0
import Derived.Test.YtekihhbihnmakaaPAx20
import Derived.Test.YtekihhbihnmakaaPAx36
namespace Go.Proofs.Ytekihhbihnmakaa.PA
open Go.RowKit Go.Proofs.YtekihhbihnmakaaW.PrintWords Go.Proofs.YtekihhbihnmakaaW.PrintLast
set_option linter.unusedVariables false
set_option linter.unusedSimpArgs false

/-! ### revetmentref16_Ragged: function 57 -/
def revetmentref16_Ragged.l0 : Nat → List Int → Int → Int → Int → Int → Int → Int → Int → Int → Int → Int → Int → Int → Int → Int → Option (Bool)
  | 0, _, _, _, _, _, _, _, _, _, _, _, _, _, _, _ => none
  | k + 1, x1, x2, x3, x9, x622000, x622001, x622002, x622003, x622004, x622005, x622006, x622007, x622008, x622009, x622010 => if x9 < x622001 then (if x9 = x2 then (revetmentref16_Ragged.l0 k x1 x2 x3 (wrap64 (x9 + 1)) x622000 x622001 x622002 x622003 x622004 x622005 x622006 x622007 x622008 x622009 x622010) else (if 0 ≤ x9 then (if x9 < (x1.length : Int) then ((revetmentref08_Need.f k x622000 x622001 x622002 x622003 x622004 x622005 x622006 x622007 x622008 x622009 x622010 x9 x3).bind fun t624 => (if (rd x1 x9) > t624 then (some true) else (revetmentref16_Ragged.l0 k x1 x2 x3 (wrap64 (x9 + 1)) x622000 x622001 x622002 x622003 x622004 x622005 x622006 x622007 x622008 x622009 x622010))) else (none)) else (none))) else (some false)
def revetmentref16_Ragged.f (k : Nat) (a0_0 : Int) (a0_1 : Int) (a0_2 : Int) (a0_3 : Int) (a0_4 : Int) (a0_5 : Int) (a0_6 : Int) (a0_7 : Int) (a0_8 : Int) (a0_9 : Int) (a0_10 : Int) (l1 : List Int) (a2 : Int) (a3 : Int) : Option (Bool) := (revetmentref16_Right.f a0_0 a0_1 a0_2 a0_3 a0_4 a0_5 a0_6 a0_7 a0_8 a0_9 a0_10 l1).bind fun t622 => (if t622 = true then (revetmentref16_Ragged.l0 k l1 a2 a3 0 a0_0 a0_1 a0_2 a0_3 a0_4 a0_5 a0_6 a0_7 a0_8 a0_9 a0_10) else (some false))
theorem revetmentref16_Ragged.mono_l : ∀ k, (∀ y0 y1 y2 y3 y4 y5 y6 y7 y8 y9 y10 y11 y12 y13 y14, LeO (revetmentref16_Ragged.l0 k y0 y1 y2 y3 y4 y5 y6 y7 y8 y9 y10 y11 y12 y13 y14) (revetmentref16_Ragged.l0 (k + 1) y0 y1 y2 y3 y4 y5 y6 y7 y8 y9 y10 y11 y12 y13 y14))
 | 0 => fun _ _ _ _ _ _ _ _ _ _ _ _ _ _ _ r h => by simp [revetmentref16_Ragged.l0] at h
 | k + 1 => by
  have ih0 := revetmentref16_Ragged.mono_l k
  ·intro y0 y1 y2 y3 y4 y5 y6 y7 y8 y9 y10 y11 y12 y13 y14
   unfold revetmentref16_Ragged.l0
   repeat' first
   | (with_reducible exact ih0 _ _ _ _ _ _ _ _ _ _ _ _ _ _ _)
   | (with_reducible exact revetmentref08_Need.mono _ _ _ _ _ _ _ _ _ _ _ _ _ _)
   | (with_reducible exact LeO.refl _)
   | (with_reducible exact LeO.none _)
   | (with_reducible refine LeO.ite ?_ ?_)
   | (with_reducible refine LeO.bind ?_ (fun _ => ?_))
   | exact ih0 _ _ _ _ _ _ _ _ _ _ _ _ _ _ _
   | exact revetmentref08_Need.mono _ _ _ _ _ _ _ _ _ _ _ _ _ _
   | exact LeO.none _
   | refine LeO.ite ?_ ?_
   | refine LeO.bind ?_ (fun _ => ?_)
theorem revetmentref16_Ragged.mono : ∀ a0 a1 a2 a3 a4 a5 a6 a7 a8 a9 a10 a11 a12 a13 k, LeO (revetmentref16_Ragged.f k a0 a1 a2 a3 a4 a5 a6 a7 a8 a9 a10 a11 a12 a13) (revetmentref16_Ragged.f (k + 1) a0 a1 a2 a3 a4 a5 a6 a7 a8 a9 a10 a11 a12 a13) := by
 intro a0 a1 a2 a3 a4 a5 a6 a7 a8 a9 a10 a11 a12 a13 k
 have ih0 := revetmentref16_Ragged.mono_l k
 unfold revetmentref16_Ragged.f
 repeat' first
   | (with_reducible exact ih0 _ _ _ _ _ _ _ _ _ _ _ _ _ _ _)
   | (with_reducible exact revetmentref08_Need.mono _ _ _ _ _ _ _ _ _ _ _ _ _ _)
   | (with_reducible exact LeO.refl _)
   | (with_reducible exact LeO.none _)
   | (with_reducible refine LeO.ite ?_ ?_)
   | (with_reducible refine LeO.bind ?_ (fun _ => ?_))
   | exact ih0 _ _ _ _ _ _ _ _ _ _ _ _ _ _ _
   | exact revetmentref08_Need.mono _ _ _ _ _ _ _ _ _ _ _ _ _ _
   | exact LeO.none _
   | refine LeO.ite ?_ ?_
   | refine LeO.bind ?_ (fun _ => ?_)
def revetmentref16_Ragged.T6 : Bool × List (List Nat × List Nat) := (true, [([], []), ([], []), ([0, 1], [0, 1]), ([2], [2]), ([3], [3]), ([3], [3]), ([4, 5, 3], [3, 4, 5]), ([6, 3], [3, 6]), ([3], [3]), ([3], [3]), ([3], [3]), ([8, 9, 10, 3, 3], [3, 8, 9, 10]), ([7, 11, 3], [3, 7, 11]), ([3, 12], [3, 12])])
def revetmentref16_Ragged.B6 : List Nat := [0, 0, 3, 7, 15, 15, 63, 127, 15, 15, 15, 1807, 4095, 8191]
theorem revetmentref16_Ragged.tab6 : rtab .any (opsOf Try.f57 6) = revetmentref16_Ragged.T6 := by kernel_rfl
theorem revetmentref16_Ragged.bits6 : waitsOk revetmentref16_Ragged.T6.2 revetmentref16_Ragged.B6 = true := by kernel_rfl
set_option maxHeartbeats 8000000 in
set_option maxRecDepth 100000 in
theorem revetmentref16_Ragged.calls (k : Nat) (a0_0 : Int) (a0_1 : Int) (a0_2 : Int) (a0_3 : Int) (a0_4 : Int) (a0_5 : Int) (a0_6 : Int) (a0_7 : Int) (a0_8 : Int) (a0_9 : Int) (a0_10 : Int) (A1 : Option Addr) (c1 : Nat) (l1 : List Int) (a2 : Int) (a3 : Int) (r : Bool) (w : World) (hr1 : Kd.C (Kd.int .i64) w A1 l1.length l1) (hc1 : l1.length ≤ c1) (h : revetmentref16_Ragged.f k a0_0 a0_1 a0_2 a0_3 a0_4 a0_5 a0_6 a0_7 a0_8 a0_9 a0_10 l1 a2 a3 = some r) :
  Calls Try.prog 57 #[.agg #[.int .i64 a0_0, .int .i64 a0_1, .int .i64 a0_2, .int .i64 a0_3, .int .i64 a0_4, .int .i64 a0_5, .int .i64 a0_6, .int .i64 a0_7, .int .i64 a0_8, .int .i64 a0_9, .int .i64 a0_10], .slice A1 l1.length c1, .int .i64 a2, .int .i64 a3] w fun e w' => e = .returned (.bool r) ∧ Below w.heap.size w w' := by
 have hu23 := Try.underlying23
 have HR1 := Aside0.mk hr1
 have HC1 := Aside0.mk hc1
 clear hr1 hc1
 have HB := Aside0.mk (Below.refl w.heap.size w)
 have H : ((revetmentref16_Right.f a0_0 a0_1 a0_2 a0_3 a0_4 a0_5 a0_6 a0_7 a0_8 a0_9 a0_10 l1).bind fun t622 => (if t622 = true then (revetmentref16_Ragged.l0 k l1 a2 a3 0 a0_0 a0_1 a0_2 a0_3 a0_4 a0_5 a0_6 a0_7 a0_8 a0_9 a0_10) else (some false))) = some r := h
 clear h
 replace H := Option.bind_eq_some_iff.mp H
 obtain ⟨t622, A50, H⟩ := H
 replace H : (if t622 = true then (revetmentref16_Ragged.l0 k l1 a2 a3 0 a0_0 a0_1 a0_2 a0_3 a0_4 a0_5 a0_6 a0_7 a0_8 a0_9 a0_10) else (some false)) = some r := H
 have A5 := Aside0.mk A50
 clear A50
 by_cases c6 : t622 = true
 ·subst c6
  have H1 : (revetmentref16_Ragged.l0 k l1 a2 a3 0 a0_0 a0_1 a0_2 a0_3 a0_4 a0_5 a0_6 a0_7 a0_8 a0_9 a0_10) = some r := by rw [if_pos rfl] at H; exact H
  clear H
  have H := H1
  clear H1
  have H' := Aside0.mk H
  clear H
  go_enter Try.func57, Try.ntmps57
  go_wp2_with (first | ((with_reducible refine gate_dst (N := 4) rfl ?_); refine box_event ?hg (N := 4) ?hd (cs := #[.int .i64 a0_0, .int .i64 a0_1, .int .i64 a0_2, .int .i64 a0_3, .int .i64 a0_4, .int .i64 a0_5, .int .i64 a0_6, .int .i64 a0_7, .int .i64 a0_8, .int .i64 a0_9, .int .i64 a0_10]) (t := 23) ?hr ?_; (case hd => rfl); (case hg => rfl); (case hr => first | (go_simp; done) | (go_simp; rfl)); intro gb621 hg w7 hbox hb; have n0_ := bst HB hb; have n1_ := Aside0.mk (hbox); have n2_ := Aside0.mk ((by rw [hg]; exact (below_size (bl HB)) : w.heap.size ≤ gb621)); have n3_ := Aside0.mk ((by rw [hg]; exact (below_size (bl HB)) : w.heap.size ≤ gb621)); clear HB; have HB := n0_; have BK621 := n1_; have GW621 := n2_; have GE621 := n3_; clear n0_ n1_ n2_ n3_; clear hb hbox hg; obtain ⟨hcz8_0, hcz8_1, hcz8_2, hcz8_3, hcz8_4, hcz8_5, hcz8_6, hcz8_7, hcz8_8, hcz8_9, hcz8_10⟩ := cz11 BK621.out) | ((with_reducible refine gate_callee (f := 84) rfl ?_); refine goesL_ (some 12) rfl rfl Try.func84 (by kernel_rfl) rfl #[.agg #[.int .i64 a0_0, .int .i64 a0_1, .int .i64 a0_2, .int .i64 a0_3, .int .i64 a0_4, .int .i64 a0_5, .int .i64 a0_6, .int .i64 a0_7, .int .i64 a0_8, .int .i64 a0_9, .int .i64 a0_10], .slice A1 l1.length c1] rfl (by (try simp only [List.map_toArray, List.map_cons, List.map_nil]); first | done | rfl | (simp only [List.length_drop, List.length_take]; rfl)) ?_; (with_reducible refine (revetmentref16_Right.calls a0_0 a0_1 a0_2 a0_3 a0_4 a0_5 a0_6 a0_7 a0_8 a0_9 a0_10 _ _ l1 true _ ?side1 ?side2 A5.out).mono ?_); (case side1 => repeat (first | exact (Kd.C_below HR1.out HB.out) | (with_reducible refine Kd.C_alloc ?_ _) | (with_reducible refine Kd.C_drewN ?_ _) | (with_reducible refine Kd.C_drew ?_))); (case side2 => exact HC1.out); rintro e w9 ⟨rfl, hb⟩; refine ⟨_, rfl, ?_⟩; have n0_ := bkb BK621 hb; have n1_ := bst HB hb; clear BK621; clear HB; have BK621 := n0_; have HB := n1_; clear n0_ n1_; (try clear hb); (try clear hb2); (try clear hk); (try clear hi)))
  go_loopg [9] k (fun kq v9 w' => ∃ (x9_1 : Int), v9 = .int .i64 x9_1 ∧ Aside0 (revetmentref16_Ragged.l0 kq l1 a2 a3 x9_1 a0_0 a0_1 a0_2 a0_3 a0_4 a0_5 a0_6 a0_7 a0_8 a0_9 a0_10 = some r) ∧ Aside0 (kq ≤ k) ∧ Aside0 (w'.heap[gb621]? = some (.cells #[.int .i64 a0_0, .int .i64 a0_1, .int .i64 a0_2, .int .i64 a0_3, .int .i64 a0_4, .int .i64 a0_5, .int .i64 a0_6, .int .i64 a0_7, .int .i64 a0_8, .int .i64 a0_9, .int .i64 a0_10] 23 (0, 0))) ∧ Aside0 (Below w.heap.size w w'))
  case atStart => exact ⟨(0), (by first | rfl | (simp; done) | (simp [*]; done)), H', ⟨Nat.le_refl _⟩, ⟨by (with_reducible repeat (first | refine blk_drewN ?_ _ | refine blk_drew ?_ | refine blk_alloc ?_ _)); exact BK621.out⟩, ⟨bl HB⟩⟩
  case round =>
   clear H'
   try clear c1
   try clear p2
   try clear c5
   try clear c6
   try clear c8
   (try clear hcz8_0 hcz8_1)
   (try clear hcz8_10)
   (try clear hcz8_2 hcz8_3 hcz8_4 hcz8_5 hcz8_6 hcz8_7 hcz8_8 hcz8_9)
   (try clear hfz8_0 hfz8_1)
   (try clear hfz8_10)
   (try clear hfz8_2 hfz8_3 hfz8_4 hfz8_5 hfz8_6 hfz8_7 hfz8_8 hfz8_9)
   obtain ⟨x9_1, rfl, HA, HK1, BK621, HB⟩ := hrel
   cases gk with
   | zero => exact absurd HA.out (by simp [revetmentref16_Ragged.l0])
   | succ k1 =>
    have H := HA.out
    clear HA
    simp only [revetmentref16_Ragged.l0] at H
    by_cases c10 : x9_1 < a0_1
    ·rw [if_pos c10] at H
     have c10b0 : decide (x9_1 < a0_1) = true := decide_eq_true c10
     clear c10
     by_cases c11 : x9_1 = a2
     ·rw [if_pos c11] at H
      have c11b0 : (x9_1 == a2) = true := beq_iff_eq.mpr c11
      have c11b1 : (x9_1 != a2) = false := bne_eq_false_iff_eq.mpr c11
      clear c11
      have H' := Aside0.mk H
      clear H
      obtain ⟨hcz12_0, hcz12_1, hcz12_2, hcz12_3, hcz12_4, hcz12_5, hcz12_6, hcz12_7, hcz12_8, hcz12_9, hcz12_10⟩ := cz11 BK621.out
      try go_wp2
      replace BK621 := Aside0.mk (blk_drew BK621.out)
      replace HB := Aside0.mk (below_drew1 HB.out)
      refine start_ (n := 14) (S := fun w' => True) (ds := []) (bq 14 0) (by kernel_rfl) rfl rfl trivial (fun hHeld => ?_); refine with_tabW revetmentref16_Ragged.tab6 revetmentref16_Ragged.bits6 (fun HT_ HW_ => ?_)
      generalize wr.drew = w13 at BK621 HB hHeld ⊢
      apply pu 0 20 (bq 14 1) HT_
      apply pu 1 21 (bq 14 3) HT_
      apply pu 2 22 (bq 14 7) HT_
      apply pu 3 23 (bq 14 15) HT_
      apply po 4 24 (bq 14 31) HT_
      apply po 5 25 (bq 14 63) HT_
      apply po 6 26 (bq 14 127) HT_
      apply po 7 27 (bq 14 255) HT_
      apply po 8 28 (bq 14 511) HT_
      apply po 9 29 (bq 14 1023) HT_
      apply po 10 30 (bq 14 2047) HT_
      apply po 11 31 (bq 14 4095) HT_
      apply po 12 32 (bq 14 8191) HT_
      apply pu 13 33 (bq 14 16383) HT_
      refine done_ (done_of HT_.out (by kernel_rfl)) ?_
      try go_wp2
      go_roundg k1
      case measure => have := HK1.out; omega
      case rel => exact ⟨(wrap64 (x9_1 + 1)), (by first | rfl | (simp; done) | (simp [*]; done)), H', ⟨by have := HK1.out; omega⟩, ⟨by (with_reducible repeat (first | refine blk_drewN ?_ _ | refine blk_drew ?_ | refine blk_alloc ?_ _)); exact BK621.out⟩, ⟨bl HB⟩⟩
     ·rw [if_neg c11] at H
      have c11b0 : (x9_1 == a2) = false := beq_eq_false_iff_ne.mpr c11
      have c11b1 : (x9_1 != a2) = true := bne_iff_ne.mpr c11
      by_cases c14 : 0 ≤ x9_1
      ·rw [if_pos c14] at H
       have c14b0 : decide (0 ≤ x9_1) = true := decide_eq_true c14
       clear c14
       by_cases c15 : x9_1 < (l1.length : Int)
       ·rw [if_pos c15] at H
        have c15b0 : decide (x9_1 < (l1.length : Int)) = true := decide_eq_true c15
        clear c15
        replace H := Option.bind_eq_some_iff.mp H
        obtain ⟨t624, A160, H⟩ := H
        replace H : (if (rd l1 x9_1) > t624 then (some true) else (revetmentref16_Ragged.l0 k1 l1 a2 a3 (wrap64 (x9_1 + 1)) a0_0 a0_1 a0_2 a0_3 a0_4 a0_5 a0_6 a0_7 a0_8 a0_9 a0_10)) = some r := H
        have A16 := Aside0.mk A160
        clear A160
        by_cases c17 : (rd l1 x9_1) > t624
        ·rw [if_pos c17] at H
         have c17b0 : decide (t624 < (rd l1 x9_1)) = true := decide_eq_true c17
         clear c17
         obtain rfl := Option.some.inj H
         obtain ⟨hcz18_0, hcz18_1, hcz18_2, hcz18_3, hcz18_4, hcz18_5, hcz18_6, hcz18_7, hcz18_8, hcz18_9, hcz18_10⟩ := cz11 BK621.out
         try go_wp2
         replace BK621 := Aside0.mk (blk_drew BK621.out)
         replace HB := Aside0.mk (below_drew1 HB.out)
         have p623 : 0 ≤ (x9_1 : Int) := of_decide_eq_true (by first | (with_reducible assumption) | assumption)
         have q623 : x9_1 < (l1.length : Int) := of_decide_eq_true (by first | (with_reducible assumption) | assumption)
         obtain ⟨ad623, e623, hx623_0⟩ := Kd.at_int HR1.out x9_1 p623 q623
         have hw623_0 := hx623_0
         cases e623
         replace hx623_0 := (HB.out.cell (World.block_lt_of_cell? w _ hx623_0)).trans hx623_0
         replace p623 := eq_true p623
         replace q623 := eq_true q623
         refine start_ (n := 14) (S := fun w' => w'.cell? ⟨gb621, 0, none⟩ = some (.int .i64 a0_0) ∧ w'.cell? ⟨gb621, 1, none⟩ = some (.int .i64 a0_1) ∧ w'.cell? ⟨gb621, 2, none⟩ = some (.int .i64 a0_2) ∧ w'.cell? ⟨gb621, 3, none⟩ = some (.int .i64 a0_3) ∧ w'.cell? ⟨gb621, 4, none⟩ = some (.int .i64 a0_4) ∧ w'.cell? ⟨gb621, 5, none⟩ = some (.int .i64 a0_5) ∧ w'.cell? ⟨gb621, 6, none⟩ = some (.int .i64 a0_6) ∧ w'.cell? ⟨gb621, 7, none⟩ = some (.int .i64 a0_7) ∧ w'.cell? ⟨gb621, 8, none⟩ = some (.int .i64 a0_8) ∧ w'.cell? ⟨gb621, 9, none⟩ = some (.int .i64 a0_9) ∧ w'.cell? ⟨gb621, 10, none⟩ = some (.int .i64 a0_10) ∧ w'.cell? (ad623.add (x9_1).toNat) = some (.int .i64 (rd l1 x9_1))) (ds := []) (bq 14 0) (by kernel_rfl) rfl rfl ⟨(blk_cell BK621.out 0).trans rfl, (blk_cell BK621.out 1).trans rfl, (blk_cell BK621.out 2).trans rfl, (blk_cell BK621.out 3).trans rfl, (blk_cell BK621.out 4).trans rfl, (blk_cell BK621.out 5).trans rfl, (blk_cell BK621.out 6).trans rfl, (blk_cell BK621.out 7).trans rfl, (blk_cell BK621.out 8).trans rfl, (blk_cell BK621.out 9).trans rfl, (blk_cell BK621.out 10).trans rfl, ((HB.out.cell (World.block_lt_of_cell? w _ hw623_0)).trans hw623_0)⟩ (fun hHeld => ?_); refine with_tabW revetmentref16_Ragged.tab6 revetmentref16_Ragged.bits6 (fun HT_ HW_ => ?_)
         generalize wr.drew = w19 at BK621 HB hx623_0 hHeld ⊢
         apply pu 0 20 (bq 14 1) HT_
         apply pu 1 21 (bq 14 3) HT_
         apply pu 2 22 (bq 14 7) HT_
         apply pu 3 23 (bq 14 15) HT_
         apply pu 4 24 (bq 14 31) HT_
         apply pu 5 25 (bq 14 63) HT_
         apply pu 6 26 (bq 14 127) HT_
         apply pu 9 29 (bq 14 639) HT_
         apply pu 10 30 (bq 14 1663) HT_
         apply tu 7 27 (bq 14 1791) HT_ HW_ hHeld
         apply tu 8 28 (bq 14 2047) HT_ HW_ hHeld
         refine one_ (i := 11) (N := some 31) (bq 14 4095) rfl rfl (one_of HT_.out (by kernel_rfl)) (by decide) (fun K hK => ?_)
         refine gs Try.func30 #[.agg #[.int .i64 a0_0, .int .i64 a0_1, .int .i64 a0_2, .int .i64 a0_3, .int .i64 a0_4, .int .i64 a0_5, .int .i64 a0_6, .int .i64 a0_7, .int .i64 a0_8, .int .i64 a0_9, .int .i64 a0_10], .int .i64 x9_1, .int .i64 a3] ?_
         with_reducible refine (revetmentref08_Need.calls k1 a0_0 a0_1 a0_2 a0_3 a0_4 a0_5 a0_6 a0_7 a0_8 a0_9 a0_10 x9_1 a3 t624 _ A16.out).mono ?_
         rintro e w20 ⟨rfl, hb⟩
         refine ⟨_, rfl, ?_⟩
         replace BK621 := bkb BK621 hb
         replace HB := bst HB hb
         try clear hb; try clear hb2; try clear hk; try clear hi
         refine hK.out _ _ ⟨(blk_cell BK621.out 0).trans rfl, (blk_cell BK621.out 1).trans rfl, (blk_cell BK621.out 2).trans rfl, (blk_cell BK621.out 3).trans rfl, (blk_cell BK621.out 4).trans rfl, (blk_cell BK621.out 5).trans rfl, (blk_cell BK621.out 6).trans rfl, (blk_cell BK621.out 7).trans rfl, (blk_cell BK621.out 8).trans rfl, (blk_cell BK621.out 9).trans rfl, (blk_cell BK621.out 10).trans rfl, ((HB.out.cell (World.block_lt_of_cell? w _ hw623_0)).trans hw623_0)⟩ (fun hHeld => ?_)
         clear hK K
         apply nm 0
         apply pu 12 32 (bq 14 8191) HT_
         apply pu 13 33 (bq 14 16383) HT_
         refine done_ (done_of HT_.out (by kernel_rfl)) ?_
         try go_wp2
         go_ret
         exact ⟨by first | rfl | (simp [errW_none, errW_some] <;> rfl) | (simp [*, errW_none, errW_some] <;> rfl), bl HB⟩
        ·rw [if_neg c17] at H
         have c17b0 : decide (t624 < (rd l1 x9_1)) = false := decide_eq_false c17
         clear c17
         have H' := Aside0.mk H
         clear H
         obtain ⟨hcz21_0, hcz21_1, hcz21_2, hcz21_3, hcz21_4, hcz21_5, hcz21_6, hcz21_7, hcz21_8, hcz21_9, hcz21_10⟩ := cz11 BK621.out
         try go_wp2
         replace BK621 := Aside0.mk (blk_drew BK621.out)
         replace HB := Aside0.mk (below_drew1 HB.out)
         have p623 : 0 ≤ (x9_1 : Int) := of_decide_eq_true (by first | (with_reducible assumption) | assumption)
         have q623 : x9_1 < (l1.length : Int) := of_decide_eq_true (by first | (with_reducible assumption) | assumption)
         obtain ⟨ad623, e623, hx623_0⟩ := Kd.at_int HR1.out x9_1 p623 q623
         have hw623_0 := hx623_0
         cases e623
         replace hx623_0 := (HB.out.cell (World.block_lt_of_cell? w _ hx623_0)).trans hx623_0
         replace p623 := eq_true p623
         replace q623 := eq_true q623
         refine start_ (n := 14) (S := fun w' => w'.cell? ⟨gb621, 0, none⟩ = some (.int .i64 a0_0) ∧ w'.cell? ⟨gb621, 1, none⟩ = some (.int .i64 a0_1) ∧ w'.cell? ⟨gb621, 2, none⟩ = some (.int .i64 a0_2) ∧ w'.cell? ⟨gb621, 3, none⟩ = some (.int .i64 a0_3) ∧ w'.cell? ⟨gb621, 4, none⟩ = some (.int .i64 a0_4) ∧ w'.cell? ⟨gb621, 5, none⟩ = some (.int .i64 a0_5) ∧ w'.cell? ⟨gb621, 6, none⟩ = some (.int .i64 a0_6) ∧ w'.cell? ⟨gb621, 7, none⟩ = some (.int .i64 a0_7) ∧ w'.cell? ⟨gb621, 8, none⟩ = some (.int .i64 a0_8) ∧ w'.cell? ⟨gb621, 9, none⟩ = some (.int .i64 a0_9) ∧ w'.cell? ⟨gb621, 10, none⟩ = some (.int .i64 a0_10) ∧ w'.cell? (ad623.add (x9_1).toNat) = some (.int .i64 (rd l1 x9_1))) (ds := []) (bq 14 0) (by kernel_rfl) rfl rfl ⟨(blk_cell BK621.out 0).trans rfl, (blk_cell BK621.out 1).trans rfl, (blk_cell BK621.out 2).trans rfl, (blk_cell BK621.out 3).trans rfl, (blk_cell BK621.out 4).trans rfl, (blk_cell BK621.out 5).trans rfl, (blk_cell BK621.out 6).trans rfl, (blk_cell BK621.out 7).trans rfl, (blk_cell BK621.out 8).trans rfl, (blk_cell BK621.out 9).trans rfl, (blk_cell BK621.out 10).trans rfl, ((HB.out.cell (World.block_lt_of_cell? w _ hw623_0)).trans hw623_0)⟩ (fun hHeld => ?_); refine with_tabW revetmentref16_Ragged.tab6 revetmentref16_Ragged.bits6 (fun HT_ HW_ => ?_)
         generalize wr.drew = w22 at BK621 HB hx623_0 hHeld ⊢
         apply pu 0 20 (bq 14 1) HT_
         apply pu 1 21 (bq 14 3) HT_
         apply pu 2 22 (bq 14 7) HT_
         apply pu 3 23 (bq 14 15) HT_
         apply pu 4 24 (bq 14 31) HT_
         apply pu 5 25 (bq 14 63) HT_
         apply pu 6 26 (bq 14 127) HT_
         apply pu 9 29 (bq 14 639) HT_
         apply pu 10 30 (bq 14 1663) HT_
         apply tu 7 27 (bq 14 1791) HT_ HW_ hHeld
         apply tu 8 28 (bq 14 2047) HT_ HW_ hHeld
         refine one_ (i := 11) (N := some 31) (bq 14 4095) rfl rfl (one_of HT_.out (by kernel_rfl)) (by decide) (fun K hK => ?_)
         refine gs Try.func30 #[.agg #[.int .i64 a0_0, .int .i64 a0_1, .int .i64 a0_2, .int .i64 a0_3, .int .i64 a0_4, .int .i64 a0_5, .int .i64 a0_6, .int .i64 a0_7, .int .i64 a0_8, .int .i64 a0_9, .int .i64 a0_10], .int .i64 x9_1, .int .i64 a3] ?_
         with_reducible refine (revetmentref08_Need.calls k1 a0_0 a0_1 a0_2 a0_3 a0_4 a0_5 a0_6 a0_7 a0_8 a0_9 a0_10 x9_1 a3 t624 _ A16.out).mono ?_
         rintro e w23 ⟨rfl, hb⟩
         refine ⟨_, rfl, ?_⟩
         replace BK621 := bkb BK621 hb
         replace HB := bst HB hb
         try clear hb; try clear hb2; try clear hk; try clear hi
         refine hK.out _ _ ⟨(blk_cell BK621.out 0).trans rfl, (blk_cell BK621.out 1).trans rfl, (blk_cell BK621.out 2).trans rfl, (blk_cell BK621.out 3).trans rfl, (blk_cell BK621.out 4).trans rfl, (blk_cell BK621.out 5).trans rfl, (blk_cell BK621.out 6).trans rfl, (blk_cell BK621.out 7).trans rfl, (blk_cell BK621.out 8).trans rfl, (blk_cell BK621.out 9).trans rfl, (blk_cell BK621.out 10).trans rfl, ((HB.out.cell (World.block_lt_of_cell? w _ hw623_0)).trans hw623_0)⟩ (fun hHeld => ?_)
         clear hK K
         apply nm 0
         apply pu 12 32 (bq 14 8191) HT_
         apply pu 13 33 (bq 14 16383) HT_
         refine done_ (done_of HT_.out (by kernel_rfl)) ?_
         try go_wp2
         go_roundg k1
         case measure => have := HK1.out; omega
         case rel => exact ⟨(wrap64 (x9_1 + 1)), (by first | rfl | (simp; done) | (simp [*]; done)), H', ⟨by have := HK1.out; omega⟩, ⟨by (with_reducible repeat (first | refine blk_drewN ?_ _ | refine blk_drew ?_ | refine blk_alloc ?_ _)); exact BK621.out⟩, ⟨bl HB⟩⟩
       ·rw [if_neg c15] at H
        exact absurd H (by simp)
      ·rw [if_neg c14] at H
       exact absurd H (by simp)
    ·rw [if_neg c10] at H
     have c10b0 : decide (x9_1 < a0_1) = false := decide_eq_false c10
     clear c10
     obtain rfl := Option.some.inj H
     obtain ⟨hcz24_0, hcz24_1, hcz24_2, hcz24_3, hcz24_4, hcz24_5, hcz24_6, hcz24_7, hcz24_8, hcz24_9, hcz24_10⟩ := cz11 BK621.out
     go_wp2
     go_ret
     exact ⟨by first | rfl | (simp [errW_none, errW_some] <;> rfl) | (simp [*, errW_none, errW_some] <;> rfl), bl HB⟩
 ·replace c6 := Bool.eq_false_iff.mpr c6
  subst c6
  have H1 : (some false) = some r := by rw [if_neg (show ¬ (false = true) by decide)] at H; exact H
  clear H
  have H := H1
  clear H1
  obtain rfl := Option.some.inj H
  go_enter Try.func57, Try.ntmps57
  go_wp2_with (first | ((with_reducible refine gate_dst (N := 4) rfl ?_); refine box_event ?hg (N := 4) ?hd (cs := #[.int .i64 a0_0, .int .i64 a0_1, .int .i64 a0_2, .int .i64 a0_3, .int .i64 a0_4, .int .i64 a0_5, .int .i64 a0_6, .int .i64 a0_7, .int .i64 a0_8, .int .i64 a0_9, .int .i64 a0_10]) (t := 23) ?hr ?_; (case hd => rfl); (case hg => rfl); (case hr => first | (go_simp; done) | (go_simp; rfl)); intro gb621 hg w25 hbox hb; have n0_ := bst HB hb; have n1_ := Aside0.mk (hbox); have n2_ := Aside0.mk ((by rw [hg]; exact (below_size (bl HB)) : w.heap.size ≤ gb621)); have n3_ := Aside0.mk ((by rw [hg]; exact (below_size (bl HB)) : w.heap.size ≤ gb621)); clear HB; have HB := n0_; have BK621 := n1_; have GW621 := n2_; have GE621 := n3_; clear n0_ n1_ n2_ n3_; clear hb hbox hg; obtain ⟨hcz26_0, hcz26_1, hcz26_2, hcz26_3, hcz26_4, hcz26_5, hcz26_6, hcz26_7, hcz26_8, hcz26_9, hcz26_10⟩ := cz11 BK621.out) | ((with_reducible refine gate_callee (f := 84) rfl ?_); refine goesL_ (some 12) rfl rfl Try.func84 (by kernel_rfl) rfl #[.agg #[.int .i64 a0_0, .int .i64 a0_1, .int .i64 a0_2, .int .i64 a0_3, .int .i64 a0_4, .int .i64 a0_5, .int .i64 a0_6, .int .i64 a0_7, .int .i64 a0_8, .int .i64 a0_9, .int .i64 a0_10], .slice A1 l1.length c1] rfl (by (try simp only [List.map_toArray, List.map_cons, List.map_nil]); first | done | rfl | (simp only [List.length_drop, List.length_take]; rfl)) ?_; (with_reducible refine (revetmentref16_Right.calls a0_0 a0_1 a0_2 a0_3 a0_4 a0_5 a0_6 a0_7 a0_8 a0_9 a0_10 _ _ l1 false _ ?side1 ?side2 A5.out).mono ?_); (case side1 => repeat (first | exact (Kd.C_below HR1.out HB.out) | (with_reducible refine Kd.C_alloc ?_ _) | (with_reducible refine Kd.C_drewN ?_ _) | (with_reducible refine Kd.C_drew ?_))); (case side2 => exact HC1.out); rintro e w27 ⟨rfl, hb⟩; refine ⟨_, rfl, ?_⟩; have n0_ := bkb BK621 hb; have n1_ := bst HB hb; clear BK621; clear HB; have BK621 := n0_; have HB := n1_; clear n0_ n1_; (try clear hb); (try clear hb2); (try clear hk); (try clear hi)))
  go_ret
  exact ⟨by first | rfl | (simp [errW_none, errW_some] <;> rfl) | (simp [*, errW_none, errW_some] <;> rfl), bl HB⟩

end Go.Proofs.Ytekihhbihnmakaa.PA
