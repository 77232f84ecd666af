/- Printed by the kit's print over stand-ins for some functions (xprint.py), with contracts of my own in their place. -/
import Derived.Test.YtekihhbihnmakaaPAx0
import Derived.Test.YtekihhbihnmakaaPAx5
import Derived.Test.YtekihhbihnmakaaPAx6
namespace Go.Proofs.Ytekihhbihnmakaa.PA
open Go.RowKit Go.Proofs.YtekihhbihnmakaaW.PrintWords Go.Proofs.YtekihhbihnmakaaW.PrintLast
set_option linter.unusedVariables false
set_option linter.unusedSimpArgs false

/-! ### prefix_has: function 86 -/
def prefix_has.l0 : Nat → List Int → Int → Int → Int → Int → Int → Int → Int → Int → Int → Int → Int → Int → Int → Int → Int → Int → Int → Int → Int → Int → Option (Bool)
  | 0, _, _, _, _, _, _, _, _, _, _, _, _, _, _, _, _, _, _, _, _, _ => none
  | k + 1, x1, x3, x9, x18, x19, x590000, x590001, x590002, x590003, x590004, x590005, x590006, x590007, x590008, x590009, x590010, x591000, x591001, x591002, x591003, x591004 => if x19 < x18 then (if x19 = x591001 then (prefix_has.l0 k x1 x3 x9 x18 (wrap64 (x19 + 1)) x590000 x590001 x590002 x590003 x590004 x590005 x590006 x590007 x590008 x590009 x590010 x591000 x591001 x591002 x591003 x591004) else (if (wrap64 ((wrap64 (x9 + (wrap64 (x19 * x590002)))) + x591002)) < x3 then ((geom_Member.f x590000 x590001 x590002 x590003 x590004 x590005 x590006 x590007 x590008 x590009 x590010 x591000 x19).bind fun t593 => (if 0 ≤ t593 then (if t593 < (x1.length : Int) then (if (rd x1 t593) ≤ x591004 then (some false) else (prefix_has.l0 k x1 x3 x9 x18 (wrap64 (x19 + 1)) x590000 x590001 x590002 x590003 x590004 x590005 x590006 x590007 x590008 x590009 x590010 x591000 x591001 x591002 x591003 x591004)) else (none)) else (none))) else (prefix_has.l0 k x1 x3 x9 x18 (wrap64 (x19 + 1)) x590000 x590001 x590002 x590003 x590004 x590005 x590006 x590007 x590008 x590009 x590010 x591000 x591001 x591002 x591003 x591004))) else (some true)
def prefix_has.f (k : Nat) (a0_0 : Int) (a0_1 : Int) (a0_2 : Int) (a0_3 : Int) (a0_4 : Int) (a0_5 : Int) (a0_6 : Int) (a0_7 : Int) (a0_8 : Int) (a0_9 : Int) (a0_10 : Int) (l1 : List Int) (a2_0 : Int) (a2_1 : Int) (a2_2 : Int) (a2_3 : Int) (a2_4 : Int) (a3 : Int) : Option (Bool) := (conf_Row.f a0_0 a0_1 a0_2 a0_3 a0_4 a0_5 a0_6 a0_7 a0_8 a0_9 a0_10).bind fun t591 => ((conf_Data.f a0_0 a0_1 a0_2 a0_3 a0_4 a0_5 a0_6 a0_7 a0_8 a0_9 a0_10).bind fun t592 => (prefix_has.l0 k l1 a3 (wrap64 (a2_0 * t591)) t592 0 a0_0 a0_1 a0_2 a0_3 a0_4 a0_5 a0_6 a0_7 a0_8 a0_9 a0_10 a2_0 a2_1 a2_2 a2_3 a2_4))
theorem prefix_has.mono_l : ∀ k, (∀ y0 y1 y2 y3 y4 y5 y6 y7 y8 y9 y10 y11 y12 y13 y14 y15 y16 y17 y18 y19 y20, LeO (prefix_has.l0 k y0 y1 y2 y3 y4 y5 y6 y7 y8 y9 y10 y11 y12 y13 y14 y15 y16 y17 y18 y19 y20) (prefix_has.l0 (k + 1) y0 y1 y2 y3 y4 y5 y6 y7 y8 y9 y10 y11 y12 y13 y14 y15 y16 y17 y18 y19 y20))
 | 0 => fun _ _ _ _ _ _ _ _ _ _ _ _ _ _ _ _ _ _ _ _ _ r h => by simp [prefix_has.l0] at h
 | k + 1 => by
  have ih0 := prefix_has.mono_l k
  ·intro y0 y1 y2 y3 y4 y5 y6 y7 y8 y9 y10 y11 y12 y13 y14 y15 y16 y17 y18 y19 y20
   unfold prefix_has.l0
   repeat' first
   | (with_reducible exact ih0 _ _ _ _ _ _ _ _ _ _ _ _ _ _ _ _ _ _ _ _ _)
   | (with_reducible exact LeO.refl _)
   | (with_reducible exact LeO.none _)
   | (with_reducible refine LeO.ite ?_ ?_)
   | (with_reducible refine LeO.bind ?_ (fun _ => ?_))
   | exact ih0 _ _ _ _ _ _ _ _ _ _ _ _ _ _ _ _ _ _ _ _ _
   | exact LeO.none _
   | refine LeO.ite ?_ ?_
   | refine LeO.bind ?_ (fun _ => ?_)
theorem prefix_has.mono : ∀ a0 a1 a2 a3 a4 a5 a6 a7 a8 a9 a10 a11 a12 a13 a14 a15 a16 a17 k, LeO (prefix_has.f k a0 a1 a2 a3 a4 a5 a6 a7 a8 a9 a10 a11 a12 a13 a14 a15 a16 a17) (prefix_has.f (k + 1) a0 a1 a2 a3 a4 a5 a6 a7 a8 a9 a10 a11 a12 a13 a14 a15 a16 a17) := by
 intro a0 a1 a2 a3 a4 a5 a6 a7 a8 a9 a10 a11 a12 a13 a14 a15 a16 a17 k
 have ih0 := prefix_has.mono_l k
 unfold prefix_has.f
 repeat' first
   | (with_reducible exact ih0 _ _ _ _ _ _ _ _ _ _ _ _ _ _ _ _ _ _ _ _ _)
   | (with_reducible exact LeO.refl _)
   | (with_reducible exact LeO.none _)
   | (with_reducible refine LeO.ite ?_ ?_)
   | (with_reducible refine LeO.bind ?_ (fun _ => ?_))
   | exact ih0 _ _ _ _ _ _ _ _ _ _ _ _ _ _ _ _ _ _ _ _ _
   | exact LeO.none _
   | refine LeO.ite ?_ ?_
   | refine LeO.bind ?_ (fun _ => ?_)
def prefix_has.T6 : Bool × List (List Nat × List Nat) := (true, [([], []), ([], []), ([1], [1]), ([0, 2], [0, 2]), ([3], [3]), ([4], [4]), ([4], [4]), ([5, 6, 4], [4, 5, 6]), ([4, 7], [4, 7]), ([8, 4], [8]), ([9], [9]), ([9], [9]), ([9], [9]), ([12, 9], [9, 12]), ([9], [9]), ([11, 13, 14, 9, 9], [9, 11, 13, 14]), ([10, 15, 9], [9, 10, 15]), ([16, 9], [9, 16]), ([9], [9]), ([18, 9], [9, 18]), ([17, 19, 9], [9, 17, 19]), ([9, 20], [9, 20])])
def prefix_has.B6 : List Nat := [0, 0, 2, 7, 15, 31, 31, 127, 255, 511, 1023, 1023, 1023, 5119, 1023, 31743, 65535, 131071, 1023, 263167, 1048575, 2097151]
theorem prefix_has.tab6 : rtab .any (opsOf Try.f86 6) = prefix_has.T6 := by kernel_rfl
theorem prefix_has.bits6 : waitsOk prefix_has.T6.2 prefix_has.B6 = true := by kernel_rfl
set_option maxHeartbeats 8000000 in
set_option maxRecDepth 100000 in
theorem prefix_has.calls (k : Nat) (a0_0 : Int) (a0_1 : Int) (a0_2 : Int) (a0_3 : Int) (a0_4 : Int) (a0_5 : Int) (a0_6 : Int) (a0_7 : Int) (a0_8 : Int) (a0_9 : Int) (a0_10 : Int) (A1 : Option Addr) (c1 : Nat) (l1 : List Int) (a2_0 : Int) (a2_1 : Int) (a2_2 : Int) (a2_3 : Int) (a2_4 : Int) (a3 : Int) (r : Bool) (w : World) (hr1 : Kd.C (Kd.int .i64) w A1 l1.length l1) (hc1 : l1.length ≤ c1) (h : prefix_has.f k a0_0 a0_1 a0_2 a0_3 a0_4 a0_5 a0_6 a0_7 a0_8 a0_9 a0_10 l1 a2_0 a2_1 a2_2 a2_3 a2_4 a3 = some r) :
  Calls Try.prog 86 #[.agg #[.int .i64 a0_0, .int .i64 a0_1, .int .i64 a0_2, .int .i64 a0_3, .int .i64 a0_4, .int .i64 a0_5, .int .i64 a0_6, .int .i64 a0_7, .int .i64 a0_8, .int .i64 a0_9, .int .i64 a0_10], .slice A1 l1.length c1, .agg #[.int .i64 a2_0, .int .i64 a2_1, .int .i64 a2_2, .int .i64 a2_3, .int .i64 a2_4], .int .i64 a3] w fun e w' => e = .returned (.bool r) ∧ Below w.heap.size w w' := by
 have hu23 := Try.underlying23
 have hu25 := Try.underlying25
 have HR1 := Aside0.mk hr1
 have HC1 := Aside0.mk hc1
 clear hr1 hc1
 have HB := Aside0.mk (Below.refl w.heap.size w)
 have H : ((conf_Row.f a0_0 a0_1 a0_2 a0_3 a0_4 a0_5 a0_6 a0_7 a0_8 a0_9 a0_10).bind fun t591 => ((conf_Data.f a0_0 a0_1 a0_2 a0_3 a0_4 a0_5 a0_6 a0_7 a0_8 a0_9 a0_10).bind fun t592 => (prefix_has.l0 k l1 a3 (wrap64 (a2_0 * t591)) t592 0 a0_0 a0_1 a0_2 a0_3 a0_4 a0_5 a0_6 a0_7 a0_8 a0_9 a0_10 a2_0 a2_1 a2_2 a2_3 a2_4))) = some r := h
 clear h
 replace H := Option.bind_eq_some_iff.mp H
 obtain ⟨t591, A50, H⟩ := H
 replace H : ((conf_Data.f a0_0 a0_1 a0_2 a0_3 a0_4 a0_5 a0_6 a0_7 a0_8 a0_9 a0_10).bind fun t592 => (prefix_has.l0 k l1 a3 (wrap64 (a2_0 * t591)) t592 0 a0_0 a0_1 a0_2 a0_3 a0_4 a0_5 a0_6 a0_7 a0_8 a0_9 a0_10 a2_0 a2_1 a2_2 a2_3 a2_4)) = some r := H
 have A5 := Aside0.mk A50
 clear A50
 replace H := Option.bind_eq_some_iff.mp H
 obtain ⟨t592, A60, H⟩ := H
 replace H : (prefix_has.l0 k l1 a3 (wrap64 (a2_0 * t591)) t592 0 a0_0 a0_1 a0_2 a0_3 a0_4 a0_5 a0_6 a0_7 a0_8 a0_9 a0_10 a2_0 a2_1 a2_2 a2_3 a2_4) = some r := H
 have A6 := Aside0.mk A60
 clear A60
 have H' := Aside0.mk H
 clear H
 go_enter Try.func86, Try.ntmps86
 try go_wp2_with (first | ((with_reducible refine gate_dst (N := 4) rfl ?_); refine box_event ?hg (N := 4) ?hd (cs := #[.int .i64 a0_0, .int .i64 a0_1, .int .i64 a0_2, .int .i64 a0_3, .int .i64 a0_4, .int .i64 a0_5, .int .i64 a0_6, .int .i64 a0_7, .int .i64 a0_8, .int .i64 a0_9, .int .i64 a0_10]) (t := 23) ?hr ?_; (case hd => rfl); (case hg => rfl); (case hr => first | (go_simp; done) | (go_simp; rfl)); intro gb589 hg w7 hbox hb; have n0_ := bst HB hb; have n1_ := Aside0.mk (hbox); have n2_ := Aside0.mk ((by rw [hg]; exact (below_size (bl HB)) : w.heap.size ≤ gb589)); have n3_ := Aside0.mk ((by rw [hg]; exact (below_size (bl HB)) : w.heap.size ≤ gb589)); clear HB; have HB := n0_; have BK589 := n1_; have GW589 := n2_; have GE589 := n3_; clear n0_ n1_ n2_ n3_; clear hb hbox hg) | ((with_reducible refine gate_dst (N := 6) rfl ?_); refine box_event ?hg (N := 6) ?hd (cs := #[.int .i64 a2_0, .int .i64 a2_1, .int .i64 a2_2, .int .i64 a2_3, .int .i64 a2_4]) (t := 25) ?hr ?_; (case hd => rfl); (case hg => rfl); (case hr => first | (go_simp; done) | (go_simp; rfl)); intro gb590 hg w8 hbox hb; have n0_ := bkb BK589 hb; have n1_ := bst HB hb; have n2_ := Aside0.mk (hbox); have n3_ := Aside0.mk ((by rw [hg]; exact (below_size (bl HB)) : w.heap.size ≤ gb590)); have n4_ := Aside0.mk ((by rw [hg]; exact (below_size (bl HB)) : w.heap.size ≤ gb590)); have n5_ := Aside0.mk ((by rw [hg]; exact Nat.ne_of_lt (blk_lt (g := gb589) (o := .cells #[.int .i64 a0_0, .int .i64 a0_1, .int .i64 a0_2, .int .i64 a0_3, .int .i64 a0_4, .int .i64 a0_5, .int .i64 a0_6, .int .i64 a0_7, .int .i64 a0_8, .int .i64 a0_9, .int .i64 a0_10] 23 (0, 0)) (by (with_reducible repeat (first | refine blk_drewN ?_ _ | refine blk_drew ?_ | refine blk_alloc ?_ _)); exact BK589.out)) : gb589 ≠ gb590)); have n6_ := Aside0.mk ((by rw [hg]; exact Nat.ne_of_gt (blk_lt (g := gb589) (o := .cells #[.int .i64 a0_0, .int .i64 a0_1, .int .i64 a0_2, .int .i64 a0_3, .int .i64 a0_4, .int .i64 a0_5, .int .i64 a0_6, .int .i64 a0_7, .int .i64 a0_8, .int .i64 a0_9, .int .i64 a0_10] 23 (0, 0)) (by (with_reducible repeat (first | refine blk_drewN ?_ _ | refine blk_drew ?_ | refine blk_alloc ?_ _)); exact BK589.out)) : gb590 ≠ gb589)); clear BK589; clear HB; have BK589 := n0_; have HB := n1_; have BK590 := n2_; have GW590 := n3_; have GE590 := n4_; have NB589_590 := n5_; have NB590_589 := n6_; clear n0_ n1_ n2_ n3_ n4_ n5_ n6_; clear hb hbox hg))
 replace BK589 := Aside0.mk (blk_drew BK589.out)
 replace BK590 := Aside0.mk (blk_drew BK590.out)
 replace HB := Aside0.mk (below_drew1 HB.out)
 refine start_ (n := 6) (S := fun w' => w'.cell? ⟨gb590, 0, none⟩ = some (.int .i64 a2_0) ∧ w'.cell? ⟨gb590, 1, none⟩ = some (.int .i64 a2_1) ∧ w'.cell? ⟨gb590, 2, none⟩ = some (.int .i64 a2_2) ∧ w'.cell? ⟨gb590, 3, none⟩ = some (.int .i64 a2_3) ∧ w'.cell? ⟨gb590, 4, none⟩ = some (.int .i64 a2_4) ∧ w'.cell? ⟨gb589, 0, none⟩ = some (.int .i64 a0_0) ∧ w'.cell? ⟨gb589, 1, none⟩ = some (.int .i64 a0_1) ∧ w'.cell? ⟨gb589, 2, none⟩ = some (.int .i64 a0_2) ∧ w'.cell? ⟨gb589, 3, none⟩ = some (.int .i64 a0_3) ∧ w'.cell? ⟨gb589, 4, none⟩ = some (.int .i64 a0_4) ∧ w'.cell? ⟨gb589, 5, none⟩ = some (.int .i64 a0_5) ∧ w'.cell? ⟨gb589, 6, none⟩ = some (.int .i64 a0_6) ∧ w'.cell? ⟨gb589, 7, none⟩ = some (.int .i64 a0_7) ∧ w'.cell? ⟨gb589, 8, none⟩ = some (.int .i64 a0_8) ∧ w'.cell? ⟨gb589, 9, none⟩ = some (.int .i64 a0_9) ∧ w'.cell? ⟨gb589, 10, none⟩ = some (.int .i64 a0_10)) (ds := []) #[false, false, false, false, false, false] (by kernel_rfl) rfl rfl ⟨(blk_cell BK590.out 0).trans rfl, (blk_cell BK590.out 1).trans rfl, (blk_cell BK590.out 2).trans rfl, (blk_cell BK590.out 3).trans rfl, (blk_cell BK590.out 4).trans rfl, (blk_cell BK589.out 0).trans rfl, (blk_cell BK589.out 1).trans rfl, (blk_cell BK589.out 2).trans rfl, (blk_cell BK589.out 3).trans rfl, (blk_cell BK589.out 4).trans rfl, (blk_cell BK589.out 5).trans rfl, (blk_cell BK589.out 6).trans rfl, (blk_cell BK589.out 7).trans rfl, (blk_cell BK589.out 8).trans rfl, (blk_cell BK589.out 9).trans rfl, (blk_cell BK589.out 10).trans rfl⟩ (fun hHeld => ?_)
 generalize w8.drew = w9 at BK589 BK590 HB hHeld ⊢
 refine pure_ (i := 0) (N := some 12) (v := ?_) (a' := ?_) #[true, false, false, false, false, false] rfl rfl (by kernel_rfl) (fun _ _ _ h => h) (Or.inl ⟨by rfl, ?_⟩) ?_ ?_
 rotate_left
 ·intro w'
  go_simp
  with_reducible rfl
 rotate_left
 ·simp only [pq]
  rfl
 refine take_ (i := 1) (N := some 13) (v := ?_) (a' := ?_) #[true, true, false, false, false, false] rfl rfl (by kernel_rfl) (fun _ _ _ h => h) (Or.inl ⟨by rfl, ?_⟩) hHeld ?_ ?_
 rotate_left
 ·rintro w' ⟨s0, s1, s2, s3, s4, s5, s6, s7, s8, s9, s10, s11, s12, s13, s14, s15⟩
  go_simp
  with_reducible rfl
 rotate_left
 ·simp only [pq]
  rfl
 refine take_ (i := 2) (N := some 14) (v := ?_) (a' := ?_) #[true, true, true, false, false, false] rfl rfl (by kernel_rfl) (fun _ _ _ h => h) (Or.inl ⟨by rfl, ?_⟩) hHeld ?_ ?_
 rotate_left
 ·rintro w' ⟨s0, s1, s2, s3, s4, s5, s6, s7, s8, s9, s10, s11, s12, s13, s14, s15⟩
  go_simp
  with_reducible rfl
 rotate_left
 ·simp only [pq]
  rfl
 refine one_ (i := 3) (N := some 15) #[true, true, true, true, false, false] rfl rfl (by kernel_rfl) (by decide) (fun K hK => ?_)
 refine gs Try.func69 #[.agg #[.int .i64 a0_0, .int .i64 a0_1, .int .i64 a0_2, .int .i64 a0_3, .int .i64 a0_4, .int .i64 a0_5, .int .i64 a0_6, .int .i64 a0_7, .int .i64 a0_8, .int .i64 a0_9, .int .i64 a0_10]] ?_
 with_reducible refine (conf_Row.calls a0_0 a0_1 a0_2 a0_3 a0_4 a0_5 a0_6 a0_7 a0_8 a0_9 a0_10 t591 _ A5.out).mono ?_
 rintro e w10 ⟨rfl, hb⟩
 refine ⟨_, rfl, ?_⟩
 replace BK589 := bkb BK589 hb
 replace BK590 := bkb BK590 hb
 replace HB := bst HB hb
 try clear hb; try clear hb2; try clear hk; try clear hi
 refine hK.out _ _ sc (fun hHeld => ?_)
 clear hK K
 apply nm 0
 refine pure_ (i := 4) (N := some 16) (v := ?_) (a' := ?_) #[true, true, true, true, true, false] rfl rfl (by kernel_rfl) (fun _ _ _ h => h) (Or.inl ⟨by rfl, ?_⟩) ?_ ?_
 rotate_left
 ·intro w'
  go_simp
  with_reducible rfl
 rotate_left
 ·simp only [pq]
  rfl
 refine pure_ (i := 5) (N := some 9) (v := ?_) (a' := ?_) #[true, true, true, true, true, true] rfl rfl (by kernel_rfl) (fun _ _ _ h => h) (Or.inl ⟨by rfl, ?_⟩) ?_ ?_
 rotate_left
 ·intro w'
  go_simp
  with_reducible rfl
 rotate_left
 ·simp only [pq]
  rfl
 refine done_ (by kernel_rfl) ?_
 have hnb11 := NB589_590.out
 have hnc11 := NB590_589.out
 obtain ⟨hcz12_0, hcz12_1, hcz12_2, hcz12_3, hcz12_4, hcz12_5, hcz12_6, hcz12_7, hcz12_8, hcz12_9, hcz12_10⟩ := cz11 BK589.out
 try go_wp2_with (first | ((with_reducible refine gate_callee (f := 81) rfl ?_); refine goesL_ (some 18) rfl rfl Try.func81 (by kernel_rfl) rfl #[.agg #[.int .i64 a0_0, .int .i64 a0_1, .int .i64 a0_2, .int .i64 a0_3, .int .i64 a0_4, .int .i64 a0_5, .int .i64 a0_6, .int .i64 a0_7, .int .i64 a0_8, .int .i64 a0_9, .int .i64 a0_10]] rfl (by (try simp only [List.map_toArray, List.map_cons, List.map_nil]); first | done | rfl | (simp only [List.length_drop, List.length_take]; rfl)) ?_; (with_reducible refine (conf_Data.calls a0_0 a0_1 a0_2 a0_3 a0_4 a0_5 a0_6 a0_7 a0_8 a0_9 a0_10 t592 _ A6.out).mono ?_); rintro e w13 ⟨rfl, hb⟩; refine ⟨_, rfl, ?_⟩; have n0_ := bkb BK589 hb; have n1_ := bkb BK590 hb; have n2_ := bst HB hb; clear BK589; clear BK590; clear HB; have BK589 := n0_; have BK590 := n1_; have HB := n2_; clear n0_ n1_ n2_; (try clear hb); (try clear hb2); (try clear hk); (try clear hi)))
 go_loopg [19] k (fun kq v19 w' => ∃ (x19_1 : Int), v19 = .int .i64 x19_1 ∧ Aside0 (prefix_has.l0 kq l1 a3 (wrap64 (a2_0 * t591)) t592 x19_1 a0_0 a0_1 a0_2 a0_3 a0_4 a0_5 a0_6 a0_7 a0_8 a0_9 a0_10 a2_0 a2_1 a2_2 a2_3 a2_4 = some r) ∧ Aside0 (kq ≤ k) ∧ Aside0 (w'.heap[gb589]? = some (.cells #[.int .i64 a0_0, .int .i64 a0_1, .int .i64 a0_2, .int .i64 a0_3, .int .i64 a0_4, .int .i64 a0_5, .int .i64 a0_6, .int .i64 a0_7, .int .i64 a0_8, .int .i64 a0_9, .int .i64 a0_10] 23 (0, 0))) ∧ Aside0 (w'.heap[gb590]? = some (.cells #[.int .i64 a2_0, .int .i64 a2_1, .int .i64 a2_2, .int .i64 a2_3, .int .i64 a2_4] 25 (0, 0))) ∧ Aside0 (Below w.heap.size w w'))
 case atStart => exact ⟨(0), (by first | rfl | (simp; done) | (simp [*]; done)), H', ⟨Nat.le_refl _⟩, ⟨by (with_reducible repeat (first | refine blk_drewN ?_ _ | refine blk_drew ?_ | refine blk_alloc ?_ _)); exact BK589.out⟩, ⟨by (with_reducible repeat (first | refine blk_drewN ?_ _ | refine blk_drew ?_ | refine blk_alloc ?_ _)); exact BK590.out⟩, ⟨bl HB⟩⟩
 case round =>
  clear H'
  try clear c1
  try clear p2
  try clear c6
  try clear p6
  try clear c8
  try clear c11
  (try clear hcz12_0 hcz12_1)
  (try clear hcz12_10)
  (try clear hcz12_2 hcz12_3 hcz12_4 hcz12_5 hcz12_6 hcz12_7 hcz12_8 hcz12_9)
  (try clear hfz12_0 hfz12_1)
  (try clear hfz12_10)
  (try clear hfz12_2 hfz12_3 hfz12_4 hfz12_5 hfz12_6 hfz12_7 hfz12_8 hfz12_9)
  obtain ⟨x19_1, rfl, HA, HK1, BK589, BK590, HB⟩ := hrel
  cases gk with
  | zero => exact absurd HA.out (by simp [prefix_has.l0])
  | succ k1 =>
   have H := HA.out
   clear HA
   simp only [prefix_has.l0] at H
   by_cases c14 : x19_1 < t592
   ·rw [if_pos c14] at H
    have c14b0 : decide (x19_1 < t592) = true := decide_eq_true c14
    clear c14
    by_cases c15 : x19_1 = a2_1
    ·rw [if_pos c15] at H
     have c15b0 : (x19_1 == a2_1) = true := beq_iff_eq.mpr c15
     have c15b1 : (x19_1 != a2_1) = false := bne_eq_false_iff_eq.mpr c15
     clear c15
     have H' := Aside0.mk H
     clear H
     have hnb16 := NB589_590.out
     have hnc16 := NB590_589.out
     obtain ⟨hcz17_0, hcz17_1, hcz17_2, hcz17_3, hcz17_4, hcz17_5, hcz17_6, hcz17_7, hcz17_8, hcz17_9, hcz17_10⟩ := cz11 BK589.out
     obtain ⟨hcz18_0, hcz18_1, hcz18_2, hcz18_3, hcz18_4⟩ := cz5 BK590.out
     obtain ⟨hfz18_0, hfz18_1, hfz18_2, hfz18_3, hfz18_4⟩ := fz5 BK590.out
     try go_wp2
     replace BK589 := Aside0.mk (blk_drew BK589.out)
     replace BK590 := Aside0.mk (blk_drew BK590.out)
     replace HB := Aside0.mk (below_drew1 HB.out)
     refine start_ (n := 22) (S := fun w' => w'.cell? ⟨gb590, 0, none⟩ = some (.int .i64 a2_0) ∧ w'.cell? ⟨gb590, 1, none⟩ = some (.int .i64 a2_1) ∧ w'.cell? ⟨gb590, 2, none⟩ = some (.int .i64 a2_2) ∧ w'.cell? ⟨gb590, 3, none⟩ = some (.int .i64 a2_3) ∧ w'.cell? ⟨gb590, 4, none⟩ = some (.int .i64 a2_4)) (ds := []) (bq 22 0) (by kernel_rfl) rfl rfl (cz5 BK590.out) (fun hHeld => ?_); refine with_tabW prefix_has.tab6 prefix_has.bits6 (fun HT_ HW_ => ?_)
     generalize wr.drew = w19 at BK589 BK590 HB hHeld ⊢
     apply pu 0 31 (bq 22 1) HT_
     apply pu 1 32 (bq 22 3) HT_
     apply tu 2 33 (bq 22 7) HT_ HW_ hHeld
     apply pu 3 34 (bq 22 15) HT_
     apply pu 4 35 (bq 22 31) HT_
     apply po 5 36 (bq 22 63) HT_
     apply po 6 37 (bq 22 127) HT_
     apply po 7 38 (bq 22 255) HT_
     apply pu 8 39 (bq 22 511) HT_
     apply pu 9 40 (bq 22 1023) HT_
     apply po 10 41 (bq 22 2047) HT_
     apply po 11 42 (bq 22 4095) HT_
     apply po 12 43 (bq 22 8191) HT_
     apply po 13 44 (bq 22 16383) HT_
     apply po 14 45 (bq 22 32767) HT_
     apply po 15 46 (bq 22 65535) HT_
     apply po 16 47 (bq 22 131071) HT_
     apply po 17 48 (bq 22 262143) HT_
     apply po 18 49 (bq 22 524287) HT_
     apply po 19 50 (bq 22 1048575) HT_
     apply po 20 51 (bq 22 2097151) HT_
     apply pu 21 52 (bq 22 4194303) HT_
     refine done_ (done_of HT_.out (by kernel_rfl)) ?_
     try go_wp2
     go_roundg k1
     case measure => have := HK1.out; omega
     case rel => exact ⟨(wrap64 (x19_1 + 1)), (by first | rfl | (simp; done) | (simp [*]; done)), H', ⟨by have := HK1.out; omega⟩, ⟨by (with_reducible repeat (first | refine blk_drewN ?_ _ | refine blk_drew ?_ | refine blk_alloc ?_ _)); exact BK589.out⟩, ⟨by (with_reducible repeat (first | refine blk_drewN ?_ _ | refine blk_drew ?_ | refine blk_alloc ?_ _)); exact BK590.out⟩, ⟨bl HB⟩⟩
    ·rw [if_neg c15] at H
     have c15b0 : (x19_1 == a2_1) = false := beq_eq_false_iff_ne.mpr c15
     have c15b1 : (x19_1 != a2_1) = true := bne_iff_ne.mpr c15
     by_cases c20 : (wrap64 ((wrap64 ((wrap64 (a2_0 * t591)) + (wrap64 (x19_1 * a0_2)))) + a2_2)) < a3
     ·rw [if_pos c20] at H
      have c20b0 : decide ((wrap64 ((wrap64 ((wrap64 (a2_0 * t591)) + (wrap64 (x19_1 * a0_2)))) + a2_2)) < a3) = true := decide_eq_true c20
      clear c20
      replace H := Option.bind_eq_some_iff.mp H
      obtain ⟨t593, A210, H⟩ := H
      replace H : (if 0 ≤ t593 then (if t593 < (l1.length : Int) then (if (rd l1 t593) ≤ a2_4 then (some false) else (prefix_has.l0 k1 l1 a3 (wrap64 (a2_0 * t591)) t592 (wrap64 (x19_1 + 1)) a0_0 a0_1 a0_2 a0_3 a0_4 a0_5 a0_6 a0_7 a0_8 a0_9 a0_10 a2_0 a2_1 a2_2 a2_3 a2_4)) else (none)) else (none)) = some r := H
      have A21 := Aside0.mk A210
      clear A210
      by_cases c22 : 0 ≤ t593
      ·rw [if_pos c22] at H
       have c22b0 : decide (0 ≤ t593) = true := decide_eq_true c22
       clear c22
       by_cases c23 : t593 < (l1.length : Int)
       ·rw [if_pos c23] at H
        have c23b0 : decide (t593 < (l1.length : Int)) = true := decide_eq_true c23
        clear c23
        by_cases c24 : (rd l1 t593) ≤ a2_4
        ·rw [if_pos c24] at H
         have c24b0 : decide ((rd l1 t593) ≤ a2_4) = true := decide_eq_true c24
         clear c24
         obtain rfl := Option.some.inj H
         have hnb25 := NB589_590.out
         have hnc25 := NB590_589.out
         obtain ⟨hcz26_0, hcz26_1, hcz26_2, hcz26_3, hcz26_4, hcz26_5, hcz26_6, hcz26_7, hcz26_8, hcz26_9, hcz26_10⟩ := cz11 BK589.out
         obtain ⟨hcz27_0, hcz27_1, hcz27_2, hcz27_3, hcz27_4⟩ := cz5 BK590.out
         obtain ⟨hfz27_0, hfz27_1, hfz27_2, hfz27_3, hfz27_4⟩ := fz5 BK590.out
         try go_wp2
         replace BK589 := Aside0.mk (blk_drew BK589.out)
         replace BK590 := Aside0.mk (blk_drew BK590.out)
         replace HB := Aside0.mk (below_drew1 HB.out)
         have p594 : 0 ≤ (t593 : Int) := of_decide_eq_true (by first | (with_reducible assumption) | assumption)
         have q594 : t593 < (l1.length : Int) := of_decide_eq_true (by first | (with_reducible assumption) | assumption)
         obtain ⟨ad594, e594, hx594_0⟩ := Kd.at_int HR1.out t593 p594 q594
         have hw594_0 := hx594_0
         cases e594
         replace hx594_0 := (HB.out.cell (World.block_lt_of_cell? w _ hx594_0)).trans hx594_0
         replace p594 := eq_true p594
         replace q594 := eq_true q594
         refine start_ (n := 22) (S := fun w' => w'.cell? ⟨gb590, 0, none⟩ = some (.int .i64 a2_0) ∧ w'.cell? ⟨gb590, 1, none⟩ = some (.int .i64 a2_1) ∧ w'.cell? ⟨gb590, 2, none⟩ = some (.int .i64 a2_2) ∧ w'.cell? ⟨gb590, 3, none⟩ = some (.int .i64 a2_3) ∧ w'.cell? ⟨gb590, 4, none⟩ = some (.int .i64 a2_4) ∧ w'.cell? ⟨gb589, 0, none⟩ = some (.int .i64 a0_0) ∧ w'.cell? ⟨gb589, 1, none⟩ = some (.int .i64 a0_1) ∧ w'.cell? ⟨gb589, 2, none⟩ = some (.int .i64 a0_2) ∧ w'.cell? ⟨gb589, 3, none⟩ = some (.int .i64 a0_3) ∧ w'.cell? ⟨gb589, 4, none⟩ = some (.int .i64 a0_4) ∧ w'.cell? ⟨gb589, 5, none⟩ = some (.int .i64 a0_5) ∧ w'.cell? ⟨gb589, 6, none⟩ = some (.int .i64 a0_6) ∧ w'.cell? ⟨gb589, 7, none⟩ = some (.int .i64 a0_7) ∧ w'.cell? ⟨gb589, 8, none⟩ = some (.int .i64 a0_8) ∧ w'.cell? ⟨gb589, 9, none⟩ = some (.int .i64 a0_9) ∧ w'.cell? ⟨gb589, 10, none⟩ = some (.int .i64 a0_10) ∧ w'.cell? (ad594.add (t593).toNat) = some (.int .i64 (rd l1 t593))) (ds := []) (bq 22 0) (by kernel_rfl) rfl rfl ⟨(blk_cell BK590.out 0).trans rfl, (blk_cell BK590.out 1).trans rfl, (blk_cell BK590.out 2).trans rfl, (blk_cell BK590.out 3).trans rfl, (blk_cell BK590.out 4).trans rfl, (blk_cell BK589.out 0).trans rfl, (blk_cell BK589.out 1).trans rfl, (blk_cell BK589.out 2).trans rfl, (blk_cell BK589.out 3).trans rfl, (blk_cell BK589.out 4).trans rfl, (blk_cell BK589.out 5).trans rfl, (blk_cell BK589.out 6).trans rfl, (blk_cell BK589.out 7).trans rfl, (blk_cell BK589.out 8).trans rfl, (blk_cell BK589.out 9).trans rfl, (blk_cell BK589.out 10).trans rfl, ((HB.out.cell (World.block_lt_of_cell? w _ hw594_0)).trans hw594_0)⟩ (fun hHeld => ?_); refine with_tabW prefix_has.tab6 prefix_has.bits6 (fun HT_ HW_ => ?_)
         generalize wr.drew = w28 at BK589 BK590 HB hx594_0 hHeld ⊢
         apply pu 0 31 (bq 22 1) HT_
         apply pu 1 32 (bq 22 3) HT_
         apply tu 2 33 (bq 22 7) HT_ HW_ hHeld
         apply pu 3 34 (bq 22 15) HT_
         apply pu 4 35 (bq 22 31) HT_
         apply pu 5 36 (bq 22 63) HT_
         apply pu 6 37 (bq 22 127) HT_
         apply pu 7 38 (bq 22 255) HT_
         apply pu 8 39 (bq 22 511) HT_
         apply pu 9 40 (bq 22 1023) HT_
         apply pu 10 41 (bq 22 2047) HT_
         apply pu 12 43 (bq 22 6143) HT_
         apply pu 14 45 (bq 22 22527) HT_
         apply pu 18 49 (bq 22 284671) HT_
         apply tu 11 42 (bq 22 286719) HT_ HW_ hHeld
         apply tu 13 44 (bq 22 294911) HT_ HW_ hHeld
         apply tu 19 50 (bq 22 819199) HT_ HW_ hHeld
         refine one_ (i := 15) (N := some 46) (bq 22 851967) rfl rfl (one_of HT_.out (by kernel_rfl)) (by decide) (fun K hK => ?_)
         refine gs Try.func23 #[.agg #[.int .i64 a0_0, .int .i64 a0_1, .int .i64 a0_2, .int .i64 a0_3, .int .i64 a0_4, .int .i64 a0_5, .int .i64 a0_6, .int .i64 a0_7, .int .i64 a0_8, .int .i64 a0_9, .int .i64 a0_10], .int .i64 a2_0, .int .i64 x19_1] ?_
         with_reducible refine (geom_Member.calls a0_0 a0_1 a0_2 a0_3 a0_4 a0_5 a0_6 a0_7 a0_8 a0_9 a0_10 a2_0 x19_1 t593 _ A21.out).mono ?_
         rintro e w29 ⟨rfl, hb⟩
         refine ⟨_, rfl, ?_⟩
         replace BK589 := bkb BK589 hb
         replace BK590 := bkb BK590 hb
         replace HB := bst HB hb
         try clear hb; try clear hb2; try clear hk; try clear hi
         refine hK.out _ _ ⟨(blk_cell BK590.out 0).trans rfl, (blk_cell BK590.out 1).trans rfl, (blk_cell BK590.out 2).trans rfl, (blk_cell BK590.out 3).trans rfl, (blk_cell BK590.out 4).trans rfl, (blk_cell BK589.out 0).trans rfl, (blk_cell BK589.out 1).trans rfl, (blk_cell BK589.out 2).trans rfl, (blk_cell BK589.out 3).trans rfl, (blk_cell BK589.out 4).trans rfl, (blk_cell BK589.out 5).trans rfl, (blk_cell BK589.out 6).trans rfl, (blk_cell BK589.out 7).trans rfl, (blk_cell BK589.out 8).trans rfl, (blk_cell BK589.out 9).trans rfl, (blk_cell BK589.out 10).trans rfl, ((HB.out.cell (World.block_lt_of_cell? w _ hw594_0)).trans hw594_0)⟩ (fun hHeld => ?_)
         clear hK K
         apply nm 0
         apply pu 16 47 (bq 22 917503) HT_
         apply tu 17 48 (bq 22 1048575) HT_ HW_ hHeld
         apply pu 20 51 (bq 22 2097151) HT_
         apply pu 21 52 (bq 22 4194303) HT_
         refine done_ (done_of HT_.out (by kernel_rfl)) ?_
         try go_wp2
         go_ret
         exact ⟨by first | rfl | (simp [errW_none, errW_some] <;> rfl) | (simp [*, errW_none, errW_some] <;> rfl), bl HB⟩
        ·rw [if_neg c24] at H
         have c24b0 : decide ((rd l1 t593) ≤ a2_4) = false := decide_eq_false c24
         clear c24
         have H' := Aside0.mk H
         clear H
         have hnb30 := NB589_590.out
         have hnc30 := NB590_589.out
         obtain ⟨hcz31_0, hcz31_1, hcz31_2, hcz31_3, hcz31_4, hcz31_5, hcz31_6, hcz31_7, hcz31_8, hcz31_9, hcz31_10⟩ := cz11 BK589.out
         obtain ⟨hcz32_0, hcz32_1, hcz32_2, hcz32_3, hcz32_4⟩ := cz5 BK590.out
         obtain ⟨hfz32_0, hfz32_1, hfz32_2, hfz32_3, hfz32_4⟩ := fz5 BK590.out
         try go_wp2
         replace BK589 := Aside0.mk (blk_drew BK589.out)
         replace BK590 := Aside0.mk (blk_drew BK590.out)
         replace HB := Aside0.mk (below_drew1 HB.out)
         have p594 : 0 ≤ (t593 : Int) := of_decide_eq_true (by first | (with_reducible assumption) | assumption)
         have q594 : t593 < (l1.length : Int) := of_decide_eq_true (by first | (with_reducible assumption) | assumption)
         obtain ⟨ad594, e594, hx594_0⟩ := Kd.at_int HR1.out t593 p594 q594
         have hw594_0 := hx594_0
         cases e594
         replace hx594_0 := (HB.out.cell (World.block_lt_of_cell? w _ hx594_0)).trans hx594_0
         replace p594 := eq_true p594
         replace q594 := eq_true q594
         refine start_ (n := 22) (S := fun w' => w'.cell? ⟨gb590, 0, none⟩ = some (.int .i64 a2_0) ∧ w'.cell? ⟨gb590, 1, none⟩ = some (.int .i64 a2_1) ∧ w'.cell? ⟨gb590, 2, none⟩ = some (.int .i64 a2_2) ∧ w'.cell? ⟨gb590, 3, none⟩ = some (.int .i64 a2_3) ∧ w'.cell? ⟨gb590, 4, none⟩ = some (.int .i64 a2_4) ∧ w'.cell? ⟨gb589, 0, none⟩ = some (.int .i64 a0_0) ∧ w'.cell? ⟨gb589, 1, none⟩ = some (.int .i64 a0_1) ∧ w'.cell? ⟨gb589, 2, none⟩ = some (.int .i64 a0_2) ∧ w'.cell? ⟨gb589, 3, none⟩ = some (.int .i64 a0_3) ∧ w'.cell? ⟨gb589, 4, none⟩ = some (.int .i64 a0_4) ∧ w'.cell? ⟨gb589, 5, none⟩ = some (.int .i64 a0_5) ∧ w'.cell? ⟨gb589, 6, none⟩ = some (.int .i64 a0_6) ∧ w'.cell? ⟨gb589, 7, none⟩ = some (.int .i64 a0_7) ∧ w'.cell? ⟨gb589, 8, none⟩ = some (.int .i64 a0_8) ∧ w'.cell? ⟨gb589, 9, none⟩ = some (.int .i64 a0_9) ∧ w'.cell? ⟨gb589, 10, none⟩ = some (.int .i64 a0_10) ∧ w'.cell? (ad594.add (t593).toNat) = some (.int .i64 (rd l1 t593))) (ds := []) (bq 22 0) (by kernel_rfl) rfl rfl ⟨(blk_cell BK590.out 0).trans rfl, (blk_cell BK590.out 1).trans rfl, (blk_cell BK590.out 2).trans rfl, (blk_cell BK590.out 3).trans rfl, (blk_cell BK590.out 4).trans rfl, (blk_cell BK589.out 0).trans rfl, (blk_cell BK589.out 1).trans rfl, (blk_cell BK589.out 2).trans rfl, (blk_cell BK589.out 3).trans rfl, (blk_cell BK589.out 4).trans rfl, (blk_cell BK589.out 5).trans rfl, (blk_cell BK589.out 6).trans rfl, (blk_cell BK589.out 7).trans rfl, (blk_cell BK589.out 8).trans rfl, (blk_cell BK589.out 9).trans rfl, (blk_cell BK589.out 10).trans rfl, ((HB.out.cell (World.block_lt_of_cell? w _ hw594_0)).trans hw594_0)⟩ (fun hHeld => ?_); refine with_tabW prefix_has.tab6 prefix_has.bits6 (fun HT_ HW_ => ?_)
         generalize wr.drew = w33 at BK589 BK590 HB hx594_0 hHeld ⊢
         apply pu 0 31 (bq 22 1) HT_
         apply pu 1 32 (bq 22 3) HT_
         apply tu 2 33 (bq 22 7) HT_ HW_ hHeld
         apply pu 3 34 (bq 22 15) HT_
         apply pu 4 35 (bq 22 31) HT_
         apply pu 5 36 (bq 22 63) HT_
         apply pu 6 37 (bq 22 127) HT_
         apply pu 7 38 (bq 22 255) HT_
         apply pu 8 39 (bq 22 511) HT_
         apply pu 9 40 (bq 22 1023) HT_
         apply pu 10 41 (bq 22 2047) HT_
         apply pu 12 43 (bq 22 6143) HT_
         apply pu 14 45 (bq 22 22527) HT_
         apply pu 18 49 (bq 22 284671) HT_
         apply tu 11 42 (bq 22 286719) HT_ HW_ hHeld
         apply tu 13 44 (bq 22 294911) HT_ HW_ hHeld
         apply tu 19 50 (bq 22 819199) HT_ HW_ hHeld
         refine one_ (i := 15) (N := some 46) (bq 22 851967) rfl rfl (one_of HT_.out (by kernel_rfl)) (by decide) (fun K hK => ?_)
         refine gs Try.func23 #[.agg #[.int .i64 a0_0, .int .i64 a0_1, .int .i64 a0_2, .int .i64 a0_3, .int .i64 a0_4, .int .i64 a0_5, .int .i64 a0_6, .int .i64 a0_7, .int .i64 a0_8, .int .i64 a0_9, .int .i64 a0_10], .int .i64 a2_0, .int .i64 x19_1] ?_
         with_reducible refine (geom_Member.calls a0_0 a0_1 a0_2 a0_3 a0_4 a0_5 a0_6 a0_7 a0_8 a0_9 a0_10 a2_0 x19_1 t593 _ A21.out).mono ?_
         rintro e w34 ⟨rfl, hb⟩
         refine ⟨_, rfl, ?_⟩
         replace BK589 := bkb BK589 hb
         replace BK590 := bkb BK590 hb
         replace HB := bst HB hb
         try clear hb; try clear hb2; try clear hk; try clear hi
         refine hK.out _ _ ⟨(blk_cell BK590.out 0).trans rfl, (blk_cell BK590.out 1).trans rfl, (blk_cell BK590.out 2).trans rfl, (blk_cell BK590.out 3).trans rfl, (blk_cell BK590.out 4).trans rfl, (blk_cell BK589.out 0).trans rfl, (blk_cell BK589.out 1).trans rfl, (blk_cell BK589.out 2).trans rfl, (blk_cell BK589.out 3).trans rfl, (blk_cell BK589.out 4).trans rfl, (blk_cell BK589.out 5).trans rfl, (blk_cell BK589.out 6).trans rfl, (blk_cell BK589.out 7).trans rfl, (blk_cell BK589.out 8).trans rfl, (blk_cell BK589.out 9).trans rfl, (blk_cell BK589.out 10).trans rfl, ((HB.out.cell (World.block_lt_of_cell? w _ hw594_0)).trans hw594_0)⟩ (fun hHeld => ?_)
         clear hK K
         apply nm 0
         apply pu 16 47 (bq 22 917503) HT_
         apply tu 17 48 (bq 22 1048575) HT_ HW_ hHeld
         apply pu 20 51 (bq 22 2097151) HT_
         apply pu 21 52 (bq 22 4194303) HT_
         refine done_ (done_of HT_.out (by kernel_rfl)) ?_
         try go_wp2
         go_roundg k1
         case measure => have := HK1.out; omega
         case rel => exact ⟨(wrap64 (x19_1 + 1)), (by first | rfl | (simp; done) | (simp [*]; done)), H', ⟨by have := HK1.out; omega⟩, ⟨by (with_reducible repeat (first | refine blk_drewN ?_ _ | refine blk_drew ?_ | refine blk_alloc ?_ _)); exact BK589.out⟩, ⟨by (with_reducible repeat (first | refine blk_drewN ?_ _ | refine blk_drew ?_ | refine blk_alloc ?_ _)); exact BK590.out⟩, ⟨bl HB⟩⟩
       ·rw [if_neg c23] at H
        exact absurd H (by simp)
      ·rw [if_neg c22] at H
       exact absurd H (by simp)
     ·rw [if_neg c20] at H
      have c20b0 : decide ((wrap64 ((wrap64 ((wrap64 (a2_0 * t591)) + (wrap64 (x19_1 * a0_2)))) + a2_2)) < a3) = false := decide_eq_false c20
      clear c20
      have H' := Aside0.mk H
      clear H
      have hnb35 := NB589_590.out
      have hnc35 := NB590_589.out
      obtain ⟨hcz36_0, hcz36_1, hcz36_2, hcz36_3, hcz36_4, hcz36_5, hcz36_6, hcz36_7, hcz36_8, hcz36_9, hcz36_10⟩ := cz11 BK589.out
      obtain ⟨hcz37_0, hcz37_1, hcz37_2, hcz37_3, hcz37_4⟩ := cz5 BK590.out
      obtain ⟨hfz37_0, hfz37_1, hfz37_2, hfz37_3, hfz37_4⟩ := fz5 BK590.out
      try go_wp2
      replace BK589 := Aside0.mk (blk_drew BK589.out)
      replace BK590 := Aside0.mk (blk_drew BK590.out)
      replace HB := Aside0.mk (below_drew1 HB.out)
      refine start_ (n := 22) (S := fun w' => w'.cell? ⟨gb590, 0, none⟩ = some (.int .i64 a2_0) ∧ w'.cell? ⟨gb590, 1, none⟩ = some (.int .i64 a2_1) ∧ w'.cell? ⟨gb590, 2, none⟩ = some (.int .i64 a2_2) ∧ w'.cell? ⟨gb590, 3, none⟩ = some (.int .i64 a2_3) ∧ w'.cell? ⟨gb590, 4, none⟩ = some (.int .i64 a2_4)) (ds := []) (bq 22 0) (by kernel_rfl) rfl rfl (cz5 BK590.out) (fun hHeld => ?_); refine with_tabW prefix_has.tab6 prefix_has.bits6 (fun HT_ HW_ => ?_)
      generalize wr.drew = w38 at BK589 BK590 HB hHeld ⊢
      apply pu 0 31 (bq 22 1) HT_
      apply pu 1 32 (bq 22 3) HT_
      apply tu 2 33 (bq 22 7) HT_ HW_ hHeld
      apply pu 3 34 (bq 22 15) HT_
      apply pu 4 35 (bq 22 31) HT_
      apply pu 5 36 (bq 22 63) HT_
      apply pu 6 37 (bq 22 127) HT_
      apply pu 7 38 (bq 22 255) HT_
      apply pu 8 39 (bq 22 511) HT_
      apply pu 9 40 (bq 22 1023) HT_
      apply po 10 41 (bq 22 2047) HT_
      apply po 11 42 (bq 22 4095) HT_
      apply po 12 43 (bq 22 8191) HT_
      apply po 13 44 (bq 22 16383) HT_
      apply po 14 45 (bq 22 32767) HT_
      apply po 15 46 (bq 22 65535) HT_
      apply po 16 47 (bq 22 131071) HT_
      apply po 17 48 (bq 22 262143) HT_
      apply po 18 49 (bq 22 524287) HT_
      apply po 19 50 (bq 22 1048575) HT_
      apply po 20 51 (bq 22 2097151) HT_
      apply pu 21 52 (bq 22 4194303) HT_
      refine done_ (done_of HT_.out (by kernel_rfl)) ?_
      try go_wp2
      go_roundg k1
      case measure => have := HK1.out; omega
      case rel => exact ⟨(wrap64 (x19_1 + 1)), (by first | rfl | (simp; done) | (simp [*]; done)), H', ⟨by have := HK1.out; omega⟩, ⟨by (with_reducible repeat (first | refine blk_drewN ?_ _ | refine blk_drew ?_ | refine blk_alloc ?_ _)); exact BK589.out⟩, ⟨by (with_reducible repeat (first | refine blk_drewN ?_ _ | refine blk_drew ?_ | refine blk_alloc ?_ _)); exact BK590.out⟩, ⟨bl HB⟩⟩
   ·rw [if_neg c14] at H
    have c14b0 : decide (x19_1 < t592) = false := decide_eq_false c14
    clear c14
    obtain rfl := Option.some.inj H
    go_wp2
    go_ret
    exact ⟨by first | rfl | (simp [errW_none, errW_some] <;> rfl) | (simp [*, errW_none, errW_some] <;> rfl), bl HB⟩

end Go.Proofs.Ytekihhbihnmakaa.PA
