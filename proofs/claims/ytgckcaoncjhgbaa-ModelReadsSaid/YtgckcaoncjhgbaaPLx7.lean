/- Printed by the kit's print over stand-ins for some functions (xprint.py), with contracts of my own in their place. -/
import Derived.Test.YtgckcaoncjhgbaaPLx0
import Derived.Test.YtgckcaoncjhgbaaPLx5
import Derived.Test.YtgckcaoncjhgbaaPLx6
import Derived.Test.YtgckcaoncjhgbaaWGuard
namespace Go.Proofs.Ytgckcaoncjhgbaa.PL
open Go.RowKit Go.Proofs.YtgckcaoncjhgbaaW.PrintWords Go.Proofs.YtgckcaoncjhgbaaW.PrintLast
set_option linter.unusedVariables false
set_option linter.unusedSimpArgs false

/-! ### revetmentref17_Right: function 87 -/
mutual
def revetmentref17_Right.j0 : Nat → Bool → Int → Int → Int → Int → Int → Int → Int → Int → Int → Int → Int → List (S59) → Option (Bool)
  | 0, _, _, _, _, _, _, _, _, _, _, _, _, _ => none
  | k + 1, x19, x129000, x129001, x129002, x129003, x129004, x129005, x129006, x129007, x129008, x129009, x129010, x129011 => if x19 = true then (some false) else (revetmentref17_Right.l0 k 0 x129000 x129001 x129002 x129003 x129004 x129005 x129006 x129007 x129008 x129009 x129010 x129011)
def revetmentref17_Right.l0 : Nat → Int → Int → Int → Int → Int → Int → Int → Int → Int → Int → Int → Int → List (S59) → Option (Bool)
  | 0, _, _, _, _, _, _, _, _, _, _, _, _, _ => none
  | k + 1, x3, x129000, x129001, x129002, x129003, x129004, x129005, x129006, x129007, x129008, x129009, x129010, x129011 => if x3 < (x129011.length : Int) then (if 0 ≤ x3 then ((revetmentref07_Size.f x129000 x129001 x129002 x129003 x129004 x129005 x129006 x129007 x129008 x129009 x129010).bind fun t131 => (if ((rd_T59 x129011 x3).f2) < 0 then (revetmentref17_Right.j2 k x3 t131 true x129000 x129001 x129002 x129003 x129004 x129005 x129006 x129007 x129008 x129009 x129010 x129011 ((rd_T59 x129011 x3).f0) ((rd_T59 x129011 x3).f1) ((rd_T59 x129011 x3).f2)) else (if ((rd_T59 x129011 x3).f2) > 1099511627776 then (revetmentref17_Right.j2 k x3 t131 true x129000 x129001 x129002 x129003 x129004 x129005 x129006 x129007 x129008 x129009 x129010 x129011 ((rd_T59 x129011 x3).f0) ((rd_T59 x129011 x3).f1) ((rd_T59 x129011 x3).f2)) else (revetmentref17_Right.j2 k x3 t131 (decide (((rd_T59 x129011 x3).f1) < 0)) x129000 x129001 x129002 x129003 x129004 x129005 x129006 x129007 x129008 x129009 x129010 x129011 ((rd_T59 x129011 x3).f0) ((rd_T59 x129011 x3).f1) ((rd_T59 x129011 x3).f2))))) else (none)) else (some true)
def revetmentref17_Right.j2 : Nat → Int → Int → Bool → Int → Int → Int → Int → Int → Int → Int → Int → Int → Int → Int → List (S59) → Int → Int → Int → Option (Bool)
  | 0, _, _, _, _, _, _, _, _, _, _, _, _, _, _, _, _, _, _ => none
  | k + 1, x3, x5, x47, x129000, x129001, x129002, x129003, x129004, x129005, x129006, x129007, x129008, x129009, x129010, x129011, x133000, x133001, x133002 => if x47 = true then (some false) else (if x133000 = 0 then (if x133001 = 0 then (revetmentref17_Right.l0 k (wrap64 (x3 + 1)) x129000 x129001 x129002 x129003 x129004 x129005 x129006 x129007 x129008 x129009 x129010 x129011) else (if x133000 = 1 then (if x133001 < x5 then (revetmentref17_Right.l0 k (wrap64 (x3 + 1)) x129000 x129001 x129002 x129003 x129004 x129005 x129006 x129007 x129008 x129009 x129010 x129011) else (if x133000 = 2 then (if x133001 > 0 then (if x133000 = 3 then (if x133001 ≤ x5 then (revetmentref17_Right.l0 k (wrap64 (x3 + 1)) x129000 x129001 x129002 x129003 x129004 x129005 x129006 x129007 x129008 x129009 x129010 x129011) else (some false)) else (some false)) else (if x133000 = 3 then (if x133001 ≤ x5 then (revetmentref17_Right.l0 k (wrap64 (x3 + 1)) x129000 x129001 x129002 x129003 x129004 x129005 x129006 x129007 x129008 x129009 x129010 x129011) else (some false)) else (some false))) else (if x133000 = 3 then (if x133001 ≤ x5 then (revetmentref17_Right.l0 k (wrap64 (x3 + 1)) x129000 x129001 x129002 x129003 x129004 x129005 x129006 x129007 x129008 x129009 x129010 x129011) else (some false)) else (some false)))) else (if x133000 = 2 then (if x133001 > 0 then (if x133001 < x5 then (revetmentref17_Right.l0 k (wrap64 (x3 + 1)) x129000 x129001 x129002 x129003 x129004 x129005 x129006 x129007 x129008 x129009 x129010 x129011) else (if x133000 = 3 then (if x133001 ≤ x5 then (revetmentref17_Right.l0 k (wrap64 (x3 + 1)) x129000 x129001 x129002 x129003 x129004 x129005 x129006 x129007 x129008 x129009 x129010 x129011) else (some false)) else (some false))) else (if x133000 = 3 then (if x133001 ≤ x5 then (revetmentref17_Right.l0 k (wrap64 (x3 + 1)) x129000 x129001 x129002 x129003 x129004 x129005 x129006 x129007 x129008 x129009 x129010 x129011) else (some false)) else (some false))) else (if x133000 = 3 then (if x133001 ≤ x5 then (revetmentref17_Right.l0 k (wrap64 (x3 + 1)) x129000 x129001 x129002 x129003 x129004 x129005 x129006 x129007 x129008 x129009 x129010 x129011) else (some false)) else (some false))))) else (if x133000 = 1 then (if x133001 < x5 then (revetmentref17_Right.l0 k (wrap64 (x3 + 1)) x129000 x129001 x129002 x129003 x129004 x129005 x129006 x129007 x129008 x129009 x129010 x129011) else (if x133000 = 2 then (if x133001 > 0 then (if x133000 = 3 then (if x133001 ≤ x5 then (revetmentref17_Right.l0 k (wrap64 (x3 + 1)) x129000 x129001 x129002 x129003 x129004 x129005 x129006 x129007 x129008 x129009 x129010 x129011) else (some false)) else (some false)) else (if x133000 = 3 then (if x133001 ≤ x5 then (revetmentref17_Right.l0 k (wrap64 (x3 + 1)) x129000 x129001 x129002 x129003 x129004 x129005 x129006 x129007 x129008 x129009 x129010 x129011) else (some false)) else (some false))) else (if x133000 = 3 then (if x133001 ≤ x5 then (revetmentref17_Right.l0 k (wrap64 (x3 + 1)) x129000 x129001 x129002 x129003 x129004 x129005 x129006 x129007 x129008 x129009 x129010 x129011) else (some false)) else (some false)))) else (if x133000 = 2 then (if x133001 > 0 then (if x133001 < x5 then (revetmentref17_Right.l0 k (wrap64 (x3 + 1)) x129000 x129001 x129002 x129003 x129004 x129005 x129006 x129007 x129008 x129009 x129010 x129011) else (if x133000 = 3 then (if x133001 ≤ x5 then (revetmentref17_Right.l0 k (wrap64 (x3 + 1)) x129000 x129001 x129002 x129003 x129004 x129005 x129006 x129007 x129008 x129009 x129010 x129011) else (some false)) else (some false))) else (if x133000 = 3 then (if x133001 ≤ x5 then (revetmentref17_Right.l0 k (wrap64 (x3 + 1)) x129000 x129001 x129002 x129003 x129004 x129005 x129006 x129007 x129008 x129009 x129010 x129011) else (some false)) else (some false))) else (if x133000 = 3 then (if x133001 ≤ x5 then (revetmentref17_Right.l0 k (wrap64 (x3 + 1)) x129000 x129001 x129002 x129003 x129004 x129005 x129006 x129007 x129008 x129009 x129010 x129011) else (some false)) else (some false)))))
end
def revetmentref17_Right.f (k : Nat) (a0_0 : Int) (a0_1 : Int) (a0_2 : Int) (a0_3 : Int) (a0_4 : Int) (a0_5 : Int) (a0_6 : Int) (a0_7 : Int) (a0_8 : Int) (a0_9 : Int) (a0_10 : Int) (l0_11 : List (S59)) : Option (Bool) := (revetmentref07_Check.f a0_0 a0_1 a0_2 a0_3 a0_4 a0_5 a0_6 a0_7 a0_8 a0_9 a0_10).bind fun t129 => (if t129 = 0 then (revetmentref17_Right.j0 k ((l0_11.length : Int) != a0_5) a0_0 a0_1 a0_2 a0_3 a0_4 a0_5 a0_6 a0_7 a0_8 a0_9 a0_10 l0_11) else (revetmentref17_Right.j0 k true a0_0 a0_1 a0_2 a0_3 a0_4 a0_5 a0_6 a0_7 a0_8 a0_9 a0_10 l0_11))
theorem revetmentref17_Right.mono_l : ∀ k, (∀ y0 y1 y2 y3 y4 y5 y6 y7 y8 y9 y10 y11 y12, LeO (revetmentref17_Right.j0 k y0 y1 y2 y3 y4 y5 y6 y7 y8 y9 y10 y11 y12) (revetmentref17_Right.j0 (k + 1) y0 y1 y2 y3 y4 y5 y6 y7 y8 y9 y10 y11 y12)) ∧ (∀ y0 y1 y2 y3 y4 y5 y6 y7 y8 y9 y10 y11 y12, LeO (revetmentref17_Right.l0 k y0 y1 y2 y3 y4 y5 y6 y7 y8 y9 y10 y11 y12) (revetmentref17_Right.l0 (k + 1) y0 y1 y2 y3 y4 y5 y6 y7 y8 y9 y10 y11 y12)) ∧ (∀ y0 y1 y2 y3 y4 y5 y6 y7 y8 y9 y10 y11 y12 y13 y14 y15 y16 y17, LeO (revetmentref17_Right.j2 k y0 y1 y2 y3 y4 y5 y6 y7 y8 y9 y10 y11 y12 y13 y14 y15 y16 y17) (revetmentref17_Right.j2 (k + 1) y0 y1 y2 y3 y4 y5 y6 y7 y8 y9 y10 y11 y12 y13 y14 y15 y16 y17))
 | 0 => ⟨fun _ _ _ _ _ _ _ _ _ _ _ _ _ r h => by simp [revetmentref17_Right.j0] at h, fun _ _ _ _ _ _ _ _ _ _ _ _ _ r h => by simp [revetmentref17_Right.l0] at h, fun _ _ _ _ _ _ _ _ _ _ _ _ _ _ _ _ _ _ r h => by simp [revetmentref17_Right.j2] at h⟩
 | k + 1 => by
  obtain ⟨ih0, ih1, ih2⟩ := revetmentref17_Right.mono_l k
  refine ⟨?_, ?_, ?_⟩
  ·intro y0 y1 y2 y3 y4 y5 y6 y7 y8 y9 y10 y11 y12
   unfold revetmentref17_Right.j0
   repeat' first
   | (with_reducible exact ih0 _ _ _ _ _ _ _ _ _ _ _ _ _)
   | (with_reducible exact ih1 _ _ _ _ _ _ _ _ _ _ _ _ _)
   | (with_reducible exact ih2 _ _ _ _ _ _ _ _ _ _ _ _ _ _ _ _ _ _)
   | (with_reducible exact LeO.refl _)
   | (with_reducible exact LeO.none _)
   | (with_reducible refine LeO.ite ?_ ?_)
   | (with_reducible refine LeO.bind ?_ (fun _ => ?_))
   | exact ih0 _ _ _ _ _ _ _ _ _ _ _ _ _
   | exact ih1 _ _ _ _ _ _ _ _ _ _ _ _ _
   | exact ih2 _ _ _ _ _ _ _ _ _ _ _ _ _ _ _ _ _ _
   | exact LeO.none _
   | refine LeO.ite ?_ ?_
   | refine LeO.bind ?_ (fun _ => ?_)
  ·intro y0 y1 y2 y3 y4 y5 y6 y7 y8 y9 y10 y11 y12
   unfold revetmentref17_Right.l0
   repeat' first
   | (with_reducible exact ih0 _ _ _ _ _ _ _ _ _ _ _ _ _)
   | (with_reducible exact ih1 _ _ _ _ _ _ _ _ _ _ _ _ _)
   | (with_reducible exact ih2 _ _ _ _ _ _ _ _ _ _ _ _ _ _ _ _ _ _)
   | (with_reducible exact LeO.refl _)
   | (with_reducible exact LeO.none _)
   | (with_reducible refine LeO.ite ?_ ?_)
   | (with_reducible refine LeO.bind ?_ (fun _ => ?_))
   | exact ih0 _ _ _ _ _ _ _ _ _ _ _ _ _
   | exact ih1 _ _ _ _ _ _ _ _ _ _ _ _ _
   | exact ih2 _ _ _ _ _ _ _ _ _ _ _ _ _ _ _ _ _ _
   | exact LeO.none _
   | refine LeO.ite ?_ ?_
   | refine LeO.bind ?_ (fun _ => ?_)
  ·intro y0 y1 y2 y3 y4 y5 y6 y7 y8 y9 y10 y11 y12 y13 y14 y15 y16 y17
   unfold revetmentref17_Right.j2
   repeat' first
   | (with_reducible exact ih0 _ _ _ _ _ _ _ _ _ _ _ _ _)
   | (with_reducible exact ih1 _ _ _ _ _ _ _ _ _ _ _ _ _)
   | (with_reducible exact ih2 _ _ _ _ _ _ _ _ _ _ _ _ _ _ _ _ _ _)
   | (with_reducible exact LeO.refl _)
   | (with_reducible exact LeO.none _)
   | (with_reducible refine LeO.ite ?_ ?_)
   | (with_reducible refine LeO.bind ?_ (fun _ => ?_))
   | exact ih0 _ _ _ _ _ _ _ _ _ _ _ _ _
   | exact ih1 _ _ _ _ _ _ _ _ _ _ _ _ _
   | exact ih2 _ _ _ _ _ _ _ _ _ _ _ _ _ _ _ _ _ _
   | exact LeO.none _
   | refine LeO.ite ?_ ?_
   | refine LeO.bind ?_ (fun _ => ?_)
theorem revetmentref17_Right.mono : ∀ a0 a1 a2 a3 a4 a5 a6 a7 a8 a9 a10 a11 k, LeO (revetmentref17_Right.f k a0 a1 a2 a3 a4 a5 a6 a7 a8 a9 a10 a11) (revetmentref17_Right.f (k + 1) a0 a1 a2 a3 a4 a5 a6 a7 a8 a9 a10 a11) := by
 intro a0 a1 a2 a3 a4 a5 a6 a7 a8 a9 a10 a11 k
 obtain ⟨ih0, ih1, ih2⟩ := revetmentref17_Right.mono_l k
 unfold revetmentref17_Right.f
 repeat' first
   | (with_reducible exact ih0 _ _ _ _ _ _ _ _ _ _ _ _ _)
   | (with_reducible exact ih1 _ _ _ _ _ _ _ _ _ _ _ _ _)
   | (with_reducible exact ih2 _ _ _ _ _ _ _ _ _ _ _ _ _ _ _ _ _ _)
   | (with_reducible exact LeO.refl _)
   | (with_reducible exact LeO.none _)
   | (with_reducible refine LeO.ite ?_ ?_)
   | (with_reducible refine LeO.bind ?_ (fun _ => ?_))
   | exact ih0 _ _ _ _ _ _ _ _ _ _ _ _ _
   | exact ih1 _ _ _ _ _ _ _ _ _ _ _ _ _
   | exact ih2 _ _ _ _ _ _ _ _ _ _ _ _ _ _ _ _ _ _
   | exact LeO.none _
   | refine LeO.ite ?_ ?_
   | refine LeO.bind ?_ (fun _ => ?_)
def revetmentref17_Right.T6 : Bool × List (List Nat × List Nat) := (true, [([], []), ([0], [0]), ([], []), ([1, 2], [1, 2]), ([3], [3]), ([], []), ([5], [5]), ([6], [6]), ([], []), ([8, 4, 7, 0, 1, 2, 3, 4, 8], [4, 8]), ([7, 9, 0, 1, 2, 3, 4, 5, 6, 7, 8, 9], [7])])
def revetmentref17_Right.B6 : List Nat := [0, 1, 0, 7, 15, 0, 32, 96, 0, 511, 1023]
theorem revetmentref17_Right.tab6 : rtab .any (opsOf Try.f87 6) = revetmentref17_Right.T6 := by kernel_rfl
theorem revetmentref17_Right.bits6 : waitsOk revetmentref17_Right.T6.2 revetmentref17_Right.B6 = true := by kernel_rfl
set_option maxHeartbeats 8000000 in
set_option maxRecDepth 100000 in
theorem revetmentref17_Right.calls (k : Nat) (a0_0 : Int) (a0_1 : Int) (a0_2 : Int) (a0_3 : Int) (a0_4 : Int) (a0_5 : Int) (a0_6 : Int) (a0_7 : Int) (a0_8 : Int) (a0_9 : Int) (a0_10 : Int) (A0_11 : Option Addr) (c0_11 : Nat) (l0_11 : List (S59)) (r : Bool) (w : World) (hr0_11 : Kd.C k59 w A0_11 l0_11.length l0_11) (hc0_11 : l0_11.length ≤ c0_11) (h : revetmentref17_Right.f k a0_0 a0_1 a0_2 a0_3 a0_4 a0_5 a0_6 a0_7 a0_8 a0_9 a0_10 l0_11 = some r) :
  Calls Try.prog 87 #[.agg #[.int .i64 a0_0, .int .i64 a0_1, .int .i64 a0_2, .int .i64 a0_3, .int .i64 a0_4, .int .i64 a0_5, .int .i64 a0_6, .int .i64 a0_7, .int .i64 a0_8, .int .i64 a0_9, .int .i64 a0_10, .slice A0_11 l0_11.length c0_11]] w fun e w' => e = .returned (.bool r) ∧ Below w.heap.size w w' := by
 have hu35 := Try.underlying35
 have hu23 := Try.underlying23
 have hu59 := Try.underlying59
 have HR0_11 := Aside0.mk hr0_11
 have HC0_11 := Aside0.mk hc0_11
 clear hr0_11 hc0_11
 have HB := Aside0.mk (Below.refl w.heap.size w)
 have H : ((revetmentref07_Check.f a0_0 a0_1 a0_2 a0_3 a0_4 a0_5 a0_6 a0_7 a0_8 a0_9 a0_10).bind fun t129 => (if t129 = 0 then (revetmentref17_Right.j0 k ((l0_11.length : Int) != a0_5) a0_0 a0_1 a0_2 a0_3 a0_4 a0_5 a0_6 a0_7 a0_8 a0_9 a0_10 l0_11) else (revetmentref17_Right.j0 k true a0_0 a0_1 a0_2 a0_3 a0_4 a0_5 a0_6 a0_7 a0_8 a0_9 a0_10 l0_11))) = some r := h
 clear h
 have HC2 := Aside0.mk H
 clear H
 go_enter Try.func87, Try.ntmps87
 go_upto_region 1 with (first | ((with_reducible refine gate_dst (N := 1) rfl ?_); (try (refine gate_guard (by rfl) ?_; dsimp only)); refine box_event ?hg (N := 1) ?hd (cs := #[.int .i64 a0_0, .int .i64 a0_1, .int .i64 a0_2, .int .i64 a0_3, .int .i64 a0_4, .int .i64 a0_5, .int .i64 a0_6, .int .i64 a0_7, .int .i64 a0_8, .int .i64 a0_9, .int .i64 a0_10, .slice A0_11 l0_11.length c0_11]) (t := 35) ?hr ?_; (case hd => rfl); (case hg => rfl); (case hr => first | (go_simp; done) | (go_simp; rfl)); intro gb128 hg w3 hbox hb; have n0_ := bst HB hb; have n1_ := Aside0.mk (hbox); have n2_ := Aside0.mk ((by rw [hg]; exact (below_size (bl HB)) : w.heap.size ≤ gb128)); have n3_ := Aside0.mk ((by rw [hg]; exact (below_size (bl HB)) : w.heap.size ≤ gb128)); clear HB; have HB := n0_; have BK128 := n1_; have GW128 := n2_; have GE128 := n3_; clear n0_ n1_ n2_ n3_; clear hb hbox hg))
 (try simp only [Act.put, List.setIfInBounds_toArray, List.set_cons_zero, List.set_cons_succ])
 go_cut [19] (fun v19 wc => ∃ (kq : Nat) (x19_1 : Bool), v19 = .bool x19_1 ∧ Aside0 (revetmentref17_Right.j0 kq x19_1 a0_0 a0_1 a0_2 a0_3 a0_4 a0_5 a0_6 a0_7 a0_8 a0_9 a0_10 l0_11 = some r) ∧ Aside0 (kq ≤ k) ∧ Aside0 (wc.heap[gb128]? = some (.cells #[.int .i64 a0_0, .int .i64 a0_1, .int .i64 a0_2, .int .i64 a0_3, .int .i64 a0_4, .int .i64 a0_5, .int .i64 a0_6, .int .i64 a0_7, .int .i64 a0_8, .int .i64 a0_9, .int .i64 a0_10, (.slice A0_11 l0_11.length c0_11)] 35 (0, 0))) ∧ Aside0 (Below w.heap.size w wc))
 case first =>
  have H := HC2.out
  clear HC2
  replace H := Option.bind_eq_some_iff.mp H
  obtain ⟨t129, A40, H⟩ := H
  replace H : (if t129 = 0 then (revetmentref17_Right.j0 k ((l0_11.length : Int) != a0_5) a0_0 a0_1 a0_2 a0_3 a0_4 a0_5 a0_6 a0_7 a0_8 a0_9 a0_10 l0_11) else (revetmentref17_Right.j0 k true a0_0 a0_1 a0_2 a0_3 a0_4 a0_5 a0_6 a0_7 a0_8 a0_9 a0_10 l0_11)) = some r := H
  have A4 := Aside0.mk A40
  clear A40
  by_cases c5 : t129 = 0
  ·rw [if_pos c5] at H
   have c5b0 : (t129 == 0) = true := beq_iff_eq.mpr c5
   have c5b1 : (t129 != 0) = false := bne_eq_false_iff_eq.mpr c5
   clear c5
   (first | rw [c5b0] | (simp only [i64_w, i32_w]; rw [c5b0]) | skip)
   have H' := Aside0.mk H
   clear H
   obtain ⟨hcz6_0, hcz6_1, hcz6_2, hcz6_3, hcz6_4, hcz6_5, hcz6_6, hcz6_7, hcz6_8, hcz6_9, hcz6_10, hcz6_11⟩ := cz12 BK128.out
   obtain ⟨hfz6_0, hfz6_1, hfz6_2, hfz6_3, hfz6_4, hfz6_5, hfz6_6, hfz6_7, hfz6_8, hfz6_9, hfz6_10, hfz6_11⟩ := fz12 BK128.out
   go_wp2_with (first | ((with_reducible refine gate_callee (f := 13) rfl ?_); refine goesL_ (some 9) rfl rfl Try.func13 (by kernel_rfl) rfl #[.agg #[.int .i64 a0_0, .int .i64 a0_1, .int .i64 a0_2, .int .i64 a0_3, .int .i64 a0_4, .int .i64 a0_5, .int .i64 a0_6, .int .i64 a0_7, .int .i64 a0_8, .int .i64 a0_9, .int .i64 a0_10]] rfl (by (try simp only [List.map_toArray, List.map_cons, List.map_nil]); first | done | rfl | (simp only [List.length_drop, List.length_take]; rfl)) ?_; (with_reducible refine (revetmentref07_Check.calls a0_0 a0_1 a0_2 a0_3 a0_4 a0_5 a0_6 a0_7 a0_8 a0_9 a0_10 t129 _ A4.out).mono ?_); rintro e w7 ⟨rfl, hb⟩; refine ⟨_, rfl, ?_⟩; have n0_ := bkb BK128 hb; have n1_ := bst HB hb; clear BK128; clear HB; have BK128 := n0_; have HB := n1_; clear n0_ n1_; (try clear hb); (try clear hb2); (try clear hk); (try clear hi); obtain ⟨hcz8_0, hcz8_1, hcz8_2, hcz8_3, hcz8_4, hcz8_5, hcz8_6, hcz8_7, hcz8_8, hcz8_9, hcz8_10, hcz8_11⟩ := cz12 BK128.out; obtain ⟨hfz8_0, hfz8_1, hfz8_2, hfz8_3, hfz8_4, hfz8_5, hfz8_6, hfz8_7, hfz8_8, hfz8_9, hfz8_10, hfz8_11⟩ := fz12 BK128.out))
   go_meet
   case rel => exact ⟨_, (((l0_11.length : Int) != a0_5)), (by first | rfl | (simp; done) | (simp [*]; done)), H', ⟨by first | omega | exact Nat.le_refl _⟩, ⟨by (with_reducible repeat (first | refine blk_drewN ?_ _ | refine blk_drew ?_ | refine blk_alloc ?_ _)); exact BK128.out⟩, ⟨bl HB⟩⟩
  ·rw [if_neg c5] at H
   have c5b0 : (t129 == 0) = false := beq_eq_false_iff_ne.mpr c5
   have c5b1 : (t129 != 0) = true := bne_iff_ne.mpr c5
   (first | rw [c5b0] | (simp only [i64_w, i32_w]; rw [c5b0]) | skip)
   have H' := Aside0.mk H
   clear H
   obtain ⟨hcz9_0, hcz9_1, hcz9_2, hcz9_3, hcz9_4, hcz9_5, hcz9_6, hcz9_7, hcz9_8, hcz9_9, hcz9_10, hcz9_11⟩ := cz12 BK128.out
   obtain ⟨hfz9_0, hfz9_1, hfz9_2, hfz9_3, hfz9_4, hfz9_5, hfz9_6, hfz9_7, hfz9_8, hfz9_9, hfz9_10, hfz9_11⟩ := fz12 BK128.out
   go_wp2_with (first | ((with_reducible refine gate_callee (f := 13) rfl ?_); refine goesL_ (some 9) rfl rfl Try.func13 (by kernel_rfl) rfl #[.agg #[.int .i64 a0_0, .int .i64 a0_1, .int .i64 a0_2, .int .i64 a0_3, .int .i64 a0_4, .int .i64 a0_5, .int .i64 a0_6, .int .i64 a0_7, .int .i64 a0_8, .int .i64 a0_9, .int .i64 a0_10]] rfl (by (try simp only [List.map_toArray, List.map_cons, List.map_nil]); first | done | rfl | (simp only [List.length_drop, List.length_take]; rfl)) ?_; (with_reducible refine (revetmentref07_Check.calls a0_0 a0_1 a0_2 a0_3 a0_4 a0_5 a0_6 a0_7 a0_8 a0_9 a0_10 t129 _ A4.out).mono ?_); rintro e w10 ⟨rfl, hb⟩; refine ⟨_, rfl, ?_⟩; have n0_ := bkb BK128 hb; have n1_ := bst HB hb; clear BK128; clear HB; have BK128 := n0_; have HB := n1_; clear n0_ n1_; (try clear hb); (try clear hb2); (try clear hk); (try clear hi)))
   go_meet
   case rel => exact ⟨_, (true), (by first | rfl | (simp; done) | (simp [*]; done)), H', ⟨by first | omega | exact Nat.le_refl _⟩, ⟨by (with_reducible repeat (first | refine blk_drewN ?_ _ | refine blk_drew ?_ | refine blk_alloc ?_ _)); exact BK128.out⟩, ⟨bl HB⟩⟩
 case rest =>
  clear HC2
  try clear c1
  try clear p2
  try clear c5
  try clear c5b0
  try clear c5b1
  try clear c8
  (try clear hcz6_0 hcz6_1)
  (try clear hcz6_10 hcz6_11)
  (try clear hcz6_2 hcz6_3 hcz6_4 hcz6_5 hcz6_6 hcz6_7 hcz6_8 hcz6_9)
  (try clear hcz8_0 hcz8_1)
  (try clear hcz8_10 hcz8_11)
  (try clear hcz8_2 hcz8_3 hcz8_4 hcz8_5 hcz8_6 hcz8_7 hcz8_8 hcz8_9)
  (try clear hcz9_0 hcz9_1)
  (try clear hcz9_10 hcz9_11)
  (try clear hcz9_2 hcz9_3 hcz9_4 hcz9_5 hcz9_6 hcz9_7 hcz9_8 hcz9_9)
  (try clear hfz6_0 hfz6_1)
  (try clear hfz6_10 hfz6_11)
  (try clear hfz6_2 hfz6_3 hfz6_4 hfz6_5 hfz6_6 hfz6_7 hfz6_8 hfz6_9)
  (try clear hfz8_0 hfz8_1)
  (try clear hfz8_10 hfz8_11)
  (try clear hfz8_2 hfz8_3 hfz8_4 hfz8_5 hfz8_6 hfz8_7 hfz8_8 hfz8_9)
  (try clear hfz9_0 hfz9_1)
  (try clear hfz9_10 hfz9_11)
  (try clear hfz9_2 hfz9_3 hfz9_4 hfz9_5 hfz9_6 hfz9_7 hfz9_8 hfz9_9)
  obtain ⟨kq, x19_1, rfl, HA, HJ1, BK128, HB⟩ := hcut
  cases kq with
  | zero => exact absurd HA.out (by simp [revetmentref17_Right.j0])
  | succ kj1 =>
   have H := HA.out
   clear HA
   simp only [revetmentref17_Right.j0] at H
   by_cases c11 : x19_1 = true
   ·subst c11
    have H1 : (some false) = some r := by rw [if_pos rfl] at H; exact H
    clear H
    have H := H1
    clear H1
    obtain rfl := Option.some.inj H
    go_wp2
    go_ret
    exact ⟨by first | rfl | (simp [errW_none, errW_some] <;> rfl) | (simp [*, errW_none, errW_some] <;> rfl), bl HB⟩
   ·replace c11 := Bool.eq_false_iff.mpr c11
    subst c11
    have H1 : (revetmentref17_Right.l0 kj1 0 a0_0 a0_1 a0_2 a0_3 a0_4 a0_5 a0_6 a0_7 a0_8 a0_9 a0_10 l0_11) = some r := by rw [if_neg (show ¬ (false = true) by decide)] at H; exact H
    clear H
    have H := H1
    clear H1
    have H' := Aside0.mk H
    clear H
    go_wp2
    go_loopg [3] kj1 (fun kq v3 w' => ∃ (x3_2 : Int), v3 = .int .i64 x3_2 ∧ Aside0 (revetmentref17_Right.l0 kq x3_2 a0_0 a0_1 a0_2 a0_3 a0_4 a0_5 a0_6 a0_7 a0_8 a0_9 a0_10 l0_11 = some r) ∧ Aside0 (kq ≤ kj1) ∧ Aside0 (w'.heap[gb128]? = some (.cells #[.int .i64 a0_0, .int .i64 a0_1, .int .i64 a0_2, .int .i64 a0_3, .int .i64 a0_4, .int .i64 a0_5, .int .i64 a0_6, .int .i64 a0_7, .int .i64 a0_8, .int .i64 a0_9, .int .i64 a0_10, (.slice A0_11 l0_11.length c0_11)] 35 (0, 0))) ∧ Aside0 (Below w.heap.size w w'))
    case atStart => exact ⟨(0), (by first | rfl | (simp; done) | (simp [*]; done)), H', ⟨Nat.le_refl _⟩, ⟨by (with_reducible repeat (first | refine blk_drewN ?_ _ | refine blk_drew ?_ | refine blk_alloc ?_ _)); exact BK128.out⟩, ⟨bl HB⟩⟩
    case round =>
     clear H'
     try clear c1
     try clear p2
     try clear c5
     try clear c5b0
     try clear c5b1
     try clear c8
     try clear c11
     (try clear hcz6_0 hcz6_1)
     (try clear hcz6_10 hcz6_11)
     (try clear hcz6_2 hcz6_3 hcz6_4 hcz6_5 hcz6_6 hcz6_7 hcz6_8 hcz6_9)
     (try clear hcz8_0 hcz8_1)
     (try clear hcz8_10 hcz8_11)
     (try clear hcz8_2 hcz8_3 hcz8_4 hcz8_5 hcz8_6 hcz8_7 hcz8_8 hcz8_9)
     (try clear hcz9_0 hcz9_1)
     (try clear hcz9_10 hcz9_11)
     (try clear hcz9_2 hcz9_3 hcz9_4 hcz9_5 hcz9_6 hcz9_7 hcz9_8 hcz9_9)
     (try clear hfz6_0 hfz6_1)
     (try clear hfz6_10 hfz6_11)
     (try clear hfz6_2 hfz6_3 hfz6_4 hfz6_5 hfz6_6 hfz6_7 hfz6_8 hfz6_9)
     (try clear hfz8_0 hfz8_1)
     (try clear hfz8_10 hfz8_11)
     (try clear hfz8_2 hfz8_3 hfz8_4 hfz8_5 hfz8_6 hfz8_7 hfz8_8 hfz8_9)
     (try clear hfz9_0 hfz9_1)
     (try clear hfz9_10 hfz9_11)
     (try clear hfz9_2 hfz9_3 hfz9_4 hfz9_5 hfz9_6 hfz9_7 hfz9_8 hfz9_9)
     try clear p2
     obtain ⟨x3_2, rfl, HA, HK2, BK128, HB⟩ := hrel
     cases gk with
     | zero => exact absurd HA.out (by simp [revetmentref17_Right.l0])
     | succ k2 =>
      have H := HA.out
      clear HA
      simp only [revetmentref17_Right.l0] at H
      by_cases c12 : x3_2 < (l0_11.length : Int)
      ·rw [if_pos c12] at H
       have c12b0 : decide (x3_2 < (l0_11.length : Int)) = true := decide_eq_true c12
       clear c12
       by_cases c13 : 0 ≤ x3_2
       ·rw [if_pos c13] at H
        have c13b0 : decide (0 ≤ x3_2) = true := decide_eq_true c13
        clear c13
        replace H := Option.bind_eq_some_iff.mp H
        obtain ⟨t131, A140, H⟩ := H
        replace H : (if ((rd_T59 l0_11 x3_2).f2) < 0 then (revetmentref17_Right.j2 k2 x3_2 t131 true a0_0 a0_1 a0_2 a0_3 a0_4 a0_5 a0_6 a0_7 a0_8 a0_9 a0_10 l0_11 ((rd_T59 l0_11 x3_2).f0) ((rd_T59 l0_11 x3_2).f1) ((rd_T59 l0_11 x3_2).f2)) else (if ((rd_T59 l0_11 x3_2).f2) > 1099511627776 then (revetmentref17_Right.j2 k2 x3_2 t131 true a0_0 a0_1 a0_2 a0_3 a0_4 a0_5 a0_6 a0_7 a0_8 a0_9 a0_10 l0_11 ((rd_T59 l0_11 x3_2).f0) ((rd_T59 l0_11 x3_2).f1) ((rd_T59 l0_11 x3_2).f2)) else (revetmentref17_Right.j2 k2 x3_2 t131 (decide (((rd_T59 l0_11 x3_2).f1) < 0)) a0_0 a0_1 a0_2 a0_3 a0_4 a0_5 a0_6 a0_7 a0_8 a0_9 a0_10 l0_11 ((rd_T59 l0_11 x3_2).f0) ((rd_T59 l0_11 x3_2).f1) ((rd_T59 l0_11 x3_2).f2)))) = some r := H
        have A14 := Aside0.mk A140
        clear A140
        have HC15 := Aside0.mk H
        clear H
        obtain ⟨hcz16_0, hcz16_1, hcz16_2, hcz16_3, hcz16_4, hcz16_5, hcz16_6, hcz16_7, hcz16_8, hcz16_9, hcz16_10, hcz16_11⟩ := cz12 BK128.out
        obtain ⟨hfz16_0, hfz16_1, hfz16_2, hfz16_3, hfz16_4, hfz16_5, hfz16_6, hfz16_7, hfz16_8, hfz16_9, hfz16_10, hfz16_11⟩ := fz12 BK128.out
        try go_wp2
        replace BK128 := Aside0.mk (blk_drew BK128.out)
        replace HB := Aside0.mk (below_drew1 HB.out)
        have p130 : 0 ≤ (x3_2 : Int) := of_decide_eq_true (by first | (with_reducible assumption) | assumption)
        have q130 : x3_2 < (l0_11.length : Int) := of_decide_eq_true (by first | (with_reducible assumption) | assumption)
        obtain ⟨ad130, e130, hx130_0, hx130_1, hx130_2⟩ := at_T59 HR0_11.out x3_2 p130 q130
        have hw130_2 := hx130_2
        have hw130_1 := hx130_1
        have hw130_0 := hx130_0
        cases e130
        replace hx130_0 := (HB.out.cell (World.block_lt_of_cell? w _ hx130_0)).trans hx130_0
        replace hx130_1 := (HB.out.cell (World.block_lt_of_cell? w _ hx130_1)).trans hx130_1
        replace hx130_2 := (HB.out.cell (World.block_lt_of_cell? w _ hx130_2)).trans hx130_2
        replace p130 := eq_true p130
        replace q130 := eq_true q130
        refine start_ (n := 11) (S := fun w' => w'.cell? ⟨gb128, 0, none⟩ = some (.int .i64 a0_0) ∧ w'.cell? ⟨gb128, 1, none⟩ = some (.int .i64 a0_1) ∧ w'.cell? ⟨gb128, 2, none⟩ = some (.int .i64 a0_2) ∧ w'.cell? ⟨gb128, 3, none⟩ = some (.int .i64 a0_3) ∧ w'.cell? ⟨gb128, 4, none⟩ = some (.int .i64 a0_4) ∧ w'.cell? ⟨gb128, 5, none⟩ = some (.int .i64 a0_5) ∧ w'.cell? ⟨gb128, 6, none⟩ = some (.int .i64 a0_6) ∧ w'.cell? ⟨gb128, 7, none⟩ = some (.int .i64 a0_7) ∧ w'.cell? ⟨gb128, 8, none⟩ = some (.int .i64 a0_8) ∧ w'.cell? ⟨gb128, 9, none⟩ = some (.int .i64 a0_9) ∧ w'.cell? ⟨gb128, 10, none⟩ = some (.int .i64 a0_10) ∧ w'.cell? ⟨gb128, 11, none⟩ = some (.slice (some ad130) l0_11.length c0_11) ∧ w'.cell? (ad130.add ((x3_2).toNat * 3)) = some (.int .i64 ((rd_T59 l0_11 x3_2).f0)) ∧ w'.cell? ⟨(ad130.add ((x3_2).toNat * 3)).block, (ad130.add ((x3_2).toNat * 3)).off + 1, none⟩ = some (.int .i64 ((rd_T59 l0_11 x3_2).f1)) ∧ w'.cell? ⟨(ad130.add ((x3_2).toNat * 3)).block, (ad130.add ((x3_2).toNat * 3)).off + 2, none⟩ = some (.int .i64 ((rd_T59 l0_11 x3_2).f2))) (ds := []) (bq 11 0) (by kernel_rfl) rfl rfl ⟨(blk_cell BK128.out 0).trans rfl, (blk_cell BK128.out 1).trans rfl, (blk_cell BK128.out 2).trans rfl, (blk_cell BK128.out 3).trans rfl, (blk_cell BK128.out 4).trans rfl, (blk_cell BK128.out 5).trans rfl, (blk_cell BK128.out 6).trans rfl, (blk_cell BK128.out 7).trans rfl, (blk_cell BK128.out 8).trans rfl, (blk_cell BK128.out 9).trans rfl, (blk_cell BK128.out 10).trans rfl, (blk_cell BK128.out 11).trans rfl, ((HB.out.cell (World.block_lt_of_cell? w _ hw130_0)).trans hw130_0), ((HB.out.cell (World.block_lt_of_cell? w _ hw130_1)).trans hw130_1), ((HB.out.cell (World.block_lt_of_cell? w _ hw130_2)).trans hw130_2)⟩ (fun hHeld => ?_); refine with_tabW revetmentref17_Right.tab6 revetmentref17_Right.bits6 (fun HT_ HW_ => ?_)
        generalize wr.drew = w17 at BK128 HB hx130_0 hx130_1 hx130_2 hHeld ⊢
        apply pu 0 27 (bq 11 1) HT_
        apply pu 2 29 (bq 11 5) HT_
        apply pu 5 32 (bq 11 37) HT_
        apply tu 1 28 (bq 11 39) HT_ HW_ hHeld
        apply pu 3 30 (bq 11 47) HT_
        apply tu 4 31 (bq 11 63) HT_ HW_ hHeld
        apply tu 6 33 (bq 11 127) HT_ HW_ hHeld
        refine join_ (σ := Nat) 2 (bq 11 511) (fun s_ => [(34, .int .i64 t131), (4, .pointer (some ⟨s_, 0, none⟩))]) (fun s_ w' => (w'.cell? ⟨gb128, 0, none⟩ = some (.int .i64 a0_0) ∧ w'.cell? ⟨gb128, 1, none⟩ = some (.int .i64 a0_1) ∧ w'.cell? ⟨gb128, 2, none⟩ = some (.int .i64 a0_2) ∧ w'.cell? ⟨gb128, 3, none⟩ = some (.int .i64 a0_3) ∧ w'.cell? ⟨gb128, 4, none⟩ = some (.int .i64 a0_4) ∧ w'.cell? ⟨gb128, 5, none⟩ = some (.int .i64 a0_5) ∧ w'.cell? ⟨gb128, 6, none⟩ = some (.int .i64 a0_6) ∧ w'.cell? ⟨gb128, 7, none⟩ = some (.int .i64 a0_7) ∧ w'.cell? ⟨gb128, 8, none⟩ = some (.int .i64 a0_8) ∧ w'.cell? ⟨gb128, 9, none⟩ = some (.int .i64 a0_9) ∧ w'.cell? ⟨gb128, 10, none⟩ = some (.int .i64 a0_10) ∧ w'.cell? ⟨gb128, 11, none⟩ = some (.slice (some ad130) l0_11.length c0_11) ∧ w'.cell? (ad130.add ((x3_2).toNat * 3)) = some (.int .i64 ((rd_T59 l0_11 x3_2).f0)) ∧ w'.cell? ⟨(ad130.add ((x3_2).toNat * 3)).block, (ad130.add ((x3_2).toNat * 3)).off + 1, none⟩ = some (.int .i64 ((rd_T59 l0_11 x3_2).f1)) ∧ w'.cell? ⟨(ad130.add ((x3_2).toNat * 3)).block, (ad130.add ((x3_2).toNat * 3)).off + 2, none⟩ = some (.int .i64 ((rd_T59 l0_11 x3_2).f2))) ∧ (w'.heap[gb128]? = some (.cells #[.int .i64 a0_0, .int .i64 a0_1, .int .i64 a0_2, .int .i64 a0_3, .int .i64 a0_4, .int .i64 a0_5, .int .i64 a0_6, .int .i64 a0_7, .int .i64 a0_8, .int .i64 a0_9, .int .i64 a0_10, .slice (some ad130) l0_11.length c0_11] 35 (0, 0))) ∧ (w'.heap[s_]? = some (.cells #[.int .i64 0, .int .i64 0, .int .i64 0] 59 (0, 0))) ∧ (w.heap.size ≤ s_) ∧ (w.heap.size ≤ s_) ∧ (gb128 ≠ s_) ∧ (s_ ≠ gb128) ∧ (Below w.heap.size w w')) ?_ ?_
        rotate_left
        ·intro hCont
         refine two_ (i := 7) (j := 8) (Ni := some 34) (Nj := some 4) (bq 11 255) (bq 11 383) rfl rfl rfl rfl (two_of HT_.out (by kernel_rfl)) (by decide) (by decide) (fun K hK => ?_) (fun K hK => ?_)
         ·skip
          refine gs Try.func41 #[.agg #[.int .i64 a0_0, .int .i64 a0_1, .int .i64 a0_2, .int .i64 a0_3, .int .i64 a0_4, .int .i64 a0_5, .int .i64 a0_6, .int .i64 a0_7, .int .i64 a0_8, .int .i64 a0_9, .int .i64 a0_10]] ?_
          with_reducible refine (revetmentref07_Size.calls a0_0 a0_1 a0_2 a0_3 a0_4 a0_5 a0_6 a0_7 a0_8 a0_9 a0_10 t131 _ A14.out).mono ?_
          rintro e w18 ⟨rfl, hb⟩
          refine ⟨_, rfl, ?_⟩
          replace BK128 := bkb BK128 hb
          replace HB := bst HB hb
          try clear hb; try clear hb2; try clear hk; try clear hi
          refine hK.out _ _ ⟨(blk_cell BK128.out 0).trans rfl, (blk_cell BK128.out 1).trans rfl, (blk_cell BK128.out 2).trans rfl, (blk_cell BK128.out 3).trans rfl, (blk_cell BK128.out 4).trans rfl, (blk_cell BK128.out 5).trans rfl, (blk_cell BK128.out 6).trans rfl, (blk_cell BK128.out 7).trans rfl, (blk_cell BK128.out 8).trans rfl, (blk_cell BK128.out 9).trans rfl, (blk_cell BK128.out 10).trans rfl, (blk_cell BK128.out 11).trans rfl, ((HB.out.cell (World.block_lt_of_cell? w _ hw130_0)).trans hw130_0), ((HB.out.cell (World.block_lt_of_cell? w _ hw130_1)).trans hw130_1), ((HB.out.cell (World.block_lt_of_cell? w _ hw130_2)).trans hw130_2)⟩ (fun hHeld => ?_)
          clear hK K
          apply nm 0
          refine one_ (i := 8) (N := some 4) (bq 11 511) rfl rfl (one_of HT_.out (by kernel_rfl)) (by decide) (fun K hK => ?_)
          refine box_step ?hg (N := 4) ?hd (cs := #[.int .i64 0, .int .i64 0, .int .i64 0]) (t := 59) ?hr ?_; (case hd => rfl); (case hg => rfl); (case hr => first | (go_simp; done) | (go_simp; rfl))
          intro gb132 hg w19 hbox hb
          have n0_ := bkb BK128 hb
          have n1_ := bst HB hb
          have n2_ := Aside0.mk (hbox)
          have n3_ := Aside0.mk ((by rw [hg]; exact (below_size (bl HB)) : w.heap.size ≤ gb132))
          have n4_ := Aside0.mk ((by rw [hg]; exact (below_size (bl HB)) : w.heap.size ≤ gb132))
          have n5_ := Aside0.mk ((by rw [hg]; exact Nat.ne_of_lt (blk_lt (g := gb128) (o := .cells #[.int .i64 a0_0, .int .i64 a0_1, .int .i64 a0_2, .int .i64 a0_3, .int .i64 a0_4, .int .i64 a0_5, .int .i64 a0_6, .int .i64 a0_7, .int .i64 a0_8, .int .i64 a0_9, .int .i64 a0_10, .slice (some ad130) l0_11.length c0_11] 35 (0, 0)) (by (with_reducible repeat (first | refine blk_drewN ?_ _ | refine blk_drew ?_ | refine blk_alloc ?_ _)); exact BK128.out)) : gb128 ≠ gb132))
          have n6_ := Aside0.mk ((by rw [hg]; exact Nat.ne_of_gt (blk_lt (g := gb128) (o := .cells #[.int .i64 a0_0, .int .i64 a0_1, .int .i64 a0_2, .int .i64 a0_3, .int .i64 a0_4, .int .i64 a0_5, .int .i64 a0_6, .int .i64 a0_7, .int .i64 a0_8, .int .i64 a0_9, .int .i64 a0_10, .slice (some ad130) l0_11.length c0_11] 35 (0, 0)) (by (with_reducible repeat (first | refine blk_drewN ?_ _ | refine blk_drew ?_ | refine blk_alloc ?_ _)); exact BK128.out)) : gb132 ≠ gb128))
          clear BK128
          clear HB
          have BK128 := n0_
          have HB := n1_
          have BK132 := n2_
          have GW132 := n3_
          have GE132 := n4_
          have NB128_132 := n5_
          have NB132_128 := n6_
          clear n0_ n1_ n2_ n3_ n4_ n5_ n6_
          clear hb hbox hg
          refine hK.out _ _ ⟨(blk_cell BK128.out 0).trans rfl, (blk_cell BK128.out 1).trans rfl, (blk_cell BK128.out 2).trans rfl, (blk_cell BK128.out 3).trans rfl, (blk_cell BK128.out 4).trans rfl, (blk_cell BK128.out 5).trans rfl, (blk_cell BK128.out 6).trans rfl, (blk_cell BK128.out 7).trans rfl, (blk_cell BK128.out 8).trans rfl, (blk_cell BK128.out 9).trans rfl, (blk_cell BK128.out 10).trans rfl, (blk_cell BK128.out 11).trans rfl, ((HB.out.cell (World.block_lt_of_cell? w _ hw130_0)).trans hw130_0), ((HB.out.cell (World.block_lt_of_cell? w _ hw130_1)).trans hw130_1), ((HB.out.cell (World.block_lt_of_cell? w _ hw130_2)).trans hw130_2)⟩ (fun hHeld => ?_)
          clear hK K
          apply nm 0
          exact norm_ (by simp only [putAll, Act.put, List.setIfInBounds_toArray, List.set_cons_zero, List.set_cons_succ]) (hCont (gb132) _ ⟨hHeld, (by (with_reducible repeat (first | refine blk_drewN ?_ _ | refine blk_drew ?_ | refine blk_alloc ?_ _)); exact BK128.out), (by (with_reducible repeat (first | refine blk_drewN ?_ _ | refine blk_drew ?_ | refine blk_alloc ?_ _)); exact BK132.out), GW132.out, GE132.out, NB128_132.out, NB132_128.out, (bl HB)⟩)
         ·skip
          refine box_step ?hg (N := 4) ?hd (cs := #[.int .i64 0, .int .i64 0, .int .i64 0]) (t := 59) ?hr ?_; (case hd => rfl); (case hg => rfl); (case hr => first | (go_simp; done) | (go_simp; rfl))
          intro gb132 hg w18 hbox hb
          have n0_ := bkb BK128 hb
          have n1_ := bst HB hb
          have n2_ := Aside0.mk (hbox)
          have n3_ := Aside0.mk ((by rw [hg]; exact (below_size (bl HB)) : w.heap.size ≤ gb132))
          have n4_ := Aside0.mk ((by rw [hg]; exact (below_size (bl HB)) : w.heap.size ≤ gb132))
          have n5_ := Aside0.mk ((by rw [hg]; exact Nat.ne_of_lt (blk_lt (g := gb128) (o := .cells #[.int .i64 a0_0, .int .i64 a0_1, .int .i64 a0_2, .int .i64 a0_3, .int .i64 a0_4, .int .i64 a0_5, .int .i64 a0_6, .int .i64 a0_7, .int .i64 a0_8, .int .i64 a0_9, .int .i64 a0_10, .slice (some ad130) l0_11.length c0_11] 35 (0, 0)) (by (with_reducible repeat (first | refine blk_drewN ?_ _ | refine blk_drew ?_ | refine blk_alloc ?_ _)); exact BK128.out)) : gb128 ≠ gb132))
          have n6_ := Aside0.mk ((by rw [hg]; exact Nat.ne_of_gt (blk_lt (g := gb128) (o := .cells #[.int .i64 a0_0, .int .i64 a0_1, .int .i64 a0_2, .int .i64 a0_3, .int .i64 a0_4, .int .i64 a0_5, .int .i64 a0_6, .int .i64 a0_7, .int .i64 a0_8, .int .i64 a0_9, .int .i64 a0_10, .slice (some ad130) l0_11.length c0_11] 35 (0, 0)) (by (with_reducible repeat (first | refine blk_drewN ?_ _ | refine blk_drew ?_ | refine blk_alloc ?_ _)); exact BK128.out)) : gb132 ≠ gb128))
          clear BK128
          clear HB
          have BK128 := n0_
          have HB := n1_
          have BK132 := n2_
          have GW132 := n3_
          have GE132 := n4_
          have NB128_132 := n5_
          have NB132_128 := n6_
          clear n0_ n1_ n2_ n3_ n4_ n5_ n6_
          clear hb hbox hg
          refine hK.out _ _ ⟨(blk_cell BK128.out 0).trans rfl, (blk_cell BK128.out 1).trans rfl, (blk_cell BK128.out 2).trans rfl, (blk_cell BK128.out 3).trans rfl, (blk_cell BK128.out 4).trans rfl, (blk_cell BK128.out 5).trans rfl, (blk_cell BK128.out 6).trans rfl, (blk_cell BK128.out 7).trans rfl, (blk_cell BK128.out 8).trans rfl, (blk_cell BK128.out 9).trans rfl, (blk_cell BK128.out 10).trans rfl, (blk_cell BK128.out 11).trans rfl, ((HB.out.cell (World.block_lt_of_cell? w _ hw130_0)).trans hw130_0), ((HB.out.cell (World.block_lt_of_cell? w _ hw130_1)).trans hw130_1), ((HB.out.cell (World.block_lt_of_cell? w _ hw130_2)).trans hw130_2)⟩ (fun hHeld => ?_)
          clear hK K
          apply nm 0
          refine one_ (i := 7) (N := some 34) (bq 11 511) rfl rfl (one_of HT_.out (by kernel_rfl)) (by decide) (fun K hK => ?_)
          refine gs Try.func41 #[.agg #[.int .i64 a0_0, .int .i64 a0_1, .int .i64 a0_2, .int .i64 a0_3, .int .i64 a0_4, .int .i64 a0_5, .int .i64 a0_6, .int .i64 a0_7, .int .i64 a0_8, .int .i64 a0_9, .int .i64 a0_10]] ?_
          with_reducible refine (revetmentref07_Size.calls a0_0 a0_1 a0_2 a0_3 a0_4 a0_5 a0_6 a0_7 a0_8 a0_9 a0_10 t131 _ A14.out).mono ?_
          rintro e w19 ⟨rfl, hb⟩
          refine ⟨_, rfl, ?_⟩
          replace BK128 := bkb BK128 hb
          replace BK132 := bkb BK132 hb
          replace HB := bst HB hb
          try clear hb; try clear hb2; try clear hk; try clear hi
          refine hK.out _ _ ⟨(blk_cell BK128.out 0).trans rfl, (blk_cell BK128.out 1).trans rfl, (blk_cell BK128.out 2).trans rfl, (blk_cell BK128.out 3).trans rfl, (blk_cell BK128.out 4).trans rfl, (blk_cell BK128.out 5).trans rfl, (blk_cell BK128.out 6).trans rfl, (blk_cell BK128.out 7).trans rfl, (blk_cell BK128.out 8).trans rfl, (blk_cell BK128.out 9).trans rfl, (blk_cell BK128.out 10).trans rfl, (blk_cell BK128.out 11).trans rfl, ((HB.out.cell (World.block_lt_of_cell? w _ hw130_0)).trans hw130_0), ((HB.out.cell (World.block_lt_of_cell? w _ hw130_1)).trans hw130_1), ((HB.out.cell (World.block_lt_of_cell? w _ hw130_2)).trans hw130_2)⟩ (fun hHeld => ?_)
          clear hK K
          apply nm 0
          exact norm_ (by simp only [putAll, Act.put, List.setIfInBounds_toArray, List.set_cons_zero, List.set_cons_succ]) (hCont (gb132) _ ⟨hHeld, (by (with_reducible repeat (first | refine blk_drewN ?_ _ | refine blk_drew ?_ | refine blk_alloc ?_ _)); exact BK128.out), (by (with_reducible repeat (first | refine blk_drewN ?_ _ | refine blk_drew ?_ | refine blk_alloc ?_ _)); exact BK132.out), GW132.out, GE132.out, NB128_132.out, NB132_128.out, (bl HB)⟩)
        rintro gb132 w20 ⟨hS_, h0_, h1_, h2_, h3_, h4_, h5_, h6_⟩
        have n0_ : Aside0 (w20.heap[gb128]? = some (.cells #[.int .i64 a0_0, .int .i64 a0_1, .int .i64 a0_2, .int .i64 a0_3, .int .i64 a0_4, .int .i64 a0_5, .int .i64 a0_6, .int .i64 a0_7, .int .i64 a0_8, .int .i64 a0_9, .int .i64 a0_10, .slice (some ad130) l0_11.length c0_11] 35 (0, 0))) := ⟨h0_⟩
        have n1_ : Aside0 (w20.heap[gb132]? = some (.cells #[.int .i64 0, .int .i64 0, .int .i64 0] 59 (0, 0))) := ⟨h1_⟩
        have n2_ : Aside0 (w.heap.size ≤ gb132) := ⟨h2_⟩
        have n3_ : Aside0 (w.heap.size ≤ gb132) := ⟨h3_⟩
        have n4_ : Aside0 (gb128 ≠ gb132) := ⟨h4_⟩
        have n5_ : Aside0 (gb132 ≠ gb128) := ⟨h5_⟩
        have n6_ : Aside0 (Below w.heap.size w w20) := ⟨h6_⟩
        clear BK128
        clear HB
        clear h0_ h1_ h2_ h3_ h4_ h5_ h6_
        have BK128 := n0_
        have BK132 := n1_
        have GW132 := n2_
        have GE132 := n3_
        have NB128_132 := n4_
        have NB132_128 := n5_
        have HB := n6_
        clear n0_ n1_ n2_ n3_ n4_ n5_ n6_
        have hHeld : w20.cell? ⟨gb128, 0, none⟩ = some (.int .i64 a0_0) ∧ w20.cell? ⟨gb128, 1, none⟩ = some (.int .i64 a0_1) ∧ w20.cell? ⟨gb128, 2, none⟩ = some (.int .i64 a0_2) ∧ w20.cell? ⟨gb128, 3, none⟩ = some (.int .i64 a0_3) ∧ w20.cell? ⟨gb128, 4, none⟩ = some (.int .i64 a0_4) ∧ w20.cell? ⟨gb128, 5, none⟩ = some (.int .i64 a0_5) ∧ w20.cell? ⟨gb128, 6, none⟩ = some (.int .i64 a0_6) ∧ w20.cell? ⟨gb128, 7, none⟩ = some (.int .i64 a0_7) ∧ w20.cell? ⟨gb128, 8, none⟩ = some (.int .i64 a0_8) ∧ w20.cell? ⟨gb128, 9, none⟩ = some (.int .i64 a0_9) ∧ w20.cell? ⟨gb128, 10, none⟩ = some (.int .i64 a0_10) ∧ w20.cell? ⟨gb128, 11, none⟩ = some (.slice (some ad130) l0_11.length c0_11) ∧ w20.cell? (ad130.add ((x3_2).toNat * 3)) = some (.int .i64 ((rd_T59 l0_11 x3_2).f0)) ∧ w20.cell? ⟨(ad130.add ((x3_2).toNat * 3)).block, (ad130.add ((x3_2).toNat * 3)).off + 1, none⟩ = some (.int .i64 ((rd_T59 l0_11 x3_2).f1)) ∧ w20.cell? ⟨(ad130.add ((x3_2).toNat * 3)).block, (ad130.add ((x3_2).toNat * 3)).off + 2, none⟩ = some (.int .i64 ((rd_T59 l0_11 x3_2).f2)) := hS_
        refine norm_ (a' := ?_) ?_ ?_
        rotate_left
        ·simp only [putAll, Act.put, List.setIfInBounds_toArray, List.set_cons_zero, List.set_cons_succ]
         rfl
        refine one_ (i := 9) (N := none) (bq 11 1023) rfl rfl (one_of HT_.out (by kernel_rfl)) (by decide) (fun K hK => ?_)
        have hs21 : w20.cell? ⟨gb132, 0, none⟩ = some (.int .i64 0) := (blk_cell BK132.out 0).trans rfl
        have hfs21 := blk_frozen BK132.out 0
        have hns21_0 := NB128_132.out
        have hms21_0 := NB132_128.out
        have hs22 : w20.cell? ⟨gb132, 1, none⟩ = some (.int .i64 0) := (blk_cell BK132.out 1).trans rfl
        have hfs22 := blk_frozen BK132.out 1
        have hns22_0 := NB128_132.out
        have hms22_0 := NB132_128.out
        have hs23 : w20.cell? ⟨gb132, 2, none⟩ = some (.int .i64 0) := (blk_cell BK132.out 2).trans rfl
        have hfs23 := blk_frozen BK132.out 2
        have hns23_0 := NB128_132.out
        have hms23_0 := NB132_128.out
        refine skip_ (w1 := ?_) (by rfl) rfl ?_ ?_
        rotate_left
        ·go_simp
         rfl
        refine hK.out _ _ ⟨((cell_far (p := ⟨gb132, _, none⟩) NB128_132.out _).trans (((cell_far (p := ⟨gb132, _, none⟩) NB128_132.out _).trans (((cell_far (p := ⟨gb132, _, none⟩) NB128_132.out _).trans (hHeld.1)))))), ((cell_far (p := ⟨gb132, _, none⟩) NB128_132.out _).trans (((cell_far (p := ⟨gb132, _, none⟩) NB128_132.out _).trans (((cell_far (p := ⟨gb132, _, none⟩) NB128_132.out _).trans (hHeld.2.1)))))), ((cell_far (p := ⟨gb132, _, none⟩) NB128_132.out _).trans (((cell_far (p := ⟨gb132, _, none⟩) NB128_132.out _).trans (((cell_far (p := ⟨gb132, _, none⟩) NB128_132.out _).trans (hHeld.2.2.1)))))), ((cell_far (p := ⟨gb132, _, none⟩) NB128_132.out _).trans (((cell_far (p := ⟨gb132, _, none⟩) NB128_132.out _).trans (((cell_far (p := ⟨gb132, _, none⟩) NB128_132.out _).trans (hHeld.2.2.2.1)))))), ((cell_far (p := ⟨gb132, _, none⟩) NB128_132.out _).trans (((cell_far (p := ⟨gb132, _, none⟩) NB128_132.out _).trans (((cell_far (p := ⟨gb132, _, none⟩) NB128_132.out _).trans (hHeld.2.2.2.2.1)))))), ((cell_far (p := ⟨gb132, _, none⟩) NB128_132.out _).trans (((cell_far (p := ⟨gb132, _, none⟩) NB128_132.out _).trans (((cell_far (p := ⟨gb132, _, none⟩) NB128_132.out _).trans (hHeld.2.2.2.2.2.1)))))), ((cell_far (p := ⟨gb132, _, none⟩) NB128_132.out _).trans (((cell_far (p := ⟨gb132, _, none⟩) NB128_132.out _).trans (((cell_far (p := ⟨gb132, _, none⟩) NB128_132.out _).trans (hHeld.2.2.2.2.2.2.1)))))), ((cell_far (p := ⟨gb132, _, none⟩) NB128_132.out _).trans (((cell_far (p := ⟨gb132, _, none⟩) NB128_132.out _).trans (((cell_far (p := ⟨gb132, _, none⟩) NB128_132.out _).trans (hHeld.2.2.2.2.2.2.2.1)))))), ((cell_far (p := ⟨gb132, _, none⟩) NB128_132.out _).trans (((cell_far (p := ⟨gb132, _, none⟩) NB128_132.out _).trans (((cell_far (p := ⟨gb132, _, none⟩) NB128_132.out _).trans (hHeld.2.2.2.2.2.2.2.2.1)))))), ((cell_far (p := ⟨gb132, _, none⟩) NB128_132.out _).trans (((cell_far (p := ⟨gb132, _, none⟩) NB128_132.out _).trans (((cell_far (p := ⟨gb132, _, none⟩) NB128_132.out _).trans (hHeld.2.2.2.2.2.2.2.2.2.1)))))), ((cell_far (p := ⟨gb132, _, none⟩) NB128_132.out _).trans (((cell_far (p := ⟨gb132, _, none⟩) NB128_132.out _).trans (((cell_far (p := ⟨gb132, _, none⟩) NB128_132.out _).trans (hHeld.2.2.2.2.2.2.2.2.2.2.1)))))), ((cell_far (p := ⟨gb132, _, none⟩) NB128_132.out _).trans (((cell_far (p := ⟨gb132, _, none⟩) NB128_132.out _).trans (((cell_far (p := ⟨gb132, _, none⟩) NB128_132.out _).trans (hHeld.2.2.2.2.2.2.2.2.2.2.2.1)))))), ((cell_far (p := ⟨gb132, _, none⟩) (by first | exact Nat.ne_of_lt (Nat.lt_of_lt_of_le (by have := World.block_lt_of_cell? _ _ hw130_0; first | rwa [add_block] at this | exact this) GW132.out) | (rw [add_block]; exact Nat.ne_of_lt (Nat.lt_of_lt_of_le (by have := World.block_lt_of_cell? _ _ hw130_0; first | rwa [add_block] at this | exact this) GW132.out)) | (show (Addr.add _ _).block ≠ _; rw [add_block]; exact Nat.ne_of_lt (Nat.lt_of_lt_of_le (by have := World.block_lt_of_cell? _ _ hw130_0; first | rwa [add_block] at this | exact this) GW132.out)) | (dsimp only; exact Nat.ne_of_lt (Nat.lt_of_lt_of_le (by have := World.block_lt_of_cell? _ _ hw130_0; first | rwa [add_block] at this | exact this) GW132.out))) _).trans (((cell_far (p := ⟨gb132, _, none⟩) (by first | exact Nat.ne_of_lt (Nat.lt_of_lt_of_le (by have := World.block_lt_of_cell? _ _ hw130_0; first | rwa [add_block] at this | exact this) GW132.out) | (rw [add_block]; exact Nat.ne_of_lt (Nat.lt_of_lt_of_le (by have := World.block_lt_of_cell? _ _ hw130_0; first | rwa [add_block] at this | exact this) GW132.out)) | (show (Addr.add _ _).block ≠ _; rw [add_block]; exact Nat.ne_of_lt (Nat.lt_of_lt_of_le (by have := World.block_lt_of_cell? _ _ hw130_0; first | rwa [add_block] at this | exact this) GW132.out)) | (dsimp only; exact Nat.ne_of_lt (Nat.lt_of_lt_of_le (by have := World.block_lt_of_cell? _ _ hw130_0; first | rwa [add_block] at this | exact this) GW132.out))) _).trans (((cell_far (p := ⟨gb132, _, none⟩) (by first | exact Nat.ne_of_lt (Nat.lt_of_lt_of_le (by have := World.block_lt_of_cell? _ _ hw130_0; first | rwa [add_block] at this | exact this) GW132.out) | (rw [add_block]; exact Nat.ne_of_lt (Nat.lt_of_lt_of_le (by have := World.block_lt_of_cell? _ _ hw130_0; first | rwa [add_block] at this | exact this) GW132.out)) | (show (Addr.add _ _).block ≠ _; rw [add_block]; exact Nat.ne_of_lt (Nat.lt_of_lt_of_le (by have := World.block_lt_of_cell? _ _ hw130_0; first | rwa [add_block] at this | exact this) GW132.out)) | (dsimp only; exact Nat.ne_of_lt (Nat.lt_of_lt_of_le (by have := World.block_lt_of_cell? _ _ hw130_0; first | rwa [add_block] at this | exact this) GW132.out))) _).trans (hHeld.2.2.2.2.2.2.2.2.2.2.2.2.1)))))), ((cell_far (p := ⟨gb132, _, none⟩) (by first | exact Nat.ne_of_lt (Nat.lt_of_lt_of_le (by have := World.block_lt_of_cell? _ _ hw130_1; first | rwa [add_block] at this | exact this) GW132.out) | (rw [add_block]; exact Nat.ne_of_lt (Nat.lt_of_lt_of_le (by have := World.block_lt_of_cell? _ _ hw130_1; first | rwa [add_block] at this | exact this) GW132.out)) | (show (Addr.add _ _).block ≠ _; rw [add_block]; exact Nat.ne_of_lt (Nat.lt_of_lt_of_le (by have := World.block_lt_of_cell? _ _ hw130_1; first | rwa [add_block] at this | exact this) GW132.out)) | (dsimp only; exact Nat.ne_of_lt (Nat.lt_of_lt_of_le (by have := World.block_lt_of_cell? _ _ hw130_1; first | rwa [add_block] at this | exact this) GW132.out))) _).trans (((cell_far (p := ⟨gb132, _, none⟩) (by first | exact Nat.ne_of_lt (Nat.lt_of_lt_of_le (by have := World.block_lt_of_cell? _ _ hw130_1; first | rwa [add_block] at this | exact this) GW132.out) | (rw [add_block]; exact Nat.ne_of_lt (Nat.lt_of_lt_of_le (by have := World.block_lt_of_cell? _ _ hw130_1; first | rwa [add_block] at this | exact this) GW132.out)) | (show (Addr.add _ _).block ≠ _; rw [add_block]; exact Nat.ne_of_lt (Nat.lt_of_lt_of_le (by have := World.block_lt_of_cell? _ _ hw130_1; first | rwa [add_block] at this | exact this) GW132.out)) | (dsimp only; exact Nat.ne_of_lt (Nat.lt_of_lt_of_le (by have := World.block_lt_of_cell? _ _ hw130_1; first | rwa [add_block] at this | exact this) GW132.out))) _).trans (((cell_far (p := ⟨gb132, _, none⟩) (by first | exact Nat.ne_of_lt (Nat.lt_of_lt_of_le (by have := World.block_lt_of_cell? _ _ hw130_1; first | rwa [add_block] at this | exact this) GW132.out) | (rw [add_block]; exact Nat.ne_of_lt (Nat.lt_of_lt_of_le (by have := World.block_lt_of_cell? _ _ hw130_1; first | rwa [add_block] at this | exact this) GW132.out)) | (show (Addr.add _ _).block ≠ _; rw [add_block]; exact Nat.ne_of_lt (Nat.lt_of_lt_of_le (by have := World.block_lt_of_cell? _ _ hw130_1; first | rwa [add_block] at this | exact this) GW132.out)) | (dsimp only; exact Nat.ne_of_lt (Nat.lt_of_lt_of_le (by have := World.block_lt_of_cell? _ _ hw130_1; first | rwa [add_block] at this | exact this) GW132.out))) _).trans (hHeld.2.2.2.2.2.2.2.2.2.2.2.2.2.1)))))), ((cell_far (p := ⟨gb132, _, none⟩) (by first | exact Nat.ne_of_lt (Nat.lt_of_lt_of_le (by have := World.block_lt_of_cell? _ _ hw130_2; first | rwa [add_block] at this | exact this) GW132.out) | (rw [add_block]; exact Nat.ne_of_lt (Nat.lt_of_lt_of_le (by have := World.block_lt_of_cell? _ _ hw130_2; first | rwa [add_block] at this | exact this) GW132.out)) | (show (Addr.add _ _).block ≠ _; rw [add_block]; exact Nat.ne_of_lt (Nat.lt_of_lt_of_le (by have := World.block_lt_of_cell? _ _ hw130_2; first | rwa [add_block] at this | exact this) GW132.out)) | (dsimp only; exact Nat.ne_of_lt (Nat.lt_of_lt_of_le (by have := World.block_lt_of_cell? _ _ hw130_2; first | rwa [add_block] at this | exact this) GW132.out))) _).trans (((cell_far (p := ⟨gb132, _, none⟩) (by first | exact Nat.ne_of_lt (Nat.lt_of_lt_of_le (by have := World.block_lt_of_cell? _ _ hw130_2; first | rwa [add_block] at this | exact this) GW132.out) | (rw [add_block]; exact Nat.ne_of_lt (Nat.lt_of_lt_of_le (by have := World.block_lt_of_cell? _ _ hw130_2; first | rwa [add_block] at this | exact this) GW132.out)) | (show (Addr.add _ _).block ≠ _; rw [add_block]; exact Nat.ne_of_lt (Nat.lt_of_lt_of_le (by have := World.block_lt_of_cell? _ _ hw130_2; first | rwa [add_block] at this | exact this) GW132.out)) | (dsimp only; exact Nat.ne_of_lt (Nat.lt_of_lt_of_le (by have := World.block_lt_of_cell? _ _ hw130_2; first | rwa [add_block] at this | exact this) GW132.out))) _).trans (((cell_far (p := ⟨gb132, _, none⟩) (by first | exact Nat.ne_of_lt (Nat.lt_of_lt_of_le (by have := World.block_lt_of_cell? _ _ hw130_2; first | rwa [add_block] at this | exact this) GW132.out) | (rw [add_block]; exact Nat.ne_of_lt (Nat.lt_of_lt_of_le (by have := World.block_lt_of_cell? _ _ hw130_2; first | rwa [add_block] at this | exact this) GW132.out)) | (show (Addr.add _ _).block ≠ _; rw [add_block]; exact Nat.ne_of_lt (Nat.lt_of_lt_of_le (by have := World.block_lt_of_cell? _ _ hw130_2; first | rwa [add_block] at this | exact this) GW132.out)) | (dsimp only; exact Nat.ne_of_lt (Nat.lt_of_lt_of_le (by have := World.block_lt_of_cell? _ _ hw130_2; first | rwa [add_block] at this | exact this) GW132.out))) _).trans (hHeld.2.2.2.2.2.2.2.2.2.2.2.2.2.2))))))⟩ (fun hHeld => ?_)
        clear hK K
        apply pu 10 5 (bq 11 2047) HT_
        refine done_ (done_of HT_.out (by kernel_rfl)) ?_
        go_upto_region 7 with (fail)
        go_cut [47] (fun v47 wc => ∃ (kq : Nat) (x47_14 : Bool), v47 = .bool x47_14 ∧ Aside0 (revetmentref17_Right.j2 kq x3_2 t131 x47_14 a0_0 a0_1 a0_2 a0_3 a0_4 a0_5 a0_6 a0_7 a0_8 a0_9 a0_10 l0_11 ((rd_T59 l0_11 x3_2).f0) ((rd_T59 l0_11 x3_2).f1) ((rd_T59 l0_11 x3_2).f2) = some r) ∧ Aside0 (kq ≤ k2) ∧ Aside0 (wc.heap[gb128]? = some (.cells #[.int .i64 a0_0, .int .i64 a0_1, .int .i64 a0_2, .int .i64 a0_3, .int .i64 a0_4, .int .i64 a0_5, .int .i64 a0_6, .int .i64 a0_7, .int .i64 a0_8, .int .i64 a0_9, .int .i64 a0_10, (.slice (some ad130) l0_11.length c0_11)] 35 (0, 0))) ∧ Aside0 (wc.heap[gb132]? = some (.cells #[.int .i64 ((rd_T59 l0_11 x3_2).f0), .int .i64 ((rd_T59 l0_11 x3_2).f1), .int .i64 ((rd_T59 l0_11 x3_2).f2)] 59 (0, 0))) ∧ Aside0 (Below w.heap.size w wc))
        case first =>
         have H := HC15.out
         clear HC15
         by_cases c24 : ((rd_T59 l0_11 x3_2).f2) < 0
         ·rw [if_pos c24] at H
          have c24b0 : decide (((rd_T59 l0_11 x3_2).f2) < 0) = true := decide_eq_true c24
          clear c24
          (first | rw [c24b0] | (simp only [i64_w, i32_w]; rw [c24b0]) | skip)
          have H' := Aside0.mk H
          clear H
          have hnb25 := NB132_128.out
          have hnc25 := NB128_132.out
          have hcz26_0 : w20.cell? ⟨gb132, 0, none⟩ = some (.int .i64 0) := (blk_cell BK132.out 0).trans rfl
          have hcz26_1 : w20.cell? ⟨gb132, 1, none⟩ = some (.int .i64 0) := (blk_cell BK132.out 1).trans rfl
          have hcz26_2 : w20.cell? ⟨gb132, 2, none⟩ = some (.int .i64 0) := (blk_cell BK132.out 2).trans rfl
          have hfz26_0 := blk_frozen BK132.out 0
          have hfz26_1 := blk_frozen BK132.out 1
          have hfz26_2 := blk_frozen BK132.out 2
          go_wp2
          go_meet
          case rel => exact ⟨_, (true), (by first | rfl | (simp; done) | (simp [*]; done)), H', ⟨by have := HJ1.out; have := HK2.out; first | omega | exact Nat.le_refl _⟩, ⟨by (with_reducible repeat (first | refine blk_drewN ?_ _ | refine blk_drew ?_ | refine blk_alloc ?_ _)); refine blk_far ?_ NB128_132.out _; (with_reducible repeat (first | refine blk_drewN ?_ _ | refine blk_drew ?_ | refine blk_alloc ?_ _)); refine blk_far ?_ NB128_132.out _; (with_reducible repeat (first | refine blk_drewN ?_ _ | refine blk_drew ?_ | refine blk_alloc ?_ _)); refine blk_far ?_ NB128_132.out _; (with_reducible repeat (first | refine blk_drewN ?_ _ | refine blk_drew ?_ | refine blk_alloc ?_ _)); exact BK128.out⟩, ⟨by (with_reducible repeat (first | refine blk_drewN ?_ _ | refine blk_drew ?_ | refine blk_alloc ?_ _)); refine blk_put (cs := #[.int .i64 ((rd_T59 l0_11 x3_2).f0), .int .i64 ((rd_T59 l0_11 x3_2).f1), .int .i64 0]) ?_ 2 _ rfl; (with_reducible repeat (first | refine blk_drewN ?_ _ | refine blk_drew ?_ | refine blk_alloc ?_ _)); refine blk_put (cs := #[.int .i64 ((rd_T59 l0_11 x3_2).f0), .int .i64 0, .int .i64 0]) ?_ 1 _ rfl; (with_reducible repeat (first | refine blk_drewN ?_ _ | refine blk_drew ?_ | refine blk_alloc ?_ _)); refine blk_put (cs := #[.int .i64 0, .int .i64 0, .int .i64 0]) ?_ 0 _ rfl; (with_reducible repeat (first | refine blk_drewN ?_ _ | refine blk_drew ?_ | refine blk_alloc ?_ _)); exact BK132.out⟩, ⟨bl HB⟩⟩
         ·rw [if_neg c24] at H
          have c24b0 : decide (((rd_T59 l0_11 x3_2).f2) < 0) = false := decide_eq_false c24
          clear c24
          (first | rw [c24b0] | (simp only [i64_w, i32_w]; rw [c24b0]) | skip)
          by_cases c27 : ((rd_T59 l0_11 x3_2).f2) > 1099511627776
          ·rw [if_pos c27] at H
           have c27b0 : decide (1099511627776 < ((rd_T59 l0_11 x3_2).f2)) = true := decide_eq_true c27
           clear c27
           have H' := Aside0.mk H
           clear H
           have hnb28 := NB132_128.out
           have hnc28 := NB128_132.out
           have hcz29_0 : w20.cell? ⟨gb132, 0, none⟩ = some (.int .i64 0) := (blk_cell BK132.out 0).trans rfl
           have hcz29_1 : w20.cell? ⟨gb132, 1, none⟩ = some (.int .i64 0) := (blk_cell BK132.out 1).trans rfl
           have hcz29_2 : w20.cell? ⟨gb132, 2, none⟩ = some (.int .i64 0) := (blk_cell BK132.out 2).trans rfl
           have hfz29_0 := blk_frozen BK132.out 0
           have hfz29_1 := blk_frozen BK132.out 1
           have hfz29_2 := blk_frozen BK132.out 2
           go_wp2
           go_meet
           case rel => exact ⟨_, (true), (by first | rfl | (simp; done) | (simp [*]; done)), H', ⟨by have := HJ1.out; have := HK2.out; first | omega | exact Nat.le_refl _⟩, ⟨by (with_reducible repeat (first | refine blk_drewN ?_ _ | refine blk_drew ?_ | refine blk_alloc ?_ _)); refine blk_far ?_ NB128_132.out _; (with_reducible repeat (first | refine blk_drewN ?_ _ | refine blk_drew ?_ | refine blk_alloc ?_ _)); refine blk_far ?_ NB128_132.out _; (with_reducible repeat (first | refine blk_drewN ?_ _ | refine blk_drew ?_ | refine blk_alloc ?_ _)); refine blk_far ?_ NB128_132.out _; (with_reducible repeat (first | refine blk_drewN ?_ _ | refine blk_drew ?_ | refine blk_alloc ?_ _)); exact BK128.out⟩, ⟨by (with_reducible repeat (first | refine blk_drewN ?_ _ | refine blk_drew ?_ | refine blk_alloc ?_ _)); refine blk_put (cs := #[.int .i64 ((rd_T59 l0_11 x3_2).f0), .int .i64 ((rd_T59 l0_11 x3_2).f1), .int .i64 0]) ?_ 2 _ rfl; (with_reducible repeat (first | refine blk_drewN ?_ _ | refine blk_drew ?_ | refine blk_alloc ?_ _)); refine blk_put (cs := #[.int .i64 ((rd_T59 l0_11 x3_2).f0), .int .i64 0, .int .i64 0]) ?_ 1 _ rfl; (with_reducible repeat (first | refine blk_drewN ?_ _ | refine blk_drew ?_ | refine blk_alloc ?_ _)); refine blk_put (cs := #[.int .i64 0, .int .i64 0, .int .i64 0]) ?_ 0 _ rfl; (with_reducible repeat (first | refine blk_drewN ?_ _ | refine blk_drew ?_ | refine blk_alloc ?_ _)); exact BK132.out⟩, ⟨bl HB⟩⟩
          ·rw [if_neg c27] at H
           have c27b0 : decide (1099511627776 < ((rd_T59 l0_11 x3_2).f2)) = false := decide_eq_false c27
           clear c27
           have H' := Aside0.mk H
           clear H
           have hnb30 := NB132_128.out
           have hnc30 := NB128_132.out
           have hcz31_0 : w20.cell? ⟨gb132, 0, none⟩ = some (.int .i64 0) := (blk_cell BK132.out 0).trans rfl
           have hcz31_1 : w20.cell? ⟨gb132, 1, none⟩ = some (.int .i64 0) := (blk_cell BK132.out 1).trans rfl
           have hcz31_2 : w20.cell? ⟨gb132, 2, none⟩ = some (.int .i64 0) := (blk_cell BK132.out 2).trans rfl
           have hfz31_0 := blk_frozen BK132.out 0
           have hfz31_1 := blk_frozen BK132.out 1
           have hfz31_2 := blk_frozen BK132.out 2
           go_wp2
           go_meet
           case rel => exact ⟨_, (decide (((rd_T59 l0_11 x3_2).f1) < 0)), (by first | rfl | (simp; done) | (simp [*]; done)), H', ⟨by have := HJ1.out; have := HK2.out; first | omega | exact Nat.le_refl _⟩, ⟨by (with_reducible repeat (first | refine blk_drewN ?_ _ | refine blk_drew ?_ | refine blk_alloc ?_ _)); refine blk_far ?_ NB128_132.out _; (with_reducible repeat (first | refine blk_drewN ?_ _ | refine blk_drew ?_ | refine blk_alloc ?_ _)); refine blk_far ?_ NB128_132.out _; (with_reducible repeat (first | refine blk_drewN ?_ _ | refine blk_drew ?_ | refine blk_alloc ?_ _)); refine blk_far ?_ NB128_132.out _; (with_reducible repeat (first | refine blk_drewN ?_ _ | refine blk_drew ?_ | refine blk_alloc ?_ _)); exact BK128.out⟩, ⟨by (with_reducible repeat (first | refine blk_drewN ?_ _ | refine blk_drew ?_ | refine blk_alloc ?_ _)); refine blk_put (cs := #[.int .i64 ((rd_T59 l0_11 x3_2).f0), .int .i64 ((rd_T59 l0_11 x3_2).f1), .int .i64 0]) ?_ 2 _ rfl; (with_reducible repeat (first | refine blk_drewN ?_ _ | refine blk_drew ?_ | refine blk_alloc ?_ _)); refine blk_put (cs := #[.int .i64 ((rd_T59 l0_11 x3_2).f0), .int .i64 0, .int .i64 0]) ?_ 1 _ rfl; (with_reducible repeat (first | refine blk_drewN ?_ _ | refine blk_drew ?_ | refine blk_alloc ?_ _)); refine blk_put (cs := #[.int .i64 0, .int .i64 0, .int .i64 0]) ?_ 0 _ rfl; (with_reducible repeat (first | refine blk_drewN ?_ _ | refine blk_drew ?_ | refine blk_alloc ?_ _)); exact BK132.out⟩, ⟨bl HB⟩⟩
        case rest =>
         clear HC15
         try clear c1
         try clear p1
         try clear q1
         try clear hx1
         try clear c2
         try clear p2
         try clear c3
         try clear c4
         try clear c5
         try clear c5b0
         try clear c5b1
         try clear c8
         try clear c11
         try clear c12
         try clear c12b0
         try clear c13
         try clear c13b0
         try clear p13
         try clear q13
         try clear hx13
         try clear c24
         try clear c24b0
         try clear c25
         try clear c27
         try clear c27b0
         try clear c28
         try clear c30
         (try clear hcz16_0 hcz16_1)
         (try clear hcz16_10 hcz16_11)
         (try clear hcz16_2 hcz16_3 hcz16_4 hcz16_5 hcz16_6 hcz16_7 hcz16_8 hcz16_9)
         (try clear hcz26_0 hcz26_1 hcz26_2)
         (try clear hcz29_0 hcz29_1 hcz29_2)
         (try clear hcz31_0 hcz31_1 hcz31_2)
         (try clear hcz6_0 hcz6_1)
         (try clear hcz6_10 hcz6_11)
         (try clear hcz6_2 hcz6_3 hcz6_4 hcz6_5 hcz6_6 hcz6_7 hcz6_8 hcz6_9)
         (try clear hcz8_0 hcz8_1)
         (try clear hcz8_10 hcz8_11)
         (try clear hcz8_2 hcz8_3 hcz8_4 hcz8_5 hcz8_6 hcz8_7 hcz8_8 hcz8_9)
         (try clear hcz9_0 hcz9_1)
         (try clear hcz9_10 hcz9_11)
         (try clear hcz9_2 hcz9_3 hcz9_4 hcz9_5 hcz9_6 hcz9_7 hcz9_8 hcz9_9)
         (try clear hfz16_0 hfz16_1)
         (try clear hfz16_10 hfz16_11)
         (try clear hfz16_2 hfz16_3 hfz16_4 hfz16_5 hfz16_6 hfz16_7 hfz16_8 hfz16_9)
         (try clear hfz26_0 hfz26_1 hfz26_2)
         (try clear hfz29_0 hfz29_1 hfz29_2)
         (try clear hfz31_0 hfz31_1 hfz31_2)
         (try clear hfz6_0 hfz6_1)
         (try clear hfz6_10 hfz6_11)
         (try clear hfz6_2 hfz6_3 hfz6_4 hfz6_5 hfz6_6 hfz6_7 hfz6_8 hfz6_9)
         (try clear hfz8_0 hfz8_1)
         (try clear hfz8_10 hfz8_11)
         (try clear hfz8_2 hfz8_3 hfz8_4 hfz8_5 hfz8_6 hfz8_7 hfz8_8 hfz8_9)
         (try clear hfz9_0 hfz9_1)
         (try clear hfz9_10 hfz9_11)
         (try clear hfz9_2 hfz9_3 hfz9_4 hfz9_5 hfz9_6 hfz9_7 hfz9_8 hfz9_9)
         try clear hx130_0
         try clear hx130_1
         try clear hx130_2
         try clear p130
         try clear p2
         try clear q130
         obtain ⟨kq, x47_14, rfl, HA, HJ14, BK128, BK132, HB⟩ := hcut
         cases kq with
         | zero => exact absurd HA.out (by simp [revetmentref17_Right.j2])
         | succ kj14 =>
          have H := HA.out
          clear HA
          simp only [revetmentref17_Right.j2] at H
          by_cases c32 : x47_14 = true
          ·subst c32
           have H1 : (some false) = some r := by rw [if_pos rfl] at H; exact H
           clear H
           have H := H1
           clear H1
           obtain rfl := Option.some.inj H
           go_wp2
           go_ret
           exact ⟨by first | rfl | (simp [errW_none, errW_some] <;> rfl) | (simp [*, errW_none, errW_some] <;> rfl), bl HB⟩
          ·replace c32 := Bool.eq_false_iff.mpr c32
           subst c32
           have H1 : (if ((rd_T59 l0_11 x3_2).f0) = 0 then (if ((rd_T59 l0_11 x3_2).f1) = 0 then (revetmentref17_Right.l0 kj14 (wrap64 (x3_2 + 1)) a0_0 a0_1 a0_2 a0_3 a0_4 a0_5 a0_6 a0_7 a0_8 a0_9 a0_10 l0_11) else (if ((rd_T59 l0_11 x3_2).f0) = 1 then (if ((rd_T59 l0_11 x3_2).f1) < t131 then (revetmentref17_Right.l0 kj14 (wrap64 (x3_2 + 1)) a0_0 a0_1 a0_2 a0_3 a0_4 a0_5 a0_6 a0_7 a0_8 a0_9 a0_10 l0_11) else (if ((rd_T59 l0_11 x3_2).f0) = 2 then (if ((rd_T59 l0_11 x3_2).f1) > 0 then (if ((rd_T59 l0_11 x3_2).f0) = 3 then (if ((rd_T59 l0_11 x3_2).f1) ≤ t131 then (revetmentref17_Right.l0 kj14 (wrap64 (x3_2 + 1)) a0_0 a0_1 a0_2 a0_3 a0_4 a0_5 a0_6 a0_7 a0_8 a0_9 a0_10 l0_11) else (some false)) else (some false)) else (if ((rd_T59 l0_11 x3_2).f0) = 3 then (if ((rd_T59 l0_11 x3_2).f1) ≤ t131 then (revetmentref17_Right.l0 kj14 (wrap64 (x3_2 + 1)) a0_0 a0_1 a0_2 a0_3 a0_4 a0_5 a0_6 a0_7 a0_8 a0_9 a0_10 l0_11) else (some false)) else (some false))) else (if ((rd_T59 l0_11 x3_2).f0) = 3 then (if ((rd_T59 l0_11 x3_2).f1) ≤ t131 then (revetmentref17_Right.l0 kj14 (wrap64 (x3_2 + 1)) a0_0 a0_1 a0_2 a0_3 a0_4 a0_5 a0_6 a0_7 a0_8 a0_9 a0_10 l0_11) else (some false)) else (some false)))) else (if ((rd_T59 l0_11 x3_2).f0) = 2 then (if ((rd_T59 l0_11 x3_2).f1) > 0 then (if ((rd_T59 l0_11 x3_2).f1) < t131 then (revetmentref17_Right.l0 kj14 (wrap64 (x3_2 + 1)) a0_0 a0_1 a0_2 a0_3 a0_4 a0_5 a0_6 a0_7 a0_8 a0_9 a0_10 l0_11) else (if ((rd_T59 l0_11 x3_2).f0) = 3 then (if ((rd_T59 l0_11 x3_2).f1) ≤ t131 then (revetmentref17_Right.l0 kj14 (wrap64 (x3_2 + 1)) a0_0 a0_1 a0_2 a0_3 a0_4 a0_5 a0_6 a0_7 a0_8 a0_9 a0_10 l0_11) else (some false)) else (some false))) else (if ((rd_T59 l0_11 x3_2).f0) = 3 then (if ((rd_T59 l0_11 x3_2).f1) ≤ t131 then (revetmentref17_Right.l0 kj14 (wrap64 (x3_2 + 1)) a0_0 a0_1 a0_2 a0_3 a0_4 a0_5 a0_6 a0_7 a0_8 a0_9 a0_10 l0_11) else (some false)) else (some false))) else (if ((rd_T59 l0_11 x3_2).f0) = 3 then (if ((rd_T59 l0_11 x3_2).f1) ≤ t131 then (revetmentref17_Right.l0 kj14 (wrap64 (x3_2 + 1)) a0_0 a0_1 a0_2 a0_3 a0_4 a0_5 a0_6 a0_7 a0_8 a0_9 a0_10 l0_11) else (some false)) else (some false))))) else (if ((rd_T59 l0_11 x3_2).f0) = 1 then (if ((rd_T59 l0_11 x3_2).f1) < t131 then (revetmentref17_Right.l0 kj14 (wrap64 (x3_2 + 1)) a0_0 a0_1 a0_2 a0_3 a0_4 a0_5 a0_6 a0_7 a0_8 a0_9 a0_10 l0_11) else (if ((rd_T59 l0_11 x3_2).f0) = 2 then (if ((rd_T59 l0_11 x3_2).f1) > 0 then (if ((rd_T59 l0_11 x3_2).f0) = 3 then (if ((rd_T59 l0_11 x3_2).f1) ≤ t131 then (revetmentref17_Right.l0 kj14 (wrap64 (x3_2 + 1)) a0_0 a0_1 a0_2 a0_3 a0_4 a0_5 a0_6 a0_7 a0_8 a0_9 a0_10 l0_11) else (some false)) else (some false)) else (if ((rd_T59 l0_11 x3_2).f0) = 3 then (if ((rd_T59 l0_11 x3_2).f1) ≤ t131 then (revetmentref17_Right.l0 kj14 (wrap64 (x3_2 + 1)) a0_0 a0_1 a0_2 a0_3 a0_4 a0_5 a0_6 a0_7 a0_8 a0_9 a0_10 l0_11) else (some false)) else (some false))) else (if ((rd_T59 l0_11 x3_2).f0) = 3 then (if ((rd_T59 l0_11 x3_2).f1) ≤ t131 then (revetmentref17_Right.l0 kj14 (wrap64 (x3_2 + 1)) a0_0 a0_1 a0_2 a0_3 a0_4 a0_5 a0_6 a0_7 a0_8 a0_9 a0_10 l0_11) else (some false)) else (some false)))) else (if ((rd_T59 l0_11 x3_2).f0) = 2 then (if ((rd_T59 l0_11 x3_2).f1) > 0 then (if ((rd_T59 l0_11 x3_2).f1) < t131 then (revetmentref17_Right.l0 kj14 (wrap64 (x3_2 + 1)) a0_0 a0_1 a0_2 a0_3 a0_4 a0_5 a0_6 a0_7 a0_8 a0_9 a0_10 l0_11) else (if ((rd_T59 l0_11 x3_2).f0) = 3 then (if ((rd_T59 l0_11 x3_2).f1) ≤ t131 then (revetmentref17_Right.l0 kj14 (wrap64 (x3_2 + 1)) a0_0 a0_1 a0_2 a0_3 a0_4 a0_5 a0_6 a0_7 a0_8 a0_9 a0_10 l0_11) else (some false)) else (some false))) else (if ((rd_T59 l0_11 x3_2).f0) = 3 then (if ((rd_T59 l0_11 x3_2).f1) ≤ t131 then (revetmentref17_Right.l0 kj14 (wrap64 (x3_2 + 1)) a0_0 a0_1 a0_2 a0_3 a0_4 a0_5 a0_6 a0_7 a0_8 a0_9 a0_10 l0_11) else (some false)) else (some false))) else (if ((rd_T59 l0_11 x3_2).f0) = 3 then (if ((rd_T59 l0_11 x3_2).f1) ≤ t131 then (revetmentref17_Right.l0 kj14 (wrap64 (x3_2 + 1)) a0_0 a0_1 a0_2 a0_3 a0_4 a0_5 a0_6 a0_7 a0_8 a0_9 a0_10 l0_11) else (some false)) else (some false))))) = some r := by rw [if_neg (show ¬ (false = true) by decide)] at H; exact H
           clear H
           have H := H1
           clear H1
           by_cases c33 : ((rd_T59 l0_11 x3_2).f0) = 0
           ·rw [if_pos c33] at H
            have c33b0 : (((rd_T59 l0_11 x3_2).f0) == 0) = true := beq_iff_eq.mpr c33
            have c33b1 : (((rd_T59 l0_11 x3_2).f0) != 0) = false := bne_eq_false_iff_eq.mpr c33
            clear c33
            by_cases c34 : ((rd_T59 l0_11 x3_2).f1) = 0
            ·rw [if_pos c34] at H
             have c34b0 : (((rd_T59 l0_11 x3_2).f1) == 0) = true := beq_iff_eq.mpr c34
             have c34b1 : (((rd_T59 l0_11 x3_2).f1) != 0) = false := bne_eq_false_iff_eq.mpr c34
             clear c34
             have H' := Aside0.mk H
             clear H
             have hnb35 := NB132_128.out
             have hnc35 := NB128_132.out
             have hcz36_0 : wc.cell? ⟨gb132, 0, none⟩ = some (.int .i64 ((rd_T59 l0_11 x3_2).f0)) := (blk_cell BK132.out 0).trans rfl
             have hcz36_1 : wc.cell? ⟨gb132, 1, none⟩ = some (.int .i64 ((rd_T59 l0_11 x3_2).f1)) := (blk_cell BK132.out 1).trans rfl
             have hcz36_2 : wc.cell? ⟨gb132, 2, none⟩ = some (.int .i64 ((rd_T59 l0_11 x3_2).f2)) := (blk_cell BK132.out 2).trans rfl
             have hfz36_0 := blk_frozen BK132.out 0
             have hfz36_1 := blk_frozen BK132.out 1
             have hfz36_2 := blk_frozen BK132.out 2
             go_wp2
             go_roundg kj14
             case measure => have := HJ1.out; have := HK2.out; have := HJ14.out; omega
             case rel => exact ⟨(wrap64 (x3_2 + 1)), (by first | rfl | (simp; done) | (simp [*]; done)), H', ⟨by have := HJ1.out; have := HK2.out; have := HJ14.out; omega⟩, ⟨by (with_reducible repeat (first | refine blk_drewN ?_ _ | refine blk_drew ?_ | refine blk_alloc ?_ _)); exact BK128.out⟩, ⟨bl HB⟩⟩
            ·rw [if_neg c34] at H
             have c34b0 : (((rd_T59 l0_11 x3_2).f1) == 0) = false := beq_eq_false_iff_ne.mpr c34
             have c34b1 : (((rd_T59 l0_11 x3_2).f1) != 0) = true := bne_iff_ne.mpr c34
             by_cases c37 : ((rd_T59 l0_11 x3_2).f0) = 1
             ·rw [if_pos c37] at H
              have c37b0 : (((rd_T59 l0_11 x3_2).f0) == 1) = true := beq_iff_eq.mpr c37
              have c37b1 : (((rd_T59 l0_11 x3_2).f0) != 1) = false := bne_eq_false_iff_eq.mpr c37
              clear c37
              by_cases c38 : ((rd_T59 l0_11 x3_2).f1) < t131
              ·rw [if_pos c38] at H
               have c38b0 : decide (((rd_T59 l0_11 x3_2).f1) < t131) = true := decide_eq_true c38
               clear c38
               have H' := Aside0.mk H
               clear H
               have hnb39 := NB132_128.out
               have hnc39 := NB128_132.out
               have hcz40_0 : wc.cell? ⟨gb132, 0, none⟩ = some (.int .i64 ((rd_T59 l0_11 x3_2).f0)) := (blk_cell BK132.out 0).trans rfl
               have hcz40_1 : wc.cell? ⟨gb132, 1, none⟩ = some (.int .i64 ((rd_T59 l0_11 x3_2).f1)) := (blk_cell BK132.out 1).trans rfl
               have hcz40_2 : wc.cell? ⟨gb132, 2, none⟩ = some (.int .i64 ((rd_T59 l0_11 x3_2).f2)) := (blk_cell BK132.out 2).trans rfl
               have hfz40_0 := blk_frozen BK132.out 0
               have hfz40_1 := blk_frozen BK132.out 1
               have hfz40_2 := blk_frozen BK132.out 2
               go_wp2
               go_roundg kj14
               case measure => have := HJ1.out; have := HK2.out; have := HJ14.out; omega
               case rel => exact ⟨(wrap64 (x3_2 + 1)), (by first | rfl | (simp; done) | (simp [*]; done)), H', ⟨by have := HJ1.out; have := HK2.out; have := HJ14.out; omega⟩, ⟨by (with_reducible repeat (first | refine blk_drewN ?_ _ | refine blk_drew ?_ | refine blk_alloc ?_ _)); exact BK128.out⟩, ⟨bl HB⟩⟩
              ·rw [if_neg c38] at H
               have c38b0 : decide (((rd_T59 l0_11 x3_2).f1) < t131) = false := decide_eq_false c38
               clear c38
               by_cases c41 : ((rd_T59 l0_11 x3_2).f0) = 2
               ·rw [if_pos c41] at H
                have c41b0 : (((rd_T59 l0_11 x3_2).f0) == 2) = true := beq_iff_eq.mpr c41
                have c41b1 : (((rd_T59 l0_11 x3_2).f0) != 2) = false := bne_eq_false_iff_eq.mpr c41
                clear c41
                by_cases c42 : ((rd_T59 l0_11 x3_2).f1) > 0
                ·rw [if_pos c42] at H
                 have c42b0 : decide (0 < ((rd_T59 l0_11 x3_2).f1)) = true := decide_eq_true c42
                 clear c42
                 by_cases c43 : ((rd_T59 l0_11 x3_2).f0) = 3
                 ·rw [if_pos c43] at H
                  have c43b0 : (((rd_T59 l0_11 x3_2).f0) == 3) = true := beq_iff_eq.mpr c43
                  have c43b1 : (((rd_T59 l0_11 x3_2).f0) != 3) = false := bne_eq_false_iff_eq.mpr c43
                  clear c43
                  by_cases c44 : ((rd_T59 l0_11 x3_2).f1) ≤ t131
                  ·rw [if_pos c44] at H
                   have c44b0 : decide (((rd_T59 l0_11 x3_2).f1) ≤ t131) = true := decide_eq_true c44
                   clear c44
                   have H' := Aside0.mk H
                   clear H
                   have hnb45 := NB132_128.out
                   have hnc45 := NB128_132.out
                   have hcz46_0 : wc.cell? ⟨gb132, 0, none⟩ = some (.int .i64 ((rd_T59 l0_11 x3_2).f0)) := (blk_cell BK132.out 0).trans rfl
                   have hcz46_1 : wc.cell? ⟨gb132, 1, none⟩ = some (.int .i64 ((rd_T59 l0_11 x3_2).f1)) := (blk_cell BK132.out 1).trans rfl
                   have hcz46_2 : wc.cell? ⟨gb132, 2, none⟩ = some (.int .i64 ((rd_T59 l0_11 x3_2).f2)) := (blk_cell BK132.out 2).trans rfl
                   have hfz46_0 := blk_frozen BK132.out 0
                   have hfz46_1 := blk_frozen BK132.out 1
                   have hfz46_2 := blk_frozen BK132.out 2
                   go_wp2
                   go_roundg kj14
                   case measure => have := HJ1.out; have := HK2.out; have := HJ14.out; omega
                   case rel => exact ⟨(wrap64 (x3_2 + 1)), (by first | rfl | (simp; done) | (simp [*]; done)), H', ⟨by have := HJ1.out; have := HK2.out; have := HJ14.out; omega⟩, ⟨by (with_reducible repeat (first | refine blk_drewN ?_ _ | refine blk_drew ?_ | refine blk_alloc ?_ _)); exact BK128.out⟩, ⟨bl HB⟩⟩
                  ·rw [if_neg c44] at H
                   have c44b0 : decide (((rd_T59 l0_11 x3_2).f1) ≤ t131) = false := decide_eq_false c44
                   clear c44
                   obtain rfl := Option.some.inj H
                   have hnb47 := NB132_128.out
                   have hnc47 := NB128_132.out
                   have hcz48_0 : wc.cell? ⟨gb132, 0, none⟩ = some (.int .i64 ((rd_T59 l0_11 x3_2).f0)) := (blk_cell BK132.out 0).trans rfl
                   have hcz48_1 : wc.cell? ⟨gb132, 1, none⟩ = some (.int .i64 ((rd_T59 l0_11 x3_2).f1)) := (blk_cell BK132.out 1).trans rfl
                   have hcz48_2 : wc.cell? ⟨gb132, 2, none⟩ = some (.int .i64 ((rd_T59 l0_11 x3_2).f2)) := (blk_cell BK132.out 2).trans rfl
                   have hfz48_0 := blk_frozen BK132.out 0
                   have hfz48_1 := blk_frozen BK132.out 1
                   have hfz48_2 := blk_frozen BK132.out 2
                   go_wp2
                   go_ret
                   exact ⟨by first | rfl | (simp [errW_none, errW_some] <;> rfl) | (simp [*, errW_none, errW_some] <;> rfl), bl HB⟩
                 ·rw [if_neg c43] at H
                  have c43b0 : (((rd_T59 l0_11 x3_2).f0) == 3) = false := beq_eq_false_iff_ne.mpr c43
                  have c43b1 : (((rd_T59 l0_11 x3_2).f0) != 3) = true := bne_iff_ne.mpr c43
                  obtain rfl := Option.some.inj H
                  have hnb49 := NB132_128.out
                  have hnc49 := NB128_132.out
                  have hcz50_0 : wc.cell? ⟨gb132, 0, none⟩ = some (.int .i64 ((rd_T59 l0_11 x3_2).f0)) := (blk_cell BK132.out 0).trans rfl
                  have hcz50_1 : wc.cell? ⟨gb132, 1, none⟩ = some (.int .i64 ((rd_T59 l0_11 x3_2).f1)) := (blk_cell BK132.out 1).trans rfl
                  have hcz50_2 : wc.cell? ⟨gb132, 2, none⟩ = some (.int .i64 ((rd_T59 l0_11 x3_2).f2)) := (blk_cell BK132.out 2).trans rfl
                  have hfz50_0 := blk_frozen BK132.out 0
                  have hfz50_1 := blk_frozen BK132.out 1
                  have hfz50_2 := blk_frozen BK132.out 2
                  go_wp2
                  go_ret
                  exact ⟨by first | rfl | (simp [errW_none, errW_some] <;> rfl) | (simp [*, errW_none, errW_some] <;> rfl), bl HB⟩
                ·rw [if_neg c42] at H
                 have c42b0 : decide (0 < ((rd_T59 l0_11 x3_2).f1)) = false := decide_eq_false c42
                 clear c42
                 by_cases c51 : ((rd_T59 l0_11 x3_2).f0) = 3
                 ·rw [if_pos c51] at H
                  have c51b0 : (((rd_T59 l0_11 x3_2).f0) == 3) = true := beq_iff_eq.mpr c51
                  have c51b1 : (((rd_T59 l0_11 x3_2).f0) != 3) = false := bne_eq_false_iff_eq.mpr c51
                  clear c51
                  by_cases c52 : ((rd_T59 l0_11 x3_2).f1) ≤ t131
                  ·rw [if_pos c52] at H
                   have c52b0 : decide (((rd_T59 l0_11 x3_2).f1) ≤ t131) = true := decide_eq_true c52
                   clear c52
                   have H' := Aside0.mk H
                   clear H
                   have hnb53 := NB132_128.out
                   have hnc53 := NB128_132.out
                   have hcz54_0 : wc.cell? ⟨gb132, 0, none⟩ = some (.int .i64 ((rd_T59 l0_11 x3_2).f0)) := (blk_cell BK132.out 0).trans rfl
                   have hcz54_1 : wc.cell? ⟨gb132, 1, none⟩ = some (.int .i64 ((rd_T59 l0_11 x3_2).f1)) := (blk_cell BK132.out 1).trans rfl
                   have hcz54_2 : wc.cell? ⟨gb132, 2, none⟩ = some (.int .i64 ((rd_T59 l0_11 x3_2).f2)) := (blk_cell BK132.out 2).trans rfl
                   have hfz54_0 := blk_frozen BK132.out 0
                   have hfz54_1 := blk_frozen BK132.out 1
                   have hfz54_2 := blk_frozen BK132.out 2
                   go_wp2
                   go_roundg kj14
                   case measure => have := HJ1.out; have := HK2.out; have := HJ14.out; omega
                   case rel => exact ⟨(wrap64 (x3_2 + 1)), (by first | rfl | (simp; done) | (simp [*]; done)), H', ⟨by have := HJ1.out; have := HK2.out; have := HJ14.out; omega⟩, ⟨by (with_reducible repeat (first | refine blk_drewN ?_ _ | refine blk_drew ?_ | refine blk_alloc ?_ _)); exact BK128.out⟩, ⟨bl HB⟩⟩
                  ·rw [if_neg c52] at H
                   have c52b0 : decide (((rd_T59 l0_11 x3_2).f1) ≤ t131) = false := decide_eq_false c52
                   clear c52
                   obtain rfl := Option.some.inj H
                   have hnb55 := NB132_128.out
                   have hnc55 := NB128_132.out
                   have hcz56_0 : wc.cell? ⟨gb132, 0, none⟩ = some (.int .i64 ((rd_T59 l0_11 x3_2).f0)) := (blk_cell BK132.out 0).trans rfl
                   have hcz56_1 : wc.cell? ⟨gb132, 1, none⟩ = some (.int .i64 ((rd_T59 l0_11 x3_2).f1)) := (blk_cell BK132.out 1).trans rfl
                   have hcz56_2 : wc.cell? ⟨gb132, 2, none⟩ = some (.int .i64 ((rd_T59 l0_11 x3_2).f2)) := (blk_cell BK132.out 2).trans rfl
                   have hfz56_0 := blk_frozen BK132.out 0
                   have hfz56_1 := blk_frozen BK132.out 1
                   have hfz56_2 := blk_frozen BK132.out 2
                   go_wp2
                   go_ret
                   exact ⟨by first | rfl | (simp [errW_none, errW_some] <;> rfl) | (simp [*, errW_none, errW_some] <;> rfl), bl HB⟩
                 ·rw [if_neg c51] at H
                  have c51b0 : (((rd_T59 l0_11 x3_2).f0) == 3) = false := beq_eq_false_iff_ne.mpr c51
                  have c51b1 : (((rd_T59 l0_11 x3_2).f0) != 3) = true := bne_iff_ne.mpr c51
                  obtain rfl := Option.some.inj H
                  have hnb57 := NB132_128.out
                  have hnc57 := NB128_132.out
                  have hcz58_0 : wc.cell? ⟨gb132, 0, none⟩ = some (.int .i64 ((rd_T59 l0_11 x3_2).f0)) := (blk_cell BK132.out 0).trans rfl
                  have hcz58_1 : wc.cell? ⟨gb132, 1, none⟩ = some (.int .i64 ((rd_T59 l0_11 x3_2).f1)) := (blk_cell BK132.out 1).trans rfl
                  have hcz58_2 : wc.cell? ⟨gb132, 2, none⟩ = some (.int .i64 ((rd_T59 l0_11 x3_2).f2)) := (blk_cell BK132.out 2).trans rfl
                  have hfz58_0 := blk_frozen BK132.out 0
                  have hfz58_1 := blk_frozen BK132.out 1
                  have hfz58_2 := blk_frozen BK132.out 2
                  go_wp2
                  go_ret
                  exact ⟨by first | rfl | (simp [errW_none, errW_some] <;> rfl) | (simp [*, errW_none, errW_some] <;> rfl), bl HB⟩
               ·rw [if_neg c41] at H
                have c41b0 : (((rd_T59 l0_11 x3_2).f0) == 2) = false := beq_eq_false_iff_ne.mpr c41
                have c41b1 : (((rd_T59 l0_11 x3_2).f0) != 2) = true := bne_iff_ne.mpr c41
                by_cases c59 : ((rd_T59 l0_11 x3_2).f0) = 3
                ·rw [if_pos c59] at H
                 have c59b0 : (((rd_T59 l0_11 x3_2).f0) == 3) = true := beq_iff_eq.mpr c59
                 have c59b1 : (((rd_T59 l0_11 x3_2).f0) != 3) = false := bne_eq_false_iff_eq.mpr c59
                 clear c59
                 by_cases c60 : ((rd_T59 l0_11 x3_2).f1) ≤ t131
                 ·rw [if_pos c60] at H
                  have c60b0 : decide (((rd_T59 l0_11 x3_2).f1) ≤ t131) = true := decide_eq_true c60
                  clear c60
                  have H' := Aside0.mk H
                  clear H
                  have hnb61 := NB132_128.out
                  have hnc61 := NB128_132.out
                  have hcz62_0 : wc.cell? ⟨gb132, 0, none⟩ = some (.int .i64 ((rd_T59 l0_11 x3_2).f0)) := (blk_cell BK132.out 0).trans rfl
                  have hcz62_1 : wc.cell? ⟨gb132, 1, none⟩ = some (.int .i64 ((rd_T59 l0_11 x3_2).f1)) := (blk_cell BK132.out 1).trans rfl
                  have hcz62_2 : wc.cell? ⟨gb132, 2, none⟩ = some (.int .i64 ((rd_T59 l0_11 x3_2).f2)) := (blk_cell BK132.out 2).trans rfl
                  have hfz62_0 := blk_frozen BK132.out 0
                  have hfz62_1 := blk_frozen BK132.out 1
                  have hfz62_2 := blk_frozen BK132.out 2
                  go_wp2
                  go_roundg kj14
                  case measure => have := HJ1.out; have := HK2.out; have := HJ14.out; omega
                  case rel => exact ⟨(wrap64 (x3_2 + 1)), (by first | rfl | (simp; done) | (simp [*]; done)), H', ⟨by have := HJ1.out; have := HK2.out; have := HJ14.out; omega⟩, ⟨by (with_reducible repeat (first | refine blk_drewN ?_ _ | refine blk_drew ?_ | refine blk_alloc ?_ _)); exact BK128.out⟩, ⟨bl HB⟩⟩
                 ·rw [if_neg c60] at H
                  have c60b0 : decide (((rd_T59 l0_11 x3_2).f1) ≤ t131) = false := decide_eq_false c60
                  clear c60
                  obtain rfl := Option.some.inj H
                  have hnb63 := NB132_128.out
                  have hnc63 := NB128_132.out
                  have hcz64_0 : wc.cell? ⟨gb132, 0, none⟩ = some (.int .i64 ((rd_T59 l0_11 x3_2).f0)) := (blk_cell BK132.out 0).trans rfl
                  have hcz64_1 : wc.cell? ⟨gb132, 1, none⟩ = some (.int .i64 ((rd_T59 l0_11 x3_2).f1)) := (blk_cell BK132.out 1).trans rfl
                  have hcz64_2 : wc.cell? ⟨gb132, 2, none⟩ = some (.int .i64 ((rd_T59 l0_11 x3_2).f2)) := (blk_cell BK132.out 2).trans rfl
                  have hfz64_0 := blk_frozen BK132.out 0
                  have hfz64_1 := blk_frozen BK132.out 1
                  have hfz64_2 := blk_frozen BK132.out 2
                  go_wp2
                  go_ret
                  exact ⟨by first | rfl | (simp [errW_none, errW_some] <;> rfl) | (simp [*, errW_none, errW_some] <;> rfl), bl HB⟩
                ·rw [if_neg c59] at H
                 have c59b0 : (((rd_T59 l0_11 x3_2).f0) == 3) = false := beq_eq_false_iff_ne.mpr c59
                 have c59b1 : (((rd_T59 l0_11 x3_2).f0) != 3) = true := bne_iff_ne.mpr c59
                 obtain rfl := Option.some.inj H
                 have hnb65 := NB132_128.out
                 have hnc65 := NB128_132.out
                 have hcz66_0 : wc.cell? ⟨gb132, 0, none⟩ = some (.int .i64 ((rd_T59 l0_11 x3_2).f0)) := (blk_cell BK132.out 0).trans rfl
                 have hcz66_1 : wc.cell? ⟨gb132, 1, none⟩ = some (.int .i64 ((rd_T59 l0_11 x3_2).f1)) := (blk_cell BK132.out 1).trans rfl
                 have hcz66_2 : wc.cell? ⟨gb132, 2, none⟩ = some (.int .i64 ((rd_T59 l0_11 x3_2).f2)) := (blk_cell BK132.out 2).trans rfl
                 have hfz66_0 := blk_frozen BK132.out 0
                 have hfz66_1 := blk_frozen BK132.out 1
                 have hfz66_2 := blk_frozen BK132.out 2
                 go_wp2
                 go_ret
                 exact ⟨by first | rfl | (simp [errW_none, errW_some] <;> rfl) | (simp [*, errW_none, errW_some] <;> rfl), bl HB⟩
             ·rw [if_neg c37] at H
              have c37b0 : (((rd_T59 l0_11 x3_2).f0) == 1) = false := beq_eq_false_iff_ne.mpr c37
              have c37b1 : (((rd_T59 l0_11 x3_2).f0) != 1) = true := bne_iff_ne.mpr c37
              by_cases c67 : ((rd_T59 l0_11 x3_2).f0) = 2
              ·rw [if_pos c67] at H
               have c67b0 : (((rd_T59 l0_11 x3_2).f0) == 2) = true := beq_iff_eq.mpr c67
               have c67b1 : (((rd_T59 l0_11 x3_2).f0) != 2) = false := bne_eq_false_iff_eq.mpr c67
               clear c67
               by_cases c68 : ((rd_T59 l0_11 x3_2).f1) > 0
               ·rw [if_pos c68] at H
                have c68b0 : decide (0 < ((rd_T59 l0_11 x3_2).f1)) = true := decide_eq_true c68
                clear c68
                by_cases c69 : ((rd_T59 l0_11 x3_2).f1) < t131
                ·rw [if_pos c69] at H
                 have c69b0 : decide (((rd_T59 l0_11 x3_2).f1) < t131) = true := decide_eq_true c69
                 clear c69
                 have H' := Aside0.mk H
                 clear H
                 have hnb70 := NB132_128.out
                 have hnc70 := NB128_132.out
                 have hcz71_0 : wc.cell? ⟨gb132, 0, none⟩ = some (.int .i64 ((rd_T59 l0_11 x3_2).f0)) := (blk_cell BK132.out 0).trans rfl
                 have hcz71_1 : wc.cell? ⟨gb132, 1, none⟩ = some (.int .i64 ((rd_T59 l0_11 x3_2).f1)) := (blk_cell BK132.out 1).trans rfl
                 have hcz71_2 : wc.cell? ⟨gb132, 2, none⟩ = some (.int .i64 ((rd_T59 l0_11 x3_2).f2)) := (blk_cell BK132.out 2).trans rfl
                 have hfz71_0 := blk_frozen BK132.out 0
                 have hfz71_1 := blk_frozen BK132.out 1
                 have hfz71_2 := blk_frozen BK132.out 2
                 go_wp2
                 go_roundg kj14
                 case measure => have := HJ1.out; have := HK2.out; have := HJ14.out; omega
                 case rel => exact ⟨(wrap64 (x3_2 + 1)), (by first | rfl | (simp; done) | (simp [*]; done)), H', ⟨by have := HJ1.out; have := HK2.out; have := HJ14.out; omega⟩, ⟨by (with_reducible repeat (first | refine blk_drewN ?_ _ | refine blk_drew ?_ | refine blk_alloc ?_ _)); exact BK128.out⟩, ⟨bl HB⟩⟩
                ·rw [if_neg c69] at H
                 have c69b0 : decide (((rd_T59 l0_11 x3_2).f1) < t131) = false := decide_eq_false c69
                 clear c69
                 by_cases c72 : ((rd_T59 l0_11 x3_2).f0) = 3
                 ·rw [if_pos c72] at H
                  have c72b0 : (((rd_T59 l0_11 x3_2).f0) == 3) = true := beq_iff_eq.mpr c72
                  have c72b1 : (((rd_T59 l0_11 x3_2).f0) != 3) = false := bne_eq_false_iff_eq.mpr c72
                  clear c72
                  by_cases c73 : ((rd_T59 l0_11 x3_2).f1) ≤ t131
                  ·rw [if_pos c73] at H
                   have c73b0 : decide (((rd_T59 l0_11 x3_2).f1) ≤ t131) = true := decide_eq_true c73
                   clear c73
                   have H' := Aside0.mk H
                   clear H
                   have hnb74 := NB132_128.out
                   have hnc74 := NB128_132.out
                   have hcz75_0 : wc.cell? ⟨gb132, 0, none⟩ = some (.int .i64 ((rd_T59 l0_11 x3_2).f0)) := (blk_cell BK132.out 0).trans rfl
                   have hcz75_1 : wc.cell? ⟨gb132, 1, none⟩ = some (.int .i64 ((rd_T59 l0_11 x3_2).f1)) := (blk_cell BK132.out 1).trans rfl
                   have hcz75_2 : wc.cell? ⟨gb132, 2, none⟩ = some (.int .i64 ((rd_T59 l0_11 x3_2).f2)) := (blk_cell BK132.out 2).trans rfl
                   have hfz75_0 := blk_frozen BK132.out 0
                   have hfz75_1 := blk_frozen BK132.out 1
                   have hfz75_2 := blk_frozen BK132.out 2
                   go_wp2
                   go_roundg kj14
                   case measure => have := HJ1.out; have := HK2.out; have := HJ14.out; omega
                   case rel => exact ⟨(wrap64 (x3_2 + 1)), (by first | rfl | (simp; done) | (simp [*]; done)), H', ⟨by have := HJ1.out; have := HK2.out; have := HJ14.out; omega⟩, ⟨by (with_reducible repeat (first | refine blk_drewN ?_ _ | refine blk_drew ?_ | refine blk_alloc ?_ _)); exact BK128.out⟩, ⟨bl HB⟩⟩
                  ·rw [if_neg c73] at H
                   have c73b0 : decide (((rd_T59 l0_11 x3_2).f1) ≤ t131) = false := decide_eq_false c73
                   clear c73
                   obtain rfl := Option.some.inj H
                   have hnb76 := NB132_128.out
                   have hnc76 := NB128_132.out
                   have hcz77_0 : wc.cell? ⟨gb132, 0, none⟩ = some (.int .i64 ((rd_T59 l0_11 x3_2).f0)) := (blk_cell BK132.out 0).trans rfl
                   have hcz77_1 : wc.cell? ⟨gb132, 1, none⟩ = some (.int .i64 ((rd_T59 l0_11 x3_2).f1)) := (blk_cell BK132.out 1).trans rfl
                   have hcz77_2 : wc.cell? ⟨gb132, 2, none⟩ = some (.int .i64 ((rd_T59 l0_11 x3_2).f2)) := (blk_cell BK132.out 2).trans rfl
                   have hfz77_0 := blk_frozen BK132.out 0
                   have hfz77_1 := blk_frozen BK132.out 1
                   have hfz77_2 := blk_frozen BK132.out 2
                   go_wp2
                   go_ret
                   exact ⟨by first | rfl | (simp [errW_none, errW_some] <;> rfl) | (simp [*, errW_none, errW_some] <;> rfl), bl HB⟩
                 ·rw [if_neg c72] at H
                  have c72b0 : (((rd_T59 l0_11 x3_2).f0) == 3) = false := beq_eq_false_iff_ne.mpr c72
                  have c72b1 : (((rd_T59 l0_11 x3_2).f0) != 3) = true := bne_iff_ne.mpr c72
                  obtain rfl := Option.some.inj H
                  have hnb78 := NB132_128.out
                  have hnc78 := NB128_132.out
                  have hcz79_0 : wc.cell? ⟨gb132, 0, none⟩ = some (.int .i64 ((rd_T59 l0_11 x3_2).f0)) := (blk_cell BK132.out 0).trans rfl
                  have hcz79_1 : wc.cell? ⟨gb132, 1, none⟩ = some (.int .i64 ((rd_T59 l0_11 x3_2).f1)) := (blk_cell BK132.out 1).trans rfl
                  have hcz79_2 : wc.cell? ⟨gb132, 2, none⟩ = some (.int .i64 ((rd_T59 l0_11 x3_2).f2)) := (blk_cell BK132.out 2).trans rfl
                  have hfz79_0 := blk_frozen BK132.out 0
                  have hfz79_1 := blk_frozen BK132.out 1
                  have hfz79_2 := blk_frozen BK132.out 2
                  go_wp2
                  go_ret
                  exact ⟨by first | rfl | (simp [errW_none, errW_some] <;> rfl) | (simp [*, errW_none, errW_some] <;> rfl), bl HB⟩
               ·rw [if_neg c68] at H
                have c68b0 : decide (0 < ((rd_T59 l0_11 x3_2).f1)) = false := decide_eq_false c68
                clear c68
                by_cases c80 : ((rd_T59 l0_11 x3_2).f0) = 3
                ·rw [if_pos c80] at H
                 have c80b0 : (((rd_T59 l0_11 x3_2).f0) == 3) = true := beq_iff_eq.mpr c80
                 have c80b1 : (((rd_T59 l0_11 x3_2).f0) != 3) = false := bne_eq_false_iff_eq.mpr c80
                 clear c80
                 by_cases c81 : ((rd_T59 l0_11 x3_2).f1) ≤ t131
                 ·rw [if_pos c81] at H
                  have c81b0 : decide (((rd_T59 l0_11 x3_2).f1) ≤ t131) = true := decide_eq_true c81
                  clear c81
                  have H' := Aside0.mk H
                  clear H
                  have hnb82 := NB132_128.out
                  have hnc82 := NB128_132.out
                  have hcz83_0 : wc.cell? ⟨gb132, 0, none⟩ = some (.int .i64 ((rd_T59 l0_11 x3_2).f0)) := (blk_cell BK132.out 0).trans rfl
                  have hcz83_1 : wc.cell? ⟨gb132, 1, none⟩ = some (.int .i64 ((rd_T59 l0_11 x3_2).f1)) := (blk_cell BK132.out 1).trans rfl
                  have hcz83_2 : wc.cell? ⟨gb132, 2, none⟩ = some (.int .i64 ((rd_T59 l0_11 x3_2).f2)) := (blk_cell BK132.out 2).trans rfl
                  have hfz83_0 := blk_frozen BK132.out 0
                  have hfz83_1 := blk_frozen BK132.out 1
                  have hfz83_2 := blk_frozen BK132.out 2
                  go_wp2
                  go_roundg kj14
                  case measure => have := HJ1.out; have := HK2.out; have := HJ14.out; omega
                  case rel => exact ⟨(wrap64 (x3_2 + 1)), (by first | rfl | (simp; done) | (simp [*]; done)), H', ⟨by have := HJ1.out; have := HK2.out; have := HJ14.out; omega⟩, ⟨by (with_reducible repeat (first | refine blk_drewN ?_ _ | refine blk_drew ?_ | refine blk_alloc ?_ _)); exact BK128.out⟩, ⟨bl HB⟩⟩
                 ·rw [if_neg c81] at H
                  have c81b0 : decide (((rd_T59 l0_11 x3_2).f1) ≤ t131) = false := decide_eq_false c81
                  clear c81
                  obtain rfl := Option.some.inj H
                  have hnb84 := NB132_128.out
                  have hnc84 := NB128_132.out
                  have hcz85_0 : wc.cell? ⟨gb132, 0, none⟩ = some (.int .i64 ((rd_T59 l0_11 x3_2).f0)) := (blk_cell BK132.out 0).trans rfl
                  have hcz85_1 : wc.cell? ⟨gb132, 1, none⟩ = some (.int .i64 ((rd_T59 l0_11 x3_2).f1)) := (blk_cell BK132.out 1).trans rfl
                  have hcz85_2 : wc.cell? ⟨gb132, 2, none⟩ = some (.int .i64 ((rd_T59 l0_11 x3_2).f2)) := (blk_cell BK132.out 2).trans rfl
                  have hfz85_0 := blk_frozen BK132.out 0
                  have hfz85_1 := blk_frozen BK132.out 1
                  have hfz85_2 := blk_frozen BK132.out 2
                  go_wp2
                  go_ret
                  exact ⟨by first | rfl | (simp [errW_none, errW_some] <;> rfl) | (simp [*, errW_none, errW_some] <;> rfl), bl HB⟩
                ·rw [if_neg c80] at H
                 have c80b0 : (((rd_T59 l0_11 x3_2).f0) == 3) = false := beq_eq_false_iff_ne.mpr c80
                 have c80b1 : (((rd_T59 l0_11 x3_2).f0) != 3) = true := bne_iff_ne.mpr c80
                 obtain rfl := Option.some.inj H
                 have hnb86 := NB132_128.out
                 have hnc86 := NB128_132.out
                 have hcz87_0 : wc.cell? ⟨gb132, 0, none⟩ = some (.int .i64 ((rd_T59 l0_11 x3_2).f0)) := (blk_cell BK132.out 0).trans rfl
                 have hcz87_1 : wc.cell? ⟨gb132, 1, none⟩ = some (.int .i64 ((rd_T59 l0_11 x3_2).f1)) := (blk_cell BK132.out 1).trans rfl
                 have hcz87_2 : wc.cell? ⟨gb132, 2, none⟩ = some (.int .i64 ((rd_T59 l0_11 x3_2).f2)) := (blk_cell BK132.out 2).trans rfl
                 have hfz87_0 := blk_frozen BK132.out 0
                 have hfz87_1 := blk_frozen BK132.out 1
                 have hfz87_2 := blk_frozen BK132.out 2
                 go_wp2
                 go_ret
                 exact ⟨by first | rfl | (simp [errW_none, errW_some] <;> rfl) | (simp [*, errW_none, errW_some] <;> rfl), bl HB⟩
              ·rw [if_neg c67] at H
               have c67b0 : (((rd_T59 l0_11 x3_2).f0) == 2) = false := beq_eq_false_iff_ne.mpr c67
               have c67b1 : (((rd_T59 l0_11 x3_2).f0) != 2) = true := bne_iff_ne.mpr c67
               by_cases c88 : ((rd_T59 l0_11 x3_2).f0) = 3
               ·rw [if_pos c88] at H
                have c88b0 : (((rd_T59 l0_11 x3_2).f0) == 3) = true := beq_iff_eq.mpr c88
                have c88b1 : (((rd_T59 l0_11 x3_2).f0) != 3) = false := bne_eq_false_iff_eq.mpr c88
                clear c88
                by_cases c89 : ((rd_T59 l0_11 x3_2).f1) ≤ t131
                ·rw [if_pos c89] at H
                 have c89b0 : decide (((rd_T59 l0_11 x3_2).f1) ≤ t131) = true := decide_eq_true c89
                 clear c89
                 have H' := Aside0.mk H
                 clear H
                 have hnb90 := NB132_128.out
                 have hnc90 := NB128_132.out
                 have hcz91_0 : wc.cell? ⟨gb132, 0, none⟩ = some (.int .i64 ((rd_T59 l0_11 x3_2).f0)) := (blk_cell BK132.out 0).trans rfl
                 have hcz91_1 : wc.cell? ⟨gb132, 1, none⟩ = some (.int .i64 ((rd_T59 l0_11 x3_2).f1)) := (blk_cell BK132.out 1).trans rfl
                 have hcz91_2 : wc.cell? ⟨gb132, 2, none⟩ = some (.int .i64 ((rd_T59 l0_11 x3_2).f2)) := (blk_cell BK132.out 2).trans rfl
                 have hfz91_0 := blk_frozen BK132.out 0
                 have hfz91_1 := blk_frozen BK132.out 1
                 have hfz91_2 := blk_frozen BK132.out 2
                 go_wp2
                 go_roundg kj14
                 case measure => have := HJ1.out; have := HK2.out; have := HJ14.out; omega
                 case rel => exact ⟨(wrap64 (x3_2 + 1)), (by first | rfl | (simp; done) | (simp [*]; done)), H', ⟨by have := HJ1.out; have := HK2.out; have := HJ14.out; omega⟩, ⟨by (with_reducible repeat (first | refine blk_drewN ?_ _ | refine blk_drew ?_ | refine blk_alloc ?_ _)); exact BK128.out⟩, ⟨bl HB⟩⟩
                ·rw [if_neg c89] at H
                 have c89b0 : decide (((rd_T59 l0_11 x3_2).f1) ≤ t131) = false := decide_eq_false c89
                 clear c89
                 obtain rfl := Option.some.inj H
                 have hnb92 := NB132_128.out
                 have hnc92 := NB128_132.out
                 have hcz93_0 : wc.cell? ⟨gb132, 0, none⟩ = some (.int .i64 ((rd_T59 l0_11 x3_2).f0)) := (blk_cell BK132.out 0).trans rfl
                 have hcz93_1 : wc.cell? ⟨gb132, 1, none⟩ = some (.int .i64 ((rd_T59 l0_11 x3_2).f1)) := (blk_cell BK132.out 1).trans rfl
                 have hcz93_2 : wc.cell? ⟨gb132, 2, none⟩ = some (.int .i64 ((rd_T59 l0_11 x3_2).f2)) := (blk_cell BK132.out 2).trans rfl
                 have hfz93_0 := blk_frozen BK132.out 0
                 have hfz93_1 := blk_frozen BK132.out 1
                 have hfz93_2 := blk_frozen BK132.out 2
                 go_wp2
                 go_ret
                 exact ⟨by first | rfl | (simp [errW_none, errW_some] <;> rfl) | (simp [*, errW_none, errW_some] <;> rfl), bl HB⟩
               ·rw [if_neg c88] at H
                have c88b0 : (((rd_T59 l0_11 x3_2).f0) == 3) = false := beq_eq_false_iff_ne.mpr c88
                have c88b1 : (((rd_T59 l0_11 x3_2).f0) != 3) = true := bne_iff_ne.mpr c88
                obtain rfl := Option.some.inj H
                have hnb94 := NB132_128.out
                have hnc94 := NB128_132.out
                have hcz95_0 : wc.cell? ⟨gb132, 0, none⟩ = some (.int .i64 ((rd_T59 l0_11 x3_2).f0)) := (blk_cell BK132.out 0).trans rfl
                have hcz95_1 : wc.cell? ⟨gb132, 1, none⟩ = some (.int .i64 ((rd_T59 l0_11 x3_2).f1)) := (blk_cell BK132.out 1).trans rfl
                have hcz95_2 : wc.cell? ⟨gb132, 2, none⟩ = some (.int .i64 ((rd_T59 l0_11 x3_2).f2)) := (blk_cell BK132.out 2).trans rfl
                have hfz95_0 := blk_frozen BK132.out 0
                have hfz95_1 := blk_frozen BK132.out 1
                have hfz95_2 := blk_frozen BK132.out 2
                go_wp2
                go_ret
                exact ⟨by first | rfl | (simp [errW_none, errW_some] <;> rfl) | (simp [*, errW_none, errW_some] <;> rfl), bl HB⟩
           ·rw [if_neg c33] at H
            have c33b0 : (((rd_T59 l0_11 x3_2).f0) == 0) = false := beq_eq_false_iff_ne.mpr c33
            have c33b1 : (((rd_T59 l0_11 x3_2).f0) != 0) = true := bne_iff_ne.mpr c33
            by_cases c96 : ((rd_T59 l0_11 x3_2).f0) = 1
            ·rw [if_pos c96] at H
             have c96b0 : (((rd_T59 l0_11 x3_2).f0) == 1) = true := beq_iff_eq.mpr c96
             have c96b1 : (((rd_T59 l0_11 x3_2).f0) != 1) = false := bne_eq_false_iff_eq.mpr c96
             clear c96
             by_cases c97 : ((rd_T59 l0_11 x3_2).f1) < t131
             ·rw [if_pos c97] at H
              have c97b0 : decide (((rd_T59 l0_11 x3_2).f1) < t131) = true := decide_eq_true c97
              clear c97
              have H' := Aside0.mk H
              clear H
              have hnb98 := NB132_128.out
              have hnc98 := NB128_132.out
              have hcz99_0 : wc.cell? ⟨gb132, 0, none⟩ = some (.int .i64 ((rd_T59 l0_11 x3_2).f0)) := (blk_cell BK132.out 0).trans rfl
              have hcz99_1 : wc.cell? ⟨gb132, 1, none⟩ = some (.int .i64 ((rd_T59 l0_11 x3_2).f1)) := (blk_cell BK132.out 1).trans rfl
              have hcz99_2 : wc.cell? ⟨gb132, 2, none⟩ = some (.int .i64 ((rd_T59 l0_11 x3_2).f2)) := (blk_cell BK132.out 2).trans rfl
              have hfz99_0 := blk_frozen BK132.out 0
              have hfz99_1 := blk_frozen BK132.out 1
              have hfz99_2 := blk_frozen BK132.out 2
              go_wp2
              go_roundg kj14
              case measure => have := HJ1.out; have := HK2.out; have := HJ14.out; omega
              case rel => exact ⟨(wrap64 (x3_2 + 1)), (by first | rfl | (simp; done) | (simp [*]; done)), H', ⟨by have := HJ1.out; have := HK2.out; have := HJ14.out; omega⟩, ⟨by (with_reducible repeat (first | refine blk_drewN ?_ _ | refine blk_drew ?_ | refine blk_alloc ?_ _)); exact BK128.out⟩, ⟨bl HB⟩⟩
             ·rw [if_neg c97] at H
              have c97b0 : decide (((rd_T59 l0_11 x3_2).f1) < t131) = false := decide_eq_false c97
              clear c97
              by_cases c100 : ((rd_T59 l0_11 x3_2).f0) = 2
              ·rw [if_pos c100] at H
               have c100b0 : (((rd_T59 l0_11 x3_2).f0) == 2) = true := beq_iff_eq.mpr c100
               have c100b1 : (((rd_T59 l0_11 x3_2).f0) != 2) = false := bne_eq_false_iff_eq.mpr c100
               clear c100
               by_cases c101 : ((rd_T59 l0_11 x3_2).f1) > 0
               ·rw [if_pos c101] at H
                have c101b0 : decide (0 < ((rd_T59 l0_11 x3_2).f1)) = true := decide_eq_true c101
                clear c101
                by_cases c102 : ((rd_T59 l0_11 x3_2).f0) = 3
                ·rw [if_pos c102] at H
                 have c102b0 : (((rd_T59 l0_11 x3_2).f0) == 3) = true := beq_iff_eq.mpr c102
                 have c102b1 : (((rd_T59 l0_11 x3_2).f0) != 3) = false := bne_eq_false_iff_eq.mpr c102
                 clear c102
                 by_cases c103 : ((rd_T59 l0_11 x3_2).f1) ≤ t131
                 ·rw [if_pos c103] at H
                  have c103b0 : decide (((rd_T59 l0_11 x3_2).f1) ≤ t131) = true := decide_eq_true c103
                  clear c103
                  have H' := Aside0.mk H
                  clear H
                  have hnb104 := NB132_128.out
                  have hnc104 := NB128_132.out
                  have hcz105_0 : wc.cell? ⟨gb132, 0, none⟩ = some (.int .i64 ((rd_T59 l0_11 x3_2).f0)) := (blk_cell BK132.out 0).trans rfl
                  have hcz105_1 : wc.cell? ⟨gb132, 1, none⟩ = some (.int .i64 ((rd_T59 l0_11 x3_2).f1)) := (blk_cell BK132.out 1).trans rfl
                  have hcz105_2 : wc.cell? ⟨gb132, 2, none⟩ = some (.int .i64 ((rd_T59 l0_11 x3_2).f2)) := (blk_cell BK132.out 2).trans rfl
                  have hfz105_0 := blk_frozen BK132.out 0
                  have hfz105_1 := blk_frozen BK132.out 1
                  have hfz105_2 := blk_frozen BK132.out 2
                  go_wp2
                  go_roundg kj14
                  case measure => have := HJ1.out; have := HK2.out; have := HJ14.out; omega
                  case rel => exact ⟨(wrap64 (x3_2 + 1)), (by first | rfl | (simp; done) | (simp [*]; done)), H', ⟨by have := HJ1.out; have := HK2.out; have := HJ14.out; omega⟩, ⟨by (with_reducible repeat (first | refine blk_drewN ?_ _ | refine blk_drew ?_ | refine blk_alloc ?_ _)); exact BK128.out⟩, ⟨bl HB⟩⟩
                 ·rw [if_neg c103] at H
                  have c103b0 : decide (((rd_T59 l0_11 x3_2).f1) ≤ t131) = false := decide_eq_false c103
                  clear c103
                  obtain rfl := Option.some.inj H
                  have hnb106 := NB132_128.out
                  have hnc106 := NB128_132.out
                  have hcz107_0 : wc.cell? ⟨gb132, 0, none⟩ = some (.int .i64 ((rd_T59 l0_11 x3_2).f0)) := (blk_cell BK132.out 0).trans rfl
                  have hcz107_1 : wc.cell? ⟨gb132, 1, none⟩ = some (.int .i64 ((rd_T59 l0_11 x3_2).f1)) := (blk_cell BK132.out 1).trans rfl
                  have hcz107_2 : wc.cell? ⟨gb132, 2, none⟩ = some (.int .i64 ((rd_T59 l0_11 x3_2).f2)) := (blk_cell BK132.out 2).trans rfl
                  have hfz107_0 := blk_frozen BK132.out 0
                  have hfz107_1 := blk_frozen BK132.out 1
                  have hfz107_2 := blk_frozen BK132.out 2
                  go_wp2
                  go_ret
                  exact ⟨by first | rfl | (simp [errW_none, errW_some] <;> rfl) | (simp [*, errW_none, errW_some] <;> rfl), bl HB⟩
                ·rw [if_neg c102] at H
                 have c102b0 : (((rd_T59 l0_11 x3_2).f0) == 3) = false := beq_eq_false_iff_ne.mpr c102
                 have c102b1 : (((rd_T59 l0_11 x3_2).f0) != 3) = true := bne_iff_ne.mpr c102
                 obtain rfl := Option.some.inj H
                 have hnb108 := NB132_128.out
                 have hnc108 := NB128_132.out
                 have hcz109_0 : wc.cell? ⟨gb132, 0, none⟩ = some (.int .i64 ((rd_T59 l0_11 x3_2).f0)) := (blk_cell BK132.out 0).trans rfl
                 have hcz109_1 : wc.cell? ⟨gb132, 1, none⟩ = some (.int .i64 ((rd_T59 l0_11 x3_2).f1)) := (blk_cell BK132.out 1).trans rfl
                 have hcz109_2 : wc.cell? ⟨gb132, 2, none⟩ = some (.int .i64 ((rd_T59 l0_11 x3_2).f2)) := (blk_cell BK132.out 2).trans rfl
                 have hfz109_0 := blk_frozen BK132.out 0
                 have hfz109_1 := blk_frozen BK132.out 1
                 have hfz109_2 := blk_frozen BK132.out 2
                 go_wp2
                 go_ret
                 exact ⟨by first | rfl | (simp [errW_none, errW_some] <;> rfl) | (simp [*, errW_none, errW_some] <;> rfl), bl HB⟩
               ·rw [if_neg c101] at H
                have c101b0 : decide (0 < ((rd_T59 l0_11 x3_2).f1)) = false := decide_eq_false c101
                clear c101
                by_cases c110 : ((rd_T59 l0_11 x3_2).f0) = 3
                ·rw [if_pos c110] at H
                 have c110b0 : (((rd_T59 l0_11 x3_2).f0) == 3) = true := beq_iff_eq.mpr c110
                 have c110b1 : (((rd_T59 l0_11 x3_2).f0) != 3) = false := bne_eq_false_iff_eq.mpr c110
                 clear c110
                 by_cases c111 : ((rd_T59 l0_11 x3_2).f1) ≤ t131
                 ·rw [if_pos c111] at H
                  have c111b0 : decide (((rd_T59 l0_11 x3_2).f1) ≤ t131) = true := decide_eq_true c111
                  clear c111
                  have H' := Aside0.mk H
                  clear H
                  have hnb112 := NB132_128.out
                  have hnc112 := NB128_132.out
                  have hcz113_0 : wc.cell? ⟨gb132, 0, none⟩ = some (.int .i64 ((rd_T59 l0_11 x3_2).f0)) := (blk_cell BK132.out 0).trans rfl
                  have hcz113_1 : wc.cell? ⟨gb132, 1, none⟩ = some (.int .i64 ((rd_T59 l0_11 x3_2).f1)) := (blk_cell BK132.out 1).trans rfl
                  have hcz113_2 : wc.cell? ⟨gb132, 2, none⟩ = some (.int .i64 ((rd_T59 l0_11 x3_2).f2)) := (blk_cell BK132.out 2).trans rfl
                  have hfz113_0 := blk_frozen BK132.out 0
                  have hfz113_1 := blk_frozen BK132.out 1
                  have hfz113_2 := blk_frozen BK132.out 2
                  go_wp2
                  go_roundg kj14
                  case measure => have := HJ1.out; have := HK2.out; have := HJ14.out; omega
                  case rel => exact ⟨(wrap64 (x3_2 + 1)), (by first | rfl | (simp; done) | (simp [*]; done)), H', ⟨by have := HJ1.out; have := HK2.out; have := HJ14.out; omega⟩, ⟨by (with_reducible repeat (first | refine blk_drewN ?_ _ | refine blk_drew ?_ | refine blk_alloc ?_ _)); exact BK128.out⟩, ⟨bl HB⟩⟩
                 ·rw [if_neg c111] at H
                  have c111b0 : decide (((rd_T59 l0_11 x3_2).f1) ≤ t131) = false := decide_eq_false c111
                  clear c111
                  obtain rfl := Option.some.inj H
                  have hnb114 := NB132_128.out
                  have hnc114 := NB128_132.out
                  have hcz115_0 : wc.cell? ⟨gb132, 0, none⟩ = some (.int .i64 ((rd_T59 l0_11 x3_2).f0)) := (blk_cell BK132.out 0).trans rfl
                  have hcz115_1 : wc.cell? ⟨gb132, 1, none⟩ = some (.int .i64 ((rd_T59 l0_11 x3_2).f1)) := (blk_cell BK132.out 1).trans rfl
                  have hcz115_2 : wc.cell? ⟨gb132, 2, none⟩ = some (.int .i64 ((rd_T59 l0_11 x3_2).f2)) := (blk_cell BK132.out 2).trans rfl
                  have hfz115_0 := blk_frozen BK132.out 0
                  have hfz115_1 := blk_frozen BK132.out 1
                  have hfz115_2 := blk_frozen BK132.out 2
                  go_wp2
                  go_ret
                  exact ⟨by first | rfl | (simp [errW_none, errW_some] <;> rfl) | (simp [*, errW_none, errW_some] <;> rfl), bl HB⟩
                ·rw [if_neg c110] at H
                 have c110b0 : (((rd_T59 l0_11 x3_2).f0) == 3) = false := beq_eq_false_iff_ne.mpr c110
                 have c110b1 : (((rd_T59 l0_11 x3_2).f0) != 3) = true := bne_iff_ne.mpr c110
                 obtain rfl := Option.some.inj H
                 have hnb116 := NB132_128.out
                 have hnc116 := NB128_132.out
                 have hcz117_0 : wc.cell? ⟨gb132, 0, none⟩ = some (.int .i64 ((rd_T59 l0_11 x3_2).f0)) := (blk_cell BK132.out 0).trans rfl
                 have hcz117_1 : wc.cell? ⟨gb132, 1, none⟩ = some (.int .i64 ((rd_T59 l0_11 x3_2).f1)) := (blk_cell BK132.out 1).trans rfl
                 have hcz117_2 : wc.cell? ⟨gb132, 2, none⟩ = some (.int .i64 ((rd_T59 l0_11 x3_2).f2)) := (blk_cell BK132.out 2).trans rfl
                 have hfz117_0 := blk_frozen BK132.out 0
                 have hfz117_1 := blk_frozen BK132.out 1
                 have hfz117_2 := blk_frozen BK132.out 2
                 go_wp2
                 go_ret
                 exact ⟨by first | rfl | (simp [errW_none, errW_some] <;> rfl) | (simp [*, errW_none, errW_some] <;> rfl), bl HB⟩
              ·rw [if_neg c100] at H
               have c100b0 : (((rd_T59 l0_11 x3_2).f0) == 2) = false := beq_eq_false_iff_ne.mpr c100
               have c100b1 : (((rd_T59 l0_11 x3_2).f0) != 2) = true := bne_iff_ne.mpr c100
               by_cases c118 : ((rd_T59 l0_11 x3_2).f0) = 3
               ·rw [if_pos c118] at H
                have c118b0 : (((rd_T59 l0_11 x3_2).f0) == 3) = true := beq_iff_eq.mpr c118
                have c118b1 : (((rd_T59 l0_11 x3_2).f0) != 3) = false := bne_eq_false_iff_eq.mpr c118
                clear c118
                by_cases c119 : ((rd_T59 l0_11 x3_2).f1) ≤ t131
                ·rw [if_pos c119] at H
                 have c119b0 : decide (((rd_T59 l0_11 x3_2).f1) ≤ t131) = true := decide_eq_true c119
                 clear c119
                 have H' := Aside0.mk H
                 clear H
                 have hnb120 := NB132_128.out
                 have hnc120 := NB128_132.out
                 have hcz121_0 : wc.cell? ⟨gb132, 0, none⟩ = some (.int .i64 ((rd_T59 l0_11 x3_2).f0)) := (blk_cell BK132.out 0).trans rfl
                 have hcz121_1 : wc.cell? ⟨gb132, 1, none⟩ = some (.int .i64 ((rd_T59 l0_11 x3_2).f1)) := (blk_cell BK132.out 1).trans rfl
                 have hcz121_2 : wc.cell? ⟨gb132, 2, none⟩ = some (.int .i64 ((rd_T59 l0_11 x3_2).f2)) := (blk_cell BK132.out 2).trans rfl
                 have hfz121_0 := blk_frozen BK132.out 0
                 have hfz121_1 := blk_frozen BK132.out 1
                 have hfz121_2 := blk_frozen BK132.out 2
                 go_wp2
                 go_roundg kj14
                 case measure => have := HJ1.out; have := HK2.out; have := HJ14.out; omega
                 case rel => exact ⟨(wrap64 (x3_2 + 1)), (by first | rfl | (simp; done) | (simp [*]; done)), H', ⟨by have := HJ1.out; have := HK2.out; have := HJ14.out; omega⟩, ⟨by (with_reducible repeat (first | refine blk_drewN ?_ _ | refine blk_drew ?_ | refine blk_alloc ?_ _)); exact BK128.out⟩, ⟨bl HB⟩⟩
                ·rw [if_neg c119] at H
                 have c119b0 : decide (((rd_T59 l0_11 x3_2).f1) ≤ t131) = false := decide_eq_false c119
                 clear c119
                 obtain rfl := Option.some.inj H
                 have hnb122 := NB132_128.out
                 have hnc122 := NB128_132.out
                 have hcz123_0 : wc.cell? ⟨gb132, 0, none⟩ = some (.int .i64 ((rd_T59 l0_11 x3_2).f0)) := (blk_cell BK132.out 0).trans rfl
                 have hcz123_1 : wc.cell? ⟨gb132, 1, none⟩ = some (.int .i64 ((rd_T59 l0_11 x3_2).f1)) := (blk_cell BK132.out 1).trans rfl
                 have hcz123_2 : wc.cell? ⟨gb132, 2, none⟩ = some (.int .i64 ((rd_T59 l0_11 x3_2).f2)) := (blk_cell BK132.out 2).trans rfl
                 have hfz123_0 := blk_frozen BK132.out 0
                 have hfz123_1 := blk_frozen BK132.out 1
                 have hfz123_2 := blk_frozen BK132.out 2
                 go_wp2
                 go_ret
                 exact ⟨by first | rfl | (simp [errW_none, errW_some] <;> rfl) | (simp [*, errW_none, errW_some] <;> rfl), bl HB⟩
               ·rw [if_neg c118] at H
                have c118b0 : (((rd_T59 l0_11 x3_2).f0) == 3) = false := beq_eq_false_iff_ne.mpr c118
                have c118b1 : (((rd_T59 l0_11 x3_2).f0) != 3) = true := bne_iff_ne.mpr c118
                obtain rfl := Option.some.inj H
                have hnb124 := NB132_128.out
                have hnc124 := NB128_132.out
                have hcz125_0 : wc.cell? ⟨gb132, 0, none⟩ = some (.int .i64 ((rd_T59 l0_11 x3_2).f0)) := (blk_cell BK132.out 0).trans rfl
                have hcz125_1 : wc.cell? ⟨gb132, 1, none⟩ = some (.int .i64 ((rd_T59 l0_11 x3_2).f1)) := (blk_cell BK132.out 1).trans rfl
                have hcz125_2 : wc.cell? ⟨gb132, 2, none⟩ = some (.int .i64 ((rd_T59 l0_11 x3_2).f2)) := (blk_cell BK132.out 2).trans rfl
                have hfz125_0 := blk_frozen BK132.out 0
                have hfz125_1 := blk_frozen BK132.out 1
                have hfz125_2 := blk_frozen BK132.out 2
                go_wp2
                go_ret
                exact ⟨by first | rfl | (simp [errW_none, errW_some] <;> rfl) | (simp [*, errW_none, errW_some] <;> rfl), bl HB⟩
            ·rw [if_neg c96] at H
             have c96b0 : (((rd_T59 l0_11 x3_2).f0) == 1) = false := beq_eq_false_iff_ne.mpr c96
             have c96b1 : (((rd_T59 l0_11 x3_2).f0) != 1) = true := bne_iff_ne.mpr c96
             by_cases c126 : ((rd_T59 l0_11 x3_2).f0) = 2
             ·rw [if_pos c126] at H
              have c126b0 : (((rd_T59 l0_11 x3_2).f0) == 2) = true := beq_iff_eq.mpr c126
              have c126b1 : (((rd_T59 l0_11 x3_2).f0) != 2) = false := bne_eq_false_iff_eq.mpr c126
              clear c126
              by_cases c127 : ((rd_T59 l0_11 x3_2).f1) > 0
              ·rw [if_pos c127] at H
               have c127b0 : decide (0 < ((rd_T59 l0_11 x3_2).f1)) = true := decide_eq_true c127
               clear c127
               by_cases c128 : ((rd_T59 l0_11 x3_2).f1) < t131
               ·rw [if_pos c128] at H
                have c128b0 : decide (((rd_T59 l0_11 x3_2).f1) < t131) = true := decide_eq_true c128
                clear c128
                have H' := Aside0.mk H
                clear H
                have hnb129 := NB132_128.out
                have hnc129 := NB128_132.out
                have hcz130_0 : wc.cell? ⟨gb132, 0, none⟩ = some (.int .i64 ((rd_T59 l0_11 x3_2).f0)) := (blk_cell BK132.out 0).trans rfl
                have hcz130_1 : wc.cell? ⟨gb132, 1, none⟩ = some (.int .i64 ((rd_T59 l0_11 x3_2).f1)) := (blk_cell BK132.out 1).trans rfl
                have hcz130_2 : wc.cell? ⟨gb132, 2, none⟩ = some (.int .i64 ((rd_T59 l0_11 x3_2).f2)) := (blk_cell BK132.out 2).trans rfl
                have hfz130_0 := blk_frozen BK132.out 0
                have hfz130_1 := blk_frozen BK132.out 1
                have hfz130_2 := blk_frozen BK132.out 2
                go_wp2
                go_roundg kj14
                case measure => have := HJ1.out; have := HK2.out; have := HJ14.out; omega
                case rel => exact ⟨(wrap64 (x3_2 + 1)), (by first | rfl | (simp; done) | (simp [*]; done)), H', ⟨by have := HJ1.out; have := HK2.out; have := HJ14.out; omega⟩, ⟨by (with_reducible repeat (first | refine blk_drewN ?_ _ | refine blk_drew ?_ | refine blk_alloc ?_ _)); exact BK128.out⟩, ⟨bl HB⟩⟩
               ·rw [if_neg c128] at H
                have c128b0 : decide (((rd_T59 l0_11 x3_2).f1) < t131) = false := decide_eq_false c128
                clear c128
                by_cases c131 : ((rd_T59 l0_11 x3_2).f0) = 3
                ·rw [if_pos c131] at H
                 have c131b0 : (((rd_T59 l0_11 x3_2).f0) == 3) = true := beq_iff_eq.mpr c131
                 have c131b1 : (((rd_T59 l0_11 x3_2).f0) != 3) = false := bne_eq_false_iff_eq.mpr c131
                 clear c131
                 by_cases c132 : ((rd_T59 l0_11 x3_2).f1) ≤ t131
                 ·rw [if_pos c132] at H
                  have c132b0 : decide (((rd_T59 l0_11 x3_2).f1) ≤ t131) = true := decide_eq_true c132
                  clear c132
                  have H' := Aside0.mk H
                  clear H
                  have hnb133 := NB132_128.out
                  have hnc133 := NB128_132.out
                  have hcz134_0 : wc.cell? ⟨gb132, 0, none⟩ = some (.int .i64 ((rd_T59 l0_11 x3_2).f0)) := (blk_cell BK132.out 0).trans rfl
                  have hcz134_1 : wc.cell? ⟨gb132, 1, none⟩ = some (.int .i64 ((rd_T59 l0_11 x3_2).f1)) := (blk_cell BK132.out 1).trans rfl
                  have hcz134_2 : wc.cell? ⟨gb132, 2, none⟩ = some (.int .i64 ((rd_T59 l0_11 x3_2).f2)) := (blk_cell BK132.out 2).trans rfl
                  have hfz134_0 := blk_frozen BK132.out 0
                  have hfz134_1 := blk_frozen BK132.out 1
                  have hfz134_2 := blk_frozen BK132.out 2
                  go_wp2
                  go_roundg kj14
                  case measure => have := HJ1.out; have := HK2.out; have := HJ14.out; omega
                  case rel => exact ⟨(wrap64 (x3_2 + 1)), (by first | rfl | (simp; done) | (simp [*]; done)), H', ⟨by have := HJ1.out; have := HK2.out; have := HJ14.out; omega⟩, ⟨by (with_reducible repeat (first | refine blk_drewN ?_ _ | refine blk_drew ?_ | refine blk_alloc ?_ _)); exact BK128.out⟩, ⟨bl HB⟩⟩
                 ·rw [if_neg c132] at H
                  have c132b0 : decide (((rd_T59 l0_11 x3_2).f1) ≤ t131) = false := decide_eq_false c132
                  clear c132
                  obtain rfl := Option.some.inj H
                  have hnb135 := NB132_128.out
                  have hnc135 := NB128_132.out
                  have hcz136_0 : wc.cell? ⟨gb132, 0, none⟩ = some (.int .i64 ((rd_T59 l0_11 x3_2).f0)) := (blk_cell BK132.out 0).trans rfl
                  have hcz136_1 : wc.cell? ⟨gb132, 1, none⟩ = some (.int .i64 ((rd_T59 l0_11 x3_2).f1)) := (blk_cell BK132.out 1).trans rfl
                  have hcz136_2 : wc.cell? ⟨gb132, 2, none⟩ = some (.int .i64 ((rd_T59 l0_11 x3_2).f2)) := (blk_cell BK132.out 2).trans rfl
                  have hfz136_0 := blk_frozen BK132.out 0
                  have hfz136_1 := blk_frozen BK132.out 1
                  have hfz136_2 := blk_frozen BK132.out 2
                  go_wp2
                  go_ret
                  exact ⟨by first | rfl | (simp [errW_none, errW_some] <;> rfl) | (simp [*, errW_none, errW_some] <;> rfl), bl HB⟩
                ·rw [if_neg c131] at H
                 have c131b0 : (((rd_T59 l0_11 x3_2).f0) == 3) = false := beq_eq_false_iff_ne.mpr c131
                 have c131b1 : (((rd_T59 l0_11 x3_2).f0) != 3) = true := bne_iff_ne.mpr c131
                 obtain rfl := Option.some.inj H
                 have hnb137 := NB132_128.out
                 have hnc137 := NB128_132.out
                 have hcz138_0 : wc.cell? ⟨gb132, 0, none⟩ = some (.int .i64 ((rd_T59 l0_11 x3_2).f0)) := (blk_cell BK132.out 0).trans rfl
                 have hcz138_1 : wc.cell? ⟨gb132, 1, none⟩ = some (.int .i64 ((rd_T59 l0_11 x3_2).f1)) := (blk_cell BK132.out 1).trans rfl
                 have hcz138_2 : wc.cell? ⟨gb132, 2, none⟩ = some (.int .i64 ((rd_T59 l0_11 x3_2).f2)) := (blk_cell BK132.out 2).trans rfl
                 have hfz138_0 := blk_frozen BK132.out 0
                 have hfz138_1 := blk_frozen BK132.out 1
                 have hfz138_2 := blk_frozen BK132.out 2
                 go_wp2
                 go_ret
                 exact ⟨by first | rfl | (simp [errW_none, errW_some] <;> rfl) | (simp [*, errW_none, errW_some] <;> rfl), bl HB⟩
              ·rw [if_neg c127] at H
               have c127b0 : decide (0 < ((rd_T59 l0_11 x3_2).f1)) = false := decide_eq_false c127
               clear c127
               by_cases c139 : ((rd_T59 l0_11 x3_2).f0) = 3
               ·rw [if_pos c139] at H
                have c139b0 : (((rd_T59 l0_11 x3_2).f0) == 3) = true := beq_iff_eq.mpr c139
                have c139b1 : (((rd_T59 l0_11 x3_2).f0) != 3) = false := bne_eq_false_iff_eq.mpr c139
                clear c139
                by_cases c140 : ((rd_T59 l0_11 x3_2).f1) ≤ t131
                ·rw [if_pos c140] at H
                 have c140b0 : decide (((rd_T59 l0_11 x3_2).f1) ≤ t131) = true := decide_eq_true c140
                 clear c140
                 have H' := Aside0.mk H
                 clear H
                 have hnb141 := NB132_128.out
                 have hnc141 := NB128_132.out
                 have hcz142_0 : wc.cell? ⟨gb132, 0, none⟩ = some (.int .i64 ((rd_T59 l0_11 x3_2).f0)) := (blk_cell BK132.out 0).trans rfl
                 have hcz142_1 : wc.cell? ⟨gb132, 1, none⟩ = some (.int .i64 ((rd_T59 l0_11 x3_2).f1)) := (blk_cell BK132.out 1).trans rfl
                 have hcz142_2 : wc.cell? ⟨gb132, 2, none⟩ = some (.int .i64 ((rd_T59 l0_11 x3_2).f2)) := (blk_cell BK132.out 2).trans rfl
                 have hfz142_0 := blk_frozen BK132.out 0
                 have hfz142_1 := blk_frozen BK132.out 1
                 have hfz142_2 := blk_frozen BK132.out 2
                 go_wp2
                 go_roundg kj14
                 case measure => have := HJ1.out; have := HK2.out; have := HJ14.out; omega
                 case rel => exact ⟨(wrap64 (x3_2 + 1)), (by first | rfl | (simp; done) | (simp [*]; done)), H', ⟨by have := HJ1.out; have := HK2.out; have := HJ14.out; omega⟩, ⟨by (with_reducible repeat (first | refine blk_drewN ?_ _ | refine blk_drew ?_ | refine blk_alloc ?_ _)); exact BK128.out⟩, ⟨bl HB⟩⟩
                ·rw [if_neg c140] at H
                 have c140b0 : decide (((rd_T59 l0_11 x3_2).f1) ≤ t131) = false := decide_eq_false c140
                 clear c140
                 obtain rfl := Option.some.inj H
                 have hnb143 := NB132_128.out
                 have hnc143 := NB128_132.out
                 have hcz144_0 : wc.cell? ⟨gb132, 0, none⟩ = some (.int .i64 ((rd_T59 l0_11 x3_2).f0)) := (blk_cell BK132.out 0).trans rfl
                 have hcz144_1 : wc.cell? ⟨gb132, 1, none⟩ = some (.int .i64 ((rd_T59 l0_11 x3_2).f1)) := (blk_cell BK132.out 1).trans rfl
                 have hcz144_2 : wc.cell? ⟨gb132, 2, none⟩ = some (.int .i64 ((rd_T59 l0_11 x3_2).f2)) := (blk_cell BK132.out 2).trans rfl
                 have hfz144_0 := blk_frozen BK132.out 0
                 have hfz144_1 := blk_frozen BK132.out 1
                 have hfz144_2 := blk_frozen BK132.out 2
                 go_wp2
                 go_ret
                 exact ⟨by first | rfl | (simp [errW_none, errW_some] <;> rfl) | (simp [*, errW_none, errW_some] <;> rfl), bl HB⟩
               ·rw [if_neg c139] at H
                have c139b0 : (((rd_T59 l0_11 x3_2).f0) == 3) = false := beq_eq_false_iff_ne.mpr c139
                have c139b1 : (((rd_T59 l0_11 x3_2).f0) != 3) = true := bne_iff_ne.mpr c139
                obtain rfl := Option.some.inj H
                have hnb145 := NB132_128.out
                have hnc145 := NB128_132.out
                have hcz146_0 : wc.cell? ⟨gb132, 0, none⟩ = some (.int .i64 ((rd_T59 l0_11 x3_2).f0)) := (blk_cell BK132.out 0).trans rfl
                have hcz146_1 : wc.cell? ⟨gb132, 1, none⟩ = some (.int .i64 ((rd_T59 l0_11 x3_2).f1)) := (blk_cell BK132.out 1).trans rfl
                have hcz146_2 : wc.cell? ⟨gb132, 2, none⟩ = some (.int .i64 ((rd_T59 l0_11 x3_2).f2)) := (blk_cell BK132.out 2).trans rfl
                have hfz146_0 := blk_frozen BK132.out 0
                have hfz146_1 := blk_frozen BK132.out 1
                have hfz146_2 := blk_frozen BK132.out 2
                go_wp2
                go_ret
                exact ⟨by first | rfl | (simp [errW_none, errW_some] <;> rfl) | (simp [*, errW_none, errW_some] <;> rfl), bl HB⟩
             ·rw [if_neg c126] at H
              have c126b0 : (((rd_T59 l0_11 x3_2).f0) == 2) = false := beq_eq_false_iff_ne.mpr c126
              have c126b1 : (((rd_T59 l0_11 x3_2).f0) != 2) = true := bne_iff_ne.mpr c126
              by_cases c147 : ((rd_T59 l0_11 x3_2).f0) = 3
              ·rw [if_pos c147] at H
               have c147b0 : (((rd_T59 l0_11 x3_2).f0) == 3) = true := beq_iff_eq.mpr c147
               have c147b1 : (((rd_T59 l0_11 x3_2).f0) != 3) = false := bne_eq_false_iff_eq.mpr c147
               clear c147
               by_cases c148 : ((rd_T59 l0_11 x3_2).f1) ≤ t131
               ·rw [if_pos c148] at H
                have c148b0 : decide (((rd_T59 l0_11 x3_2).f1) ≤ t131) = true := decide_eq_true c148
                clear c148
                have H' := Aside0.mk H
                clear H
                have hnb149 := NB132_128.out
                have hnc149 := NB128_132.out
                have hcz150_0 : wc.cell? ⟨gb132, 0, none⟩ = some (.int .i64 ((rd_T59 l0_11 x3_2).f0)) := (blk_cell BK132.out 0).trans rfl
                have hcz150_1 : wc.cell? ⟨gb132, 1, none⟩ = some (.int .i64 ((rd_T59 l0_11 x3_2).f1)) := (blk_cell BK132.out 1).trans rfl
                have hcz150_2 : wc.cell? ⟨gb132, 2, none⟩ = some (.int .i64 ((rd_T59 l0_11 x3_2).f2)) := (blk_cell BK132.out 2).trans rfl
                have hfz150_0 := blk_frozen BK132.out 0
                have hfz150_1 := blk_frozen BK132.out 1
                have hfz150_2 := blk_frozen BK132.out 2
                go_wp2
                go_roundg kj14
                case measure => have := HJ1.out; have := HK2.out; have := HJ14.out; omega
                case rel => exact ⟨(wrap64 (x3_2 + 1)), (by first | rfl | (simp; done) | (simp [*]; done)), H', ⟨by have := HJ1.out; have := HK2.out; have := HJ14.out; omega⟩, ⟨by (with_reducible repeat (first | refine blk_drewN ?_ _ | refine blk_drew ?_ | refine blk_alloc ?_ _)); exact BK128.out⟩, ⟨bl HB⟩⟩
               ·rw [if_neg c148] at H
                have c148b0 : decide (((rd_T59 l0_11 x3_2).f1) ≤ t131) = false := decide_eq_false c148
                clear c148
                obtain rfl := Option.some.inj H
                have hnb151 := NB132_128.out
                have hnc151 := NB128_132.out
                have hcz152_0 : wc.cell? ⟨gb132, 0, none⟩ = some (.int .i64 ((rd_T59 l0_11 x3_2).f0)) := (blk_cell BK132.out 0).trans rfl
                have hcz152_1 : wc.cell? ⟨gb132, 1, none⟩ = some (.int .i64 ((rd_T59 l0_11 x3_2).f1)) := (blk_cell BK132.out 1).trans rfl
                have hcz152_2 : wc.cell? ⟨gb132, 2, none⟩ = some (.int .i64 ((rd_T59 l0_11 x3_2).f2)) := (blk_cell BK132.out 2).trans rfl
                have hfz152_0 := blk_frozen BK132.out 0
                have hfz152_1 := blk_frozen BK132.out 1
                have hfz152_2 := blk_frozen BK132.out 2
                go_wp2
                go_ret
                exact ⟨by first | rfl | (simp [errW_none, errW_some] <;> rfl) | (simp [*, errW_none, errW_some] <;> rfl), bl HB⟩
              ·rw [if_neg c147] at H
               have c147b0 : (((rd_T59 l0_11 x3_2).f0) == 3) = false := beq_eq_false_iff_ne.mpr c147
               have c147b1 : (((rd_T59 l0_11 x3_2).f0) != 3) = true := bne_iff_ne.mpr c147
               obtain rfl := Option.some.inj H
               have hnb153 := NB132_128.out
               have hnc153 := NB128_132.out
               have hcz154_0 : wc.cell? ⟨gb132, 0, none⟩ = some (.int .i64 ((rd_T59 l0_11 x3_2).f0)) := (blk_cell BK132.out 0).trans rfl
               have hcz154_1 : wc.cell? ⟨gb132, 1, none⟩ = some (.int .i64 ((rd_T59 l0_11 x3_2).f1)) := (blk_cell BK132.out 1).trans rfl
               have hcz154_2 : wc.cell? ⟨gb132, 2, none⟩ = some (.int .i64 ((rd_T59 l0_11 x3_2).f2)) := (blk_cell BK132.out 2).trans rfl
               have hfz154_0 := blk_frozen BK132.out 0
               have hfz154_1 := blk_frozen BK132.out 1
               have hfz154_2 := blk_frozen BK132.out 2
               go_wp2
               go_ret
               exact ⟨by first | rfl | (simp [errW_none, errW_some] <;> rfl) | (simp [*, errW_none, errW_some] <;> rfl), bl HB⟩
       ·rw [if_neg c13] at H
        exact absurd H (by simp)
      ·rw [if_neg c12] at H
       have c12b0 : decide (x3_2 < (l0_11.length : Int)) = false := decide_eq_false c12
       clear c12
       obtain rfl := Option.some.inj H
       obtain ⟨hcz155_0, hcz155_1, hcz155_2, hcz155_3, hcz155_4, hcz155_5, hcz155_6, hcz155_7, hcz155_8, hcz155_9, hcz155_10, hcz155_11⟩ := cz12 BK128.out
       obtain ⟨hfz155_0, hfz155_1, hfz155_2, hfz155_3, hfz155_4, hfz155_5, hfz155_6, hfz155_7, hfz155_8, hfz155_9, hfz155_10, hfz155_11⟩ := fz12 BK128.out
       go_wp2
       go_ret
       exact ⟨by first | rfl | (simp [errW_none, errW_some] <;> rfl) | (simp [*, errW_none, errW_some] <;> rfl), bl HB⟩

end Go.Proofs.Ytgckcaoncjhgbaa.PL
