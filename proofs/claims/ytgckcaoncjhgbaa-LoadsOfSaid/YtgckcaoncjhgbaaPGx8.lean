/- Printed by the kit's print over stand-ins for some functions (xprint.py), with contracts of my own in their place. -/
import Derived.Test.YtgckcaoncjhgbaaFPg
set_option maxHeartbeats 8000000
set_option maxRecDepth 100000
namespace Go.Proofs.Ytgckcaoncjhgbaa.PG
open Go.RowKit Go.Proofs.YtgckcaoncjhgbaaW.PrintWords Go.Proofs.YtgckcaoncjhgbaaW.PrintLast
set_option linter.unusedVariables false
set_option linter.unusedSimpArgs false
mutual
def revetmentref08_Of.j0 : Nat -> Int -> Bool -> Int -> Int -> Int -> Int -> Int -> Int -> Int -> Int -> Int -> Int -> Int -> Option (Int × Int × Int × Int × Int × Bool)
  | 0, _, _, _, _, _, _, _, _, _, _, _, _, _ => none
  | k + 1, x1, x20, x147000, x147001, x147002, x147003, x147004, x147005, x147006, x147007, x147008, x147009, x147010 => if x20 = true then (some (0, 0, 0, 0, 0, false)) else ((revetmentref07_Row.f x147000 x147001 x147002 x147003 x147004 x147005 x147006 x147007 x147008 x147009 x147010).bind fun t150 => (if t150 = 0 then (none) else ((revetmentref07_Row.f x147000 x147001 x147002 x147003 x147004 x147005 x147006 x147007 x147008 x147009 x147010).bind fun t152 => (revetmentref08_Of.l0 k (wrap64 (x1 - (wrap64 ((wrap64 (Int.tdiv x1 t150)) * t152)))) x147000 x147001 x147002 x147003 x147004 x147005 x147006 x147007 x147008 x147009 x147010 (wrap64 (Int.tdiv x1 t150)) 0 0 0 0))))
def revetmentref08_Of.l0 : Nat -> Int -> Int -> Int -> Int -> Int -> Int -> Int -> Int -> Int -> Int -> Int -> Int -> Int -> Int -> Int -> Int -> Int -> Option (Int × Int × Int × Int × Int × Bool)
  | 0, _, _, _, _, _, _, _, _, _, _, _, _, _, _, _, _, _ => none
  | k + 1, x7, x147000, x147001, x147002, x147003, x147004, x147005, x147006, x147007, x147008, x147009, x147010, x152000, x152001, x152002, x152003, x152004 => if x7 >= x147002 then (revetmentref08_Of.l0 k (wrap64 (x7 - x147002)) x147000 x147001 x147002 x147003 x147004 x147005 x147006 x147007 x147008 x147009 x147010 x152000 (wrap64 (x152001 + 1)) x152002 x152003 x152004) else (if x147001 = 0 then (none) else (some (x152000, x152001, x7, Int.tmod (wrap64 ((wrap64 ((Int.tmod x152000 x147001) + 1)) + x152001)) x147001, wrap64 ((wrap64 (x152000 * x147002)) + x7), true)))
end
def revetmentref08_Of.f (k : Nat) (i0 i1 i2 i3 i4 i5 i6 i7 i8 i9 ix a1 : Int) : Option (Int × Int × Int × Int × Int × Bool) := (revetmentref07_Check.f i0 i1 i2 i3 i4 i5 i6 i7 i8 i9 ix).bind fun t148 => (if t148 = 0 then (if a1 < 0 then (revetmentref08_Of.j0 k a1 true i0 i1 i2 i3 i4 i5 i6 i7 i8 i9 ix) else ((revetmentref07_Size.f i0 i1 i2 i3 i4 i5 i6 i7 i8 i9 ix).bind fun t149 => (revetmentref08_Of.j0 k a1 (decide (a1 >= t149)) i0 i1 i2 i3 i4 i5 i6 i7 i8 i9 ix))) else (revetmentref08_Of.j0 k a1 true i0 i1 i2 i3 i4 i5 i6 i7 i8 i9 ix))
def revetmentref08_Of.T4 : Bool × List (List Nat × List Nat) := (true, [([], []), ([], []), ([1], [1]), ([], []), ([3], [3]), ([2, 4], [2, 4]), ([0, 5], [0, 5]), ([6, 4, 0, 1, 2, 3, 4, 5, 6], [6])])
def revetmentref08_Of.B4 : List Nat := [0, 0, 2, 0, 8, 30, 63, 127]
theorem revetmentref08_Of.tab4 : rtab .any (kT_ Try.f115 4) = revetmentref08_Of.T4 := by kernel_rfl
theorem revetmentref08_Of.bits4 : jO_ revetmentref08_Of.T4.2 revetmentref08_Of.B4 = true := by kernel_rfl
def revetmentref08_Of.T9 : Bool × List (List Nat × List Nat) := (true, [([], []), ([0], [0]), ([], []), ([2], [2]), ([1, 3], [1, 3]), ([4], [4]), ([], []), ([6], [6]), ([5, 7], [5, 7]), ([], []), ([9], [9]), ([8, 10], [8, 10]), ([0, 1, 2, 3, 4, 5, 6, 7, 8, 9, 10, 11], []), ([12, 11, 0, 1, 2, 3, 4, 5, 6, 7, 8, 9, 10, 11], [11, 12])])
def revetmentref08_Of.B9 : List Nat := [0, 1, 0, 4, 15, 31, 0, 64, 255, 0, 512, 2047, 4095, 8191]
theorem revetmentref08_Of.tab9 : rtab .any (kT_ Try.f115 9) = revetmentref08_Of.T9 := by kernel_rfl
theorem revetmentref08_Of.bits9 : jO_ revetmentref08_Of.T9.2 revetmentref08_Of.B9 = true := by kernel_rfl
theorem revetmentref08_Of.calls (k : Nat) (i0 i1 i2 i3 i4 i5 i6 i7 i8 i9 ix a1 r1 r2 r3 r4 r5 : Int) (r6 : Bool) (w : World) (h : revetmentref08_Of.f k i0 i1 i2 i3 i4 i5 i6 i7 i8 i9 ix a1 = some (r1, r2, r3, r4, r5, r6)) :
  Calls Try.prog 115 #[.agg #[.int .i64 i0, .int .i64 i1, .int .i64 i2, .int .i64 i3, .int .i64 i4, .int .i64 i5, .int .i64 i6, .int .i64 i7, .int .i64 i8, .int .i64 i9, .int .i64 ix], .int .i64 a1] w fun e w' => e = .returned (.tuple #[.agg #[.int .i64 r1, .int .i64 r2, .int .i64 r3, .int .i64 r4, .int .i64 r5], .bool r6]) /\ Below w.heap.size w w' := by
 have hu23 := Try.underlying23
 have hu163 := Try.underlying163
 have HB := Aside0.mk (Below.refl w.heap.size w)
 have H : ((revetmentref07_Check.f i0 i1 i2 i3 i4 i5 i6 i7 i8 i9 ix).bind fun t148 => (if t148 = 0 then (if a1 < 0 then (revetmentref08_Of.j0 k a1 true i0 i1 i2 i3 i4 i5 i6 i7 i8 i9 ix) else ((revetmentref07_Size.f i0 i1 i2 i3 i4 i5 i6 i7 i8 i9 ix).bind fun t149 => (revetmentref08_Of.j0 k a1 (decide (a1 >= t149)) i0 i1 i2 i3 i4 i5 i6 i7 i8 i9 ix))) else (revetmentref08_Of.j0 k a1 true i0 i1 i2 i3 i4 i5 i6 i7 i8 i9 ix))) = some (r1, r2, r3, r4, r5, r6) := h
 clear h
 have HC3 := Aside0.mk H
 clear H
 go_enter Try.func115, Try.ntmps115
 go_upto_region 1 with (first | ((with_reducible refine jD_ (N := 2) rfl ?_); refine jB_ ?hg (N := 2) ?hd (cs := #[.int .i64 i0, .int .i64 i1, .int .i64 i2, .int .i64 i3, .int .i64 i4, .int .i64 i5, .int .i64 i6, .int .i64 i7, .int .i64 i8, .int .i64 i9, .int .i64 ix]) (t := 23) ?hr ?_; (case hd => rfl); (case hg => rfl); (case hr => first | (go_simp; done) | (go_simp; rfl)); intro gb146 hg w4 hbox hb; have BK146 := Aside0.mk (hbox); have GW146 := Aside0.mk ((by rw [hg]; exact (ji_ (bl HB)) : w.heap.size <= gb146)); have GE146 := Aside0.mk ((by rw [hg]; exact (ji_ (bl HB)) : w.heap.size <= gb146)); replace HB := bst HB hb; clear hb hbox hg) | ((with_reducible refine jD_ (N := 4) rfl ?_); refine jB_ ?hg (N := 4) ?hd (cs := #[.int .i64 0, .int .i64 0, .int .i64 0, .int .i64 0, .int .i64 0]) (t := 163) ?hr ?_; (case hd => rfl); (case hg => rfl); (case hr => first | (go_simp; done) | (go_simp; rfl)); intro gb147 hg w5 hbox hb; have BK147 := Aside0.mk (hbox); have GW147 := Aside0.mk ((by rw [hg]; exact (ji_ (bl HB)) : w.heap.size <= gb147)); have GE147 := Aside0.mk ((by rw [hg]; exact (ji_ (bl HB)) : w.heap.size <= gb147)); have NB146_147 := Aside0.mk ((by rw [hg]; exact Nat.ne_of_lt (jX_ (g := gb146) (o := .cells #[.int .i64 i0, .int .i64 i1, .int .i64 i2, .int .i64 i3, .int .i64 i4, .int .i64 i5, .int .i64 i6, .int .i64 i7, .int .i64 i8, .int .i64 i9, .int .i64 ix] 23 (0, 0)) (by (with_reducible repeat (first | refine jf_ ?_ _ | refine jd_ ?_ | refine ja_ ?_ _)); exact BK146.out)) : gb146 ≠ gb147)); have NB147_146 := Aside0.mk ((by rw [hg]; exact Nat.ne_of_gt (jX_ (g := gb146) (o := .cells #[.int .i64 i0, .int .i64 i1, .int .i64 i2, .int .i64 i3, .int .i64 i4, .int .i64 i5, .int .i64 i6, .int .i64 i7, .int .i64 i8, .int .i64 i9, .int .i64 ix] 23 (0, 0)) (by (with_reducible repeat (first | refine jf_ ?_ _ | refine jd_ ?_ | refine ja_ ?_ _)); exact BK146.out)) : gb147 ≠ gb146)); replace BK146 := bkb BK146 hb; replace HB := bst HB hb; clear hb hbox hg))
 (try simp only [Act.put, List.setIfInBounds_toArray, List.set_cons_zero, List.set_cons_succ])
 go_cut [20] (fun v20 wc => ∃ (kq : Nat) (x20_2 : Bool), v20 = .bool x20_2 /\ Aside0 (revetmentref08_Of.j0 kq a1 x20_2 i0 i1 i2 i3 i4 i5 i6 i7 i8 i9 ix = some (r1, r2, r3, r4, r5, r6)) /\ Aside0 (kq <= k) /\ Aside0 (wc.heap[gb146]? = some (.cells #[.int .i64 i0, .int .i64 i1, .int .i64 i2, .int .i64 i3, .int .i64 i4, .int .i64 i5, .int .i64 i6, .int .i64 i7, .int .i64 i8, .int .i64 i9, .int .i64 ix] 23 (0, 0))) /\ Aside0 (wc.heap[gb147]? = some (.cells #[.int .i64 0, .int .i64 0, .int .i64 0, .int .i64 0, .int .i64 0] 163 (0, 0))) /\ Aside0 (Below w.heap.size w wc))
 case first =>
  have H := HC3.out
  clear HC3
  replace H := Option.bind_eq_some_iff.mp H
  obtain ⟨t148, A60, H⟩ := H
  replace H : (if t148 = 0 then (if a1 < 0 then (revetmentref08_Of.j0 k a1 true i0 i1 i2 i3 i4 i5 i6 i7 i8 i9 ix) else ((revetmentref07_Size.f i0 i1 i2 i3 i4 i5 i6 i7 i8 i9 ix).bind fun t149 => (revetmentref08_Of.j0 k a1 (decide (a1 >= t149)) i0 i1 i2 i3 i4 i5 i6 i7 i8 i9 ix))) else (revetmentref08_Of.j0 k a1 true i0 i1 i2 i3 i4 i5 i6 i7 i8 i9 ix)) = some (r1, r2, r3, r4, r5, r6) := H
  have A6 := Aside0.mk A60
  clear A60
  by_cases c7 : t148 = 0
  ·rw [if_pos c7] at H
   have c7b0 : (t148 == 0) = true := beq_iff_eq.mpr c7
   have c7b1 : (t148 != 0) = false := bne_eq_false_iff_eq.mpr c7
   clear c7
   (first | rw [c7b0] | (simp only [kq_, i32_w]; rw [c7b0]) | skip)
   by_cases c8 : a1 < 0
   ·rw [if_pos c8] at H
    have c8b0 : decide (a1 < 0) = true := decide_eq_true c8
    clear c8
    have H' := Aside0.mk H
    clear H
    have hnb9 := NB146_147.out
    have hnc9 := NB147_146.out
    obtain ⟨hcz10_0, hcz10_1, hcz10_2, hcz10_3, hcz10_4, hcz10_5, hcz10_6, hcz10_7, hcz10_8, hcz10_9, hcz10_10⟩ := cz11 BK146.out
    go_wp2_with (first | ((with_reducible refine jy_ (f := 13) rfl ?_); refine kh_ (some 9) rfl rfl Try.func13 (by kernel_rfl) rfl #[.agg #[.int .i64 i0, .int .i64 i1, .int .i64 i2, .int .i64 i3, .int .i64 i4, .int .i64 i5, .int .i64 i6, .int .i64 i7, .int .i64 i8, .int .i64 i9, .int .i64 ix]] rfl (by (try simp only [List.map_toArray, List.map_cons, List.map_nil]); first | done | rfl | (simp only [List.length_drop, List.length_take]; rfl)) ?_; (with_reducible refine (revetmentref07_Check.calls i0 i1 i2 i3 i4 i5 i6 i7 i8 i9 ix t148 _ A6.out).mono ?_); rintro e w11 ⟨rfl, hb⟩; refine ⟨_, rfl, ?_⟩; replace BK146 := bkb BK146 hb; replace BK147 := bkb BK147 hb; replace HB := bst HB hb; (try clear hb); (try clear hb2); (try clear hk); (try clear hi)))
    go_meet
    case rel => exact ⟨_, (true), (by first | rfl | (simp; done) | (simp [*]; done)), H', ⟨by first | omega | exact Nat.le_refl _⟩, ⟨by (with_reducible repeat (first | refine jf_ ?_ _ | refine jd_ ?_ | refine ja_ ?_ _)); exact BK146.out⟩, ⟨by (with_reducible repeat (first | refine jf_ ?_ _ | refine jd_ ?_ | refine ja_ ?_ _)); exact BK147.out⟩, ⟨bl HB⟩⟩
   ·rw [if_neg c8] at H
    have c8b0 : decide (a1 < 0) = false := decide_eq_false c8
    clear c8
    replace H := Option.bind_eq_some_iff.mp H
    obtain ⟨t149, A120, H⟩ := H
    replace H : (revetmentref08_Of.j0 k a1 (decide (a1 >= t149)) i0 i1 i2 i3 i4 i5 i6 i7 i8 i9 ix) = some (r1, r2, r3, r4, r5, r6) := H
    have A12 := Aside0.mk A120
    clear A120
    have H' := Aside0.mk H
    clear H
    have hnb13 := NB146_147.out
    have hnc13 := NB147_146.out
    obtain ⟨hcz14_0, hcz14_1, hcz14_2, hcz14_3, hcz14_4, hcz14_5, hcz14_6, hcz14_7, hcz14_8, hcz14_9, hcz14_10⟩ := cz11 BK146.out
    go_wp2_with (first | ((with_reducible refine jy_ (f := 13) rfl ?_); refine kh_ (some 9) rfl rfl Try.func13 (by kernel_rfl) rfl #[.agg #[.int .i64 i0, .int .i64 i1, .int .i64 i2, .int .i64 i3, .int .i64 i4, .int .i64 i5, .int .i64 i6, .int .i64 i7, .int .i64 i8, .int .i64 i9, .int .i64 ix]] rfl (by (try simp only [List.map_toArray, List.map_cons, List.map_nil]); first | done | rfl | (simp only [List.length_drop, List.length_take]; rfl)) ?_; (with_reducible refine (revetmentref07_Check.calls i0 i1 i2 i3 i4 i5 i6 i7 i8 i9 ix t148 _ A6.out).mono ?_); rintro e w15 ⟨rfl, hb⟩; refine ⟨_, rfl, ?_⟩; replace BK146 := bkb BK146 hb; replace BK147 := bkb BK147 hb; replace HB := bst HB hb; (try clear hb); (try clear hb2); (try clear hk); (try clear hi); obtain ⟨hcz16_0, hcz16_1, hcz16_2, hcz16_3, hcz16_4, hcz16_5, hcz16_6, hcz16_7, hcz16_8, hcz16_9, hcz16_10⟩ := cz11 BK146.out) | (go_at_call 41; (with_reducible refine (revetmentref07_Size.calls i0 i1 i2 i3 i4 i5 i6 i7 i8 i9 ix t149 _ A12.out).mono ?_); rintro e w17 ⟨rfl, hb⟩; replace BK146 := bkb BK146 hb; replace BK147 := bkb BK147 hb; replace HB := bst HB hb; (try clear hb); (try clear hb2); (try clear hk); (try clear hi)))
    go_meet
    case rel => exact ⟨_, (decide (a1 >= t149)), (by first | rfl | (simp; done) | (simp [*]; done)), H', ⟨by first | omega | exact Nat.le_refl _⟩, ⟨by (with_reducible repeat (first | refine jf_ ?_ _ | refine jd_ ?_ | refine ja_ ?_ _)); exact BK146.out⟩, ⟨by (with_reducible repeat (first | refine jf_ ?_ _ | refine jd_ ?_ | refine ja_ ?_ _)); exact BK147.out⟩, ⟨bl HB⟩⟩
  ·rw [if_neg c7] at H
   have c7b0 : (t148 == 0) = false := beq_eq_false_iff_ne.mpr c7
   have c7b1 : (t148 != 0) = true := bne_iff_ne.mpr c7
   (first | rw [c7b0] | (simp only [kq_, i32_w]; rw [c7b0]) | skip)
   have H' := Aside0.mk H
   clear H
   have hnb18 := NB146_147.out
   have hnc18 := NB147_146.out
   obtain ⟨hcz19_0, hcz19_1, hcz19_2, hcz19_3, hcz19_4, hcz19_5, hcz19_6, hcz19_7, hcz19_8, hcz19_9, hcz19_10⟩ := cz11 BK146.out
   go_wp2_with (first | ((with_reducible refine jy_ (f := 13) rfl ?_); refine kh_ (some 9) rfl rfl Try.func13 (by kernel_rfl) rfl #[.agg #[.int .i64 i0, .int .i64 i1, .int .i64 i2, .int .i64 i3, .int .i64 i4, .int .i64 i5, .int .i64 i6, .int .i64 i7, .int .i64 i8, .int .i64 i9, .int .i64 ix]] rfl (by (try simp only [List.map_toArray, List.map_cons, List.map_nil]); first | done | rfl | (simp only [List.length_drop, List.length_take]; rfl)) ?_; (with_reducible refine (revetmentref07_Check.calls i0 i1 i2 i3 i4 i5 i6 i7 i8 i9 ix t148 _ A6.out).mono ?_); rintro e w20 ⟨rfl, hb⟩; refine ⟨_, rfl, ?_⟩; replace BK146 := bkb BK146 hb; replace BK147 := bkb BK147 hb; replace HB := bst HB hb; (try clear hb); (try clear hb2); (try clear hk); (try clear hi)))
   go_meet
   case rel => exact ⟨_, (true), (by first | rfl | (simp; done) | (simp [*]; done)), H', ⟨by first | omega | exact Nat.le_refl _⟩, ⟨by (with_reducible repeat (first | refine jf_ ?_ _ | refine jd_ ?_ | refine ja_ ?_ _)); exact BK146.out⟩, ⟨by (with_reducible repeat (first | refine jf_ ?_ _ | refine jd_ ?_ | refine ja_ ?_ _)); exact BK147.out⟩, ⟨bl HB⟩⟩
 case rest =>
  clear HC3
  try clear c1
  try clear p2
  try clear c7
  try clear c7b0
  try clear c7b1
  try clear c8
  try clear c8b0
  try clear c9
  try clear c11
  try clear c13
  try clear c18
  (try clear hcz10_0 hcz10_1)
  (try clear hcz10_10)
  (try clear hcz10_2 hcz10_3 hcz10_4 hcz10_5 hcz10_6 hcz10_7 hcz10_8 hcz10_9)
  (try clear hcz14_0 hcz14_1)
  (try clear hcz14_10)
  (try clear hcz14_2 hcz14_3 hcz14_4 hcz14_5 hcz14_6 hcz14_7 hcz14_8 hcz14_9)
  (try clear hcz16_0 hcz16_1)
  (try clear hcz16_10)
  (try clear hcz16_2 hcz16_3 hcz16_4 hcz16_5 hcz16_6 hcz16_7 hcz16_8 hcz16_9)
  (try clear hcz19_0 hcz19_1)
  (try clear hcz19_10)
  (try clear hcz19_2 hcz19_3 hcz19_4 hcz19_5 hcz19_6 hcz19_7 hcz19_8 hcz19_9)
  (try clear hfz10_0 hfz10_1)
  (try clear hfz10_10)
  (try clear hfz10_2 hfz10_3 hfz10_4 hfz10_5 hfz10_6 hfz10_7 hfz10_8 hfz10_9)
  (try clear hfz14_0 hfz14_1)
  (try clear hfz14_10)
  (try clear hfz14_2 hfz14_3 hfz14_4 hfz14_5 hfz14_6 hfz14_7 hfz14_8 hfz14_9)
  (try clear hfz16_0 hfz16_1)
  (try clear hfz16_10)
  (try clear hfz16_2 hfz16_3 hfz16_4 hfz16_5 hfz16_6 hfz16_7 hfz16_8 hfz16_9)
  (try clear hfz19_0 hfz19_1)
  (try clear hfz19_10)
  (try clear hfz19_2 hfz19_3 hfz19_4 hfz19_5 hfz19_6 hfz19_7 hfz19_8 hfz19_9)
  obtain ⟨kq, x20_2, rfl, HA, HJ2, BK146, BK147, HB⟩ := hcut
  cases kq with
  | zero => exact absurd HA.out (by simp [revetmentref08_Of.j0])
  | succ kj2 =>
   have H := HA.out
   clear HA
   simp only [revetmentref08_Of.j0] at H
   by_cases c21 : x20_2 = true
   ·subst c21
    have H1 : (some (0, 0, 0, 0, 0, false)) = some (r1, r2, r3, r4, r5, r6) := by rw [if_pos rfl] at H; exact H
    clear H
    have H := H1
    clear H1
    simp only [Option.some.injEq, Prod.mk.injEq] at H
    obtain ⟨rfl, rfl, rfl, rfl, rfl, rfl⟩ := H
    have hnb22 := NB147_146.out
    have hnc22 := NB146_147.out
    obtain ⟨hcz23_0, hcz23_1, hcz23_2, hcz23_3, hcz23_4⟩ := cz5 BK147.out
    obtain ⟨hfz23_0, hfz23_1, hfz23_2, hfz23_3, hfz23_4⟩ := fz5 BK147.out
    go_wp2
    refine bodyPost_ret (jj_ rfl _ _ gb147 163 #[.int .i64 0, .int .i64 0, .int .i64 0, .int .i64 0, .int .i64 0] (0, 0) _ rfl (by (with_reducible repeat (first | refine jf_ ?_ _ | refine jd_ ?_ | refine ja_ ?_ _)); refine js_ (cs := #[.int .i64 0, .int .i64 0, .int .i64 0, .int .i64 0, .int .i64 0]) ?_ 4 _ rfl; (with_reducible repeat (first | refine jf_ ?_ _ | refine jd_ ?_ | refine ja_ ?_ _)); refine js_ (cs := #[.int .i64 0, .int .i64 0, .int .i64 0, .int .i64 0, .int .i64 0]) ?_ 3 _ rfl; (with_reducible repeat (first | refine jf_ ?_ _ | refine jd_ ?_ | refine ja_ ?_ _)); refine js_ (cs := #[.int .i64 0, .int .i64 0, .int .i64 0, .int .i64 0, .int .i64 0]) ?_ 2 _ rfl; (with_reducible repeat (first | refine jf_ ?_ _ | refine jd_ ?_ | refine ja_ ?_ _)); refine js_ (cs := #[.int .i64 0, .int .i64 0, .int .i64 0, .int .i64 0, .int .i64 0]) ?_ 1 _ rfl; (with_reducible repeat (first | refine jf_ ?_ _ | refine jd_ ?_ | refine ja_ ?_ _)); refine js_ (cs := #[.int .i64 0, .int .i64 0, .int .i64 0, .int .i64 0, .int .i64 0]) ?_ 0 _ rfl; (with_reducible repeat (first | refine jf_ ?_ _ | refine jd_ ?_ | refine ja_ ?_ _)); exact BK147.out) Try.underlying163 rfl (by kernel_rfl)) rfl ?_
    exact ⟨by first | rfl | (simp [jq_, jp_] <;> rfl) | (simp [*, jq_, jp_] <;> rfl), bl HB⟩
   ·replace c21 := Bool.eq_false_iff.mpr c21
    subst c21
    have H1 : ((revetmentref07_Row.f i0 i1 i2 i3 i4 i5 i6 i7 i8 i9 ix).bind fun t150 => (if t150 = 0 then (none) else ((revetmentref07_Row.f i0 i1 i2 i3 i4 i5 i6 i7 i8 i9 ix).bind fun t152 => (revetmentref08_Of.l0 kj2 (wrap64 (a1 - (wrap64 ((wrap64 (Int.tdiv a1 t150)) * t152)))) i0 i1 i2 i3 i4 i5 i6 i7 i8 i9 ix (wrap64 (Int.tdiv a1 t150)) 0 0 0 0)))) = some (r1, r2, r3, r4, r5, r6) := by rw [if_neg (show ¬ (false = true) by decide)] at H; exact H
    clear H
    have H := H1
    clear H1
    replace H := Option.bind_eq_some_iff.mp H
    obtain ⟨t150, A240, H⟩ := H
    replace H : (if t150 = 0 then (none) else ((revetmentref07_Row.f i0 i1 i2 i3 i4 i5 i6 i7 i8 i9 ix).bind fun t152 => (revetmentref08_Of.l0 kj2 (wrap64 (a1 - (wrap64 ((wrap64 (Int.tdiv a1 t150)) * t152)))) i0 i1 i2 i3 i4 i5 i6 i7 i8 i9 ix (wrap64 (Int.tdiv a1 t150)) 0 0 0 0))) = some (r1, r2, r3, r4, r5, r6) := H
    have A24 := Aside0.mk A240
    clear A240
    by_cases c25 : t150 = 0
    ·rw [if_pos c25] at H
     exact absurd H (by simp)
    ·rw [if_neg c25] at H
     have c25b0 : (t150 == 0) = false := beq_eq_false_iff_ne.mpr c25
     have c25b1 : (t150 != 0) = true := bne_iff_ne.mpr c25
     replace H := Option.bind_eq_some_iff.mp H
     obtain ⟨t152, A260, H⟩ := H
     replace H : (revetmentref08_Of.l0 kj2 (wrap64 (a1 - (wrap64 ((wrap64 (Int.tdiv a1 t150)) * t152)))) i0 i1 i2 i3 i4 i5 i6 i7 i8 i9 ix (wrap64 (Int.tdiv a1 t150)) 0 0 0 0) = some (r1, r2, r3, r4, r5, r6) := H
     have A26 := Aside0.mk A260
     clear A260
     have H' := Aside0.mk H
     clear H
     have hnb27 := NB146_147.out
     have hnc27 := NB147_146.out
     obtain ⟨hcz28_0, hcz28_1, hcz28_2, hcz28_3, hcz28_4, hcz28_5, hcz28_6, hcz28_7, hcz28_8, hcz28_9, hcz28_10⟩ := cz11 BK146.out
     try go_wp2_with (first | ((with_reducible refine jy_ (f := 116) rfl ?_); refine kh_ (some 24) rfl rfl Try.func116 (by kernel_rfl) rfl #[.agg #[.int .i64 i0, .int .i64 i1, .int .i64 i2, .int .i64 i3, .int .i64 i4, .int .i64 i5, .int .i64 i6, .int .i64 i7, .int .i64 i8, .int .i64 i9, .int .i64 ix]] rfl (by (try simp only [List.map_toArray, List.map_cons, List.map_nil]); first | done | rfl | (simp only [List.length_drop, List.length_take]; rfl)) ?_; (with_reducible refine (revetmentref07_Row.calls i0 i1 i2 i3 i4 i5 i6 i7 i8 i9 ix t150 _ A24.out).mono ?_); rintro e w29 ⟨rfl, hb⟩; refine ⟨_, rfl, ?_⟩; replace BK146 := bkb BK146 hb; replace BK147 := bkb BK147 hb; replace HB := bst HB hb; (try clear hb); (try clear hb2); (try clear hk); (try clear hi)) | ((with_reducible refine jD_ (N := 6) rfl ?_); refine jB_ ?hg (N := 6) ?hd (cs := #[.int .i64 0, .int .i64 0, .int .i64 0, .int .i64 0, .int .i64 0]) (t := 163) ?hr ?_; (case hd => rfl); (case hg => rfl); (case hr => first | (go_simp; done) | (go_simp; rfl)); intro gb151 hg w30 hbox hb; have BK151 := Aside0.mk (hbox); have GW151 := Aside0.mk ((by rw [hg]; exact (ji_ (bl HB)) : w.heap.size <= gb151)); have GE151 := Aside0.mk ((by rw [hg]; exact (ji_ (bl HB)) : w.heap.size <= gb151)); have NB146_151 := Aside0.mk ((by rw [hg]; exact Nat.ne_of_lt (jX_ (g := gb146) (o := .cells #[.int .i64 i0, .int .i64 i1, .int .i64 i2, .int .i64 i3, .int .i64 i4, .int .i64 i5, .int .i64 i6, .int .i64 i7, .int .i64 i8, .int .i64 i9, .int .i64 ix] 23 (0, 0)) (by (with_reducible repeat (first | refine jf_ ?_ _ | refine jd_ ?_ | refine ja_ ?_ _)); exact BK146.out)) : gb146 ≠ gb151)); have NB151_146 := Aside0.mk ((by rw [hg]; exact Nat.ne_of_gt (jX_ (g := gb146) (o := .cells #[.int .i64 i0, .int .i64 i1, .int .i64 i2, .int .i64 i3, .int .i64 i4, .int .i64 i5, .int .i64 i6, .int .i64 i7, .int .i64 i8, .int .i64 i9, .int .i64 ix] 23 (0, 0)) (by (with_reducible repeat (first | refine jf_ ?_ _ | refine jd_ ?_ | refine ja_ ?_ _)); exact BK146.out)) : gb151 ≠ gb146)); have NB147_151 := Aside0.mk ((by rw [hg]; exact Nat.ne_of_lt (jX_ (g := gb147) (o := .cells #[.int .i64 0, .int .i64 0, .int .i64 0, .int .i64 0, .int .i64 0] 163 (0, 0)) (by (with_reducible repeat (first | refine jf_ ?_ _ | refine jd_ ?_ | refine ja_ ?_ _)); exact BK147.out)) : gb147 ≠ gb151)); have NB151_147 := Aside0.mk ((by rw [hg]; exact Nat.ne_of_gt (jX_ (g := gb147) (o := .cells #[.int .i64 0, .int .i64 0, .int .i64 0, .int .i64 0, .int .i64 0] 163 (0, 0)) (by (with_reducible repeat (first | refine jf_ ?_ _ | refine jd_ ?_ | refine ja_ ?_ _)); exact BK147.out)) : gb151 ≠ gb147)); replace BK146 := bkb BK146 hb; replace BK147 := bkb BK147 hb; replace HB := bst HB hb; clear hb hbox hg; have hnb31 := NB151_146.out; have hnc31 := NB146_151.out; have hnb32 := NB151_147.out; have hnc32 := NB147_151.out; obtain ⟨hcz33_0, hcz33_1, hcz33_2, hcz33_3, hcz33_4⟩ := cz5 BK151.out; obtain ⟨hfz33_0, hfz33_1, hfz33_2, hfz33_3, hfz33_4⟩ := fz5 BK151.out))
     have n0_ : Aside0 ((((((w30.setCell ⟨gb151, 0, none⟩ (.int .i64 (wrap64 (Int.tdiv a1 t150)))).setCell ⟨gb151, 1, none⟩ (.int .i64 0)).setCell ⟨gb151, 2, none⟩ (.int .i64 0)).setCell ⟨gb151, 3, none⟩ (.int .i64 0)).setCell ⟨gb151, 4, none⟩ (.int .i64 0)).heap[gb146]? = some (.cells #[.int .i64 i0, .int .i64 i1, .int .i64 i2, .int .i64 i3, .int .i64 i4, .int .i64 i5, .int .i64 i6, .int .i64 i7, .int .i64 i8, .int .i64 i9, .int .i64 ix] 23 (0, 0))) := ⟨by (with_reducible repeat (first | refine jf_ ?_ _ | refine jd_ ?_ | refine ja_ ?_ _)); refine jv_ ?_ NB146_151.out _; (with_reducible repeat (first | refine jf_ ?_ _ | refine jd_ ?_ | refine ja_ ?_ _)); refine jv_ ?_ NB146_151.out _; (with_reducible repeat (first | refine jf_ ?_ _ | refine jd_ ?_ | refine ja_ ?_ _)); refine jv_ ?_ NB146_151.out _; (with_reducible repeat (first | refine jf_ ?_ _ | refine jd_ ?_ | refine ja_ ?_ _)); refine jv_ ?_ NB146_151.out _; (with_reducible repeat (first | refine jf_ ?_ _ | refine jd_ ?_ | refine ja_ ?_ _)); refine jv_ ?_ NB146_151.out _; (with_reducible repeat (first | refine jf_ ?_ _ | refine jd_ ?_ | refine ja_ ?_ _)); exact BK146.out⟩
     have n1_ : Aside0 ((((((w30.setCell ⟨gb151, 0, none⟩ (.int .i64 (wrap64 (Int.tdiv a1 t150)))).setCell ⟨gb151, 1, none⟩ (.int .i64 0)).setCell ⟨gb151, 2, none⟩ (.int .i64 0)).setCell ⟨gb151, 3, none⟩ (.int .i64 0)).setCell ⟨gb151, 4, none⟩ (.int .i64 0)).heap[gb147]? = some (.cells #[.int .i64 0, .int .i64 0, .int .i64 0, .int .i64 0, .int .i64 0] 163 (0, 0))) := ⟨by (with_reducible repeat (first | refine jf_ ?_ _ | refine jd_ ?_ | refine ja_ ?_ _)); refine jv_ ?_ NB147_151.out _; (with_reducible repeat (first | refine jf_ ?_ _ | refine jd_ ?_ | refine ja_ ?_ _)); refine jv_ ?_ NB147_151.out _; (with_reducible repeat (first | refine jf_ ?_ _ | refine jd_ ?_ | refine ja_ ?_ _)); refine jv_ ?_ NB147_151.out _; (with_reducible repeat (first | refine jf_ ?_ _ | refine jd_ ?_ | refine ja_ ?_ _)); refine jv_ ?_ NB147_151.out _; (with_reducible repeat (first | refine jf_ ?_ _ | refine jd_ ?_ | refine ja_ ?_ _)); refine jv_ ?_ NB147_151.out _; (with_reducible repeat (first | refine jf_ ?_ _ | refine jd_ ?_ | refine ja_ ?_ _)); exact BK147.out⟩
     have n2_ : Aside0 ((((((w30.setCell ⟨gb151, 0, none⟩ (.int .i64 (wrap64 (Int.tdiv a1 t150)))).setCell ⟨gb151, 1, none⟩ (.int .i64 0)).setCell ⟨gb151, 2, none⟩ (.int .i64 0)).setCell ⟨gb151, 3, none⟩ (.int .i64 0)).setCell ⟨gb151, 4, none⟩ (.int .i64 0)).heap[gb151]? = some (.cells #[.int .i64 (wrap64 (Int.tdiv a1 t150)), .int .i64 0, .int .i64 0, .int .i64 0, .int .i64 0] 163 (0, 0))) := ⟨by (with_reducible repeat (first | refine jf_ ?_ _ | refine jd_ ?_ | refine ja_ ?_ _)); refine js_ (cs := #[.int .i64 (wrap64 (Int.tdiv a1 t150)), .int .i64 0, .int .i64 0, .int .i64 0, .int .i64 0]) ?_ 4 _ rfl; (with_reducible repeat (first | refine jf_ ?_ _ | refine jd_ ?_ | refine ja_ ?_ _)); refine js_ (cs := #[.int .i64 (wrap64 (Int.tdiv a1 t150)), .int .i64 0, .int .i64 0, .int .i64 0, .int .i64 0]) ?_ 3 _ rfl; (with_reducible repeat (first | refine jf_ ?_ _ | refine jd_ ?_ | refine ja_ ?_ _)); refine js_ (cs := #[.int .i64 (wrap64 (Int.tdiv a1 t150)), .int .i64 0, .int .i64 0, .int .i64 0, .int .i64 0]) ?_ 2 _ rfl; (with_reducible repeat (first | refine jf_ ?_ _ | refine jd_ ?_ | refine ja_ ?_ _)); refine js_ (cs := #[.int .i64 (wrap64 (Int.tdiv a1 t150)), .int .i64 0, .int .i64 0, .int .i64 0, .int .i64 0]) ?_ 1 _ rfl; (with_reducible repeat (first | refine jf_ ?_ _ | refine jd_ ?_ | refine ja_ ?_ _)); refine js_ (cs := #[.int .i64 0, .int .i64 0, .int .i64 0, .int .i64 0, .int .i64 0]) ?_ 0 _ rfl; (with_reducible repeat (first | refine jf_ ?_ _ | refine jd_ ?_ | refine ja_ ?_ _)); exact BK151.out⟩
     have n3_ : Aside0 (Below w.heap.size w (((((w30.setCell ⟨gb151, 0, none⟩ (.int .i64 (wrap64 (Int.tdiv a1 t150)))).setCell ⟨gb151, 1, none⟩ (.int .i64 0)).setCell ⟨gb151, 2, none⟩ (.int .i64 0)).setCell ⟨gb151, 3, none⟩ (.int .i64 0)).setCell ⟨gb151, 4, none⟩ (.int .i64 0))) := ⟨bl HB⟩
     (try clear BK146)
     (try clear BK147)
     (try clear BK151)
     (try clear HB)
     generalize (((((w30.setCell ⟨gb151, 0, none⟩ (.int .i64 (wrap64 (Int.tdiv a1 t150)))).setCell ⟨gb151, 1, none⟩ (.int .i64 0)).setCell ⟨gb151, 2, none⟩ (.int .i64 0)).setCell ⟨gb151, 3, none⟩ (.int .i64 0)).setCell ⟨gb151, 4, none⟩ (.int .i64 0)) = w34 at n0_ n1_ n2_ n3_ ⊢
     have BK146 := n0_
     have BK147 := n1_
     have BK151 := n2_
     have HB := n3_
     clear n0_ n1_ n2_ n3_
     replace BK146 := Aside0.mk (jd_ BK146.out)
     replace BK147 := Aside0.mk (jd_ BK147.out)
     replace BK151 := Aside0.mk (jd_ BK151.out)
     replace HB := Aside0.mk (jC_ HB.out)
     refine jN_ (n := 8) (S := fun w' => w'.cell? ⟨gb151, 0, none⟩ = some (.int .i64 (wrap64 (Int.tdiv a1 t150))) /\ w'.cell? ⟨gb151, 1, none⟩ = some (.int .i64 0) /\ w'.cell? ⟨gb151, 2, none⟩ = some (.int .i64 0) /\ w'.cell? ⟨gb151, 3, none⟩ = some (.int .i64 0) /\ w'.cell? ⟨gb151, 4, none⟩ = some (.int .i64 0) /\ w'.cell? ⟨gb146, 0, none⟩ = some (.int .i64 i0) /\ w'.cell? ⟨gb146, 1, none⟩ = some (.int .i64 i1) /\ w'.cell? ⟨gb146, 2, none⟩ = some (.int .i64 i2) /\ w'.cell? ⟨gb146, 3, none⟩ = some (.int .i64 i3) /\ w'.cell? ⟨gb146, 4, none⟩ = some (.int .i64 i4) /\ w'.cell? ⟨gb146, 5, none⟩ = some (.int .i64 i5) /\ w'.cell? ⟨gb146, 6, none⟩ = some (.int .i64 i6) /\ w'.cell? ⟨gb146, 7, none⟩ = some (.int .i64 i7) /\ w'.cell? ⟨gb146, 8, none⟩ = some (.int .i64 i8) /\ w'.cell? ⟨gb146, 9, none⟩ = some (.int .i64 i9) /\ w'.cell? ⟨gb146, 10, none⟩ = some (.int .i64 ix)) (ds := []) (bq 8 0) (by kernel_rfl) rfl rfl ⟨(je_ BK151.out 0).trans rfl, (je_ BK151.out 1).trans rfl, (je_ BK151.out 2).trans rfl, (je_ BK151.out 3).trans rfl, (je_ BK151.out 4).trans rfl, (je_ BK146.out 0).trans rfl, (je_ BK146.out 1).trans rfl, (je_ BK146.out 2).trans rfl, (je_ BK146.out 3).trans rfl, (je_ BK146.out 4).trans rfl, (je_ BK146.out 5).trans rfl, (je_ BK146.out 6).trans rfl, (je_ BK146.out 7).trans rfl, (je_ BK146.out 8).trans rfl, (je_ BK146.out 9).trans rfl, (je_ BK146.out 10).trans rfl⟩ (fun hHeld => ?_); refine jw_ revetmentref08_Of.tab4 revetmentref08_Of.bits4 (fun HT_ HW_ => ?_)
     generalize w34.drew = w35 at BK146 BK147 BK151 HB hHeld ⊢
     apply pu 0 27 (bq 8 1) HT_
     apply pu 1 28 (bq 8 3) HT_
     apply tu 2 29 (bq 8 7) HT_ HW_ hHeld
     apply tu 3 30 (bq 8 15) HT_ HW_ hHeld
     refine one_ (i := 4) (N := some 31) (bq 8 31) rfl rfl (kI_ HT_.out (by kernel_rfl)) (by decide) (fun K hK => ?_)
     refine gs Try.func116 #[.agg #[.int .i64 i0, .int .i64 i1, .int .i64 i2, .int .i64 i3, .int .i64 i4, .int .i64 i5, .int .i64 i6, .int .i64 i7, .int .i64 i8, .int .i64 i9, .int .i64 ix]] ?_
     with_reducible refine (revetmentref07_Row.calls i0 i1 i2 i3 i4 i5 i6 i7 i8 i9 ix t152 _ A26.out).mono ?_
     rintro e w36 ⟨rfl, hb⟩
     refine ⟨_, rfl, ?_⟩
     replace BK146 := bkb BK146 hb
     replace BK147 := bkb BK147 hb
     replace BK151 := bkb BK151 hb
     replace HB := bst HB hb
     try clear hb; try clear hb2; try clear hk; try clear hi
     refine hK.out _ _ sc (fun hHeld => ?_)
     clear hK K
     apply nm 0
     apply pu 5 32 (bq 8 63) HT_
     apply pu 6 33 (bq 8 127) HT_
     apply pu 7 7 (bq 8 255) HT_
     refine kk_ (jF_ HT_.out (by kernel_rfl)) ?_
     try go_wp2
     go_loopg [7] kj2 (fun kq v7 w' => ∃ (x7_2 x152001_2 : Int), v7 = .int .i64 x7_2 /\ Aside0 (revetmentref08_Of.l0 kq x7_2 i0 i1 i2 i3 i4 i5 i6 i7 i8 i9 ix (wrap64 (Int.tdiv a1 t150)) x152001_2 0 0 0 = some (r1, r2, r3, r4, r5, r6)) /\ Aside0 (kq <= kj2) /\ Aside0 (w'.heap[gb146]? = some (.cells #[.int .i64 i0, .int .i64 i1, .int .i64 i2, .int .i64 i3, .int .i64 i4, .int .i64 i5, .int .i64 i6, .int .i64 i7, .int .i64 i8, .int .i64 i9, .int .i64 ix] 23 (0, 0))) /\ Aside0 (w'.heap[gb147]? = some (.cells #[.int .i64 0, .int .i64 0, .int .i64 0, .int .i64 0, .int .i64 0] 163 (0, 0))) /\ Aside0 (w'.heap[gb151]? = some (.cells #[.int .i64 (wrap64 (Int.tdiv a1 t150)), .int .i64 x152001_2, .int .i64 0, .int .i64 0, .int .i64 0] 163 (0, 0))) /\ Aside0 (Below w.heap.size w w'))
     case atStart => exact ⟨(wrap64 (a1 - (wrap64 ((wrap64 (Int.tdiv a1 t150)) * t152)))), (0), (by first | rfl | (simp; done) | (simp [*]; done)), H', ⟨Nat.le_refl _⟩, ⟨by (with_reducible repeat (first | refine jf_ ?_ _ | refine jd_ ?_ | refine ja_ ?_ _)); exact BK146.out⟩, ⟨by (with_reducible repeat (first | refine jf_ ?_ _ | refine jd_ ?_ | refine ja_ ?_ _)); exact BK147.out⟩, ⟨by (with_reducible repeat (first | refine jf_ ?_ _ | refine jd_ ?_ | refine ja_ ?_ _)); exact BK151.out⟩, ⟨bl HB⟩⟩
     case round =>
      clear H'
      try clear c1
      try clear c2
      try clear p2
      try clear c3
      try clear p6
      try clear c7
      try clear c7b0
      try clear c7b1
      try clear c8
      try clear c8b0
      try clear c9
      try clear c11
      try clear c13
      try clear c18
      try clear c21
      try clear c22
      try clear c25
      try clear c25b0
      try clear c25b1
      try clear c27
      try clear c31
      try clear c32
      (try clear hcz10_0 hcz10_1)
      (try clear hcz10_10)
      (try clear hcz10_2 hcz10_3 hcz10_4 hcz10_5 hcz10_6 hcz10_7 hcz10_8 hcz10_9)
      (try clear hcz14_0 hcz14_1)
      (try clear hcz14_10)
      (try clear hcz14_2 hcz14_3 hcz14_4 hcz14_5 hcz14_6 hcz14_7 hcz14_8 hcz14_9)
      (try clear hcz16_0 hcz16_1)
      (try clear hcz16_10)
      (try clear hcz16_2 hcz16_3 hcz16_4 hcz16_5 hcz16_6 hcz16_7 hcz16_8 hcz16_9)
      (try clear hcz19_0 hcz19_1)
      (try clear hcz19_10)
      (try clear hcz19_2 hcz19_3 hcz19_4 hcz19_5 hcz19_6 hcz19_7 hcz19_8 hcz19_9)
      (try clear hcz23_0 hcz23_1 hcz23_2 hcz23_3 hcz23_4)
      (try clear hcz28_0 hcz28_1)
      (try clear hcz28_10)
      (try clear hcz28_2 hcz28_3 hcz28_4 hcz28_5 hcz28_6 hcz28_7 hcz28_8 hcz28_9)
      (try clear hcz33_0 hcz33_1 hcz33_2 hcz33_3 hcz33_4)
      (try clear hfz10_0 hfz10_1)
      (try clear hfz10_10)
      (try clear hfz10_2 hfz10_3 hfz10_4 hfz10_5 hfz10_6 hfz10_7 hfz10_8 hfz10_9)
      (try clear hfz14_0 hfz14_1)
      (try clear hfz14_10)
      (try clear hfz14_2 hfz14_3 hfz14_4 hfz14_5 hfz14_6 hfz14_7 hfz14_8 hfz14_9)
      (try clear hfz16_0 hfz16_1)
      (try clear hfz16_10)
      (try clear hfz16_2 hfz16_3 hfz16_4 hfz16_5 hfz16_6 hfz16_7 hfz16_8 hfz16_9)
      (try clear hfz19_0 hfz19_1)
      (try clear hfz19_10)
      (try clear hfz19_2 hfz19_3 hfz19_4 hfz19_5 hfz19_6 hfz19_7 hfz19_8 hfz19_9)
      (try clear hfz23_0 hfz23_1 hfz23_2 hfz23_3 hfz23_4)
      (try clear hfz28_0 hfz28_1)
      (try clear hfz28_10)
      (try clear hfz28_2 hfz28_3 hfz28_4 hfz28_5 hfz28_6 hfz28_7 hfz28_8 hfz28_9)
      (try clear hfz33_0 hfz33_1 hfz33_2 hfz33_3 hfz33_4)
      try clear p2
      obtain ⟨x7_2, x152001_2, rfl, HA, HK2, BK146, BK147, BK151, HB⟩ := hrel
      cases gk with
      | zero => exact absurd HA.out (by simp [revetmentref08_Of.l0])
      | succ k2 =>
       have H := HA.out
       clear HA
       simp only [revetmentref08_Of.l0] at H
       by_cases c37 : x7_2 >= i2
       ·rw [if_pos c37] at H
        have c37b0 : decide (i2 <= x7_2) = true := decide_eq_true c37
        clear c37
        have H' := Aside0.mk H
        clear H
        have hnb38 := NB146_147.out
        have hnc38 := NB147_146.out
        have hnb39 := NB146_151.out
        have hnc39 := NB151_146.out
        obtain ⟨hcz40_0, hcz40_1, hcz40_2, hcz40_3, hcz40_4, hcz40_5, hcz40_6, hcz40_7, hcz40_8, hcz40_9, hcz40_10⟩ := cz11 BK146.out
        have hnb41 := NB151_147.out
        have hnc41 := NB147_151.out
        have hcz42_0 : wr.cell? ⟨gb151, 0, none⟩ = some (.int .i64 (wrap64 (Int.tdiv a1 t150))) := (je_ BK151.out 0).trans rfl
        have hcz42_1 : wr.cell? ⟨gb151, 1, none⟩ = some (.int .i64 x152001_2) := (je_ BK151.out 1).trans rfl
        have hcz42_2 : wr.cell? ⟨gb151, 2, none⟩ = some (.int .i64 0) := (je_ BK151.out 2).trans rfl
        have hcz42_3 : wr.cell? ⟨gb151, 3, none⟩ = some (.int .i64 0) := (je_ BK151.out 3).trans rfl
        have hcz42_4 : wr.cell? ⟨gb151, 4, none⟩ = some (.int .i64 0) := (je_ BK151.out 4).trans rfl
        have hfz42_0 := jh_ BK151.out 0
        have hfz42_1 := jh_ BK151.out 1
        have hfz42_2 := jh_ BK151.out 2
        have hfz42_3 := jh_ BK151.out 3
        have hfz42_4 := jh_ BK151.out 4
        go_wp2
        go_roundg k2
        case measure => have := HJ2.out; have := HK2.out; omega
        case rel => exact ⟨(wrap64 (x7_2 - i2)), (wrap64 (x152001_2 + 1)), (by first | rfl | (simp; done) | (simp [*]; done)), H', ⟨by have := HJ2.out; have := HK2.out; omega⟩, ⟨by (with_reducible repeat (first | refine jf_ ?_ _ | refine jd_ ?_ | refine ja_ ?_ _)); refine jv_ ?_ NB146_151.out _; (with_reducible repeat (first | refine jf_ ?_ _ | refine jd_ ?_ | refine ja_ ?_ _)); exact BK146.out⟩, ⟨by (with_reducible repeat (first | refine jf_ ?_ _ | refine jd_ ?_ | refine ja_ ?_ _)); refine jv_ ?_ NB147_151.out _; (with_reducible repeat (first | refine jf_ ?_ _ | refine jd_ ?_ | refine ja_ ?_ _)); exact BK147.out⟩, ⟨by (with_reducible repeat (first | refine jf_ ?_ _ | refine jd_ ?_ | refine ja_ ?_ _)); refine js_ (cs := #[.int .i64 (wrap64 (Int.tdiv a1 t150)), .int .i64 x152001_2, .int .i64 0, .int .i64 0, .int .i64 0]) ?_ 1 _ rfl; (with_reducible repeat (first | refine jf_ ?_ _ | refine jd_ ?_ | refine ja_ ?_ _)); exact BK151.out⟩, ⟨bl HB⟩⟩
       ·rw [if_neg c37] at H
        have c37b0 : decide (i2 <= x7_2) = false := decide_eq_false c37
        clear c37
        by_cases c43 : i1 = 0
        ·rw [if_pos c43] at H
         exact absurd H (by simp)
        ·rw [if_neg c43] at H
         have c43b0 : (i1 == 0) = false := beq_eq_false_iff_ne.mpr c43
         have c43b1 : (i1 != 0) = true := bne_iff_ne.mpr c43
         simp only [Option.some.injEq, Prod.mk.injEq] at H
         obtain ⟨rfl, rfl, rfl, rfl, rfl, rfl⟩ := H
         have hnb44 := NB146_147.out
         have hnc44 := NB147_146.out
         have hnb45 := NB146_151.out
         have hnc45 := NB151_146.out
         obtain ⟨hcz46_0, hcz46_1, hcz46_2, hcz46_3, hcz46_4, hcz46_5, hcz46_6, hcz46_7, hcz46_8, hcz46_9, hcz46_10⟩ := cz11 BK146.out
         have hnb47 := NB151_147.out
         have hnc47 := NB147_151.out
         have hcz48_0 : wr.cell? ⟨gb151, 0, none⟩ = some (.int .i64 (wrap64 (Int.tdiv a1 t150))) := (je_ BK151.out 0).trans rfl
         have hcz48_1 : wr.cell? ⟨gb151, 1, none⟩ = some (.int .i64 x152001_2) := (je_ BK151.out 1).trans rfl
         have hcz48_2 : wr.cell? ⟨gb151, 2, none⟩ = some (.int .i64 0) := (je_ BK151.out 2).trans rfl
         have hcz48_3 : wr.cell? ⟨gb151, 3, none⟩ = some (.int .i64 0) := (je_ BK151.out 3).trans rfl
         have hcz48_4 : wr.cell? ⟨gb151, 4, none⟩ = some (.int .i64 0) := (je_ BK151.out 4).trans rfl
         have hfz48_0 := jh_ BK151.out 0
         have hfz48_1 := jh_ BK151.out 1
         have hfz48_2 := jh_ BK151.out 2
         have hfz48_3 := jh_ BK151.out 3
         have hfz48_4 := jh_ BK151.out 4
         try go_wp2
         have n0_ : Aside0 ((wr.setCell ⟨gb151, 2, none⟩ (.int .i64 x7_2)).heap[gb146]? = some (.cells #[.int .i64 i0, .int .i64 i1, .int .i64 i2, .int .i64 i3, .int .i64 i4, .int .i64 i5, .int .i64 i6, .int .i64 i7, .int .i64 i8, .int .i64 i9, .int .i64 ix] 23 (0, 0))) := ⟨by (with_reducible repeat (first | refine jf_ ?_ _ | refine jd_ ?_ | refine ja_ ?_ _)); refine jv_ ?_ NB146_151.out _; (with_reducible repeat (first | refine jf_ ?_ _ | refine jd_ ?_ | refine ja_ ?_ _)); exact BK146.out⟩
         have n1_ : Aside0 ((wr.setCell ⟨gb151, 2, none⟩ (.int .i64 x7_2)).heap[gb147]? = some (.cells #[.int .i64 0, .int .i64 0, .int .i64 0, .int .i64 0, .int .i64 0] 163 (0, 0))) := ⟨by (with_reducible repeat (first | refine jf_ ?_ _ | refine jd_ ?_ | refine ja_ ?_ _)); refine jv_ ?_ NB147_151.out _; (with_reducible repeat (first | refine jf_ ?_ _ | refine jd_ ?_ | refine ja_ ?_ _)); exact BK147.out⟩
         have n2_ : Aside0 ((wr.setCell ⟨gb151, 2, none⟩ (.int .i64 x7_2)).heap[gb151]? = some (.cells #[.int .i64 (wrap64 (Int.tdiv a1 t150)), .int .i64 x152001_2, .int .i64 x7_2, .int .i64 0, .int .i64 0] 163 (0, 0))) := ⟨by (with_reducible repeat (first | refine jf_ ?_ _ | refine jd_ ?_ | refine ja_ ?_ _)); refine js_ (cs := #[.int .i64 (wrap64 (Int.tdiv a1 t150)), .int .i64 x152001_2, .int .i64 0, .int .i64 0, .int .i64 0]) ?_ 2 _ rfl; (with_reducible repeat (first | refine jf_ ?_ _ | refine jd_ ?_ | refine ja_ ?_ _)); exact BK151.out⟩
         have n3_ : Aside0 (Below w.heap.size w (wr.setCell ⟨gb151, 2, none⟩ (.int .i64 x7_2))) := ⟨bl HB⟩
         (try clear BK146)
         (try clear BK147)
         (try clear BK151)
         (try clear HB)
         generalize (wr.setCell ⟨gb151, 2, none⟩ (.int .i64 x7_2)) = w49 at n0_ n1_ n2_ n3_ ⊢
         have BK146 := n0_
         have BK147 := n1_
         have BK151 := n2_
         have HB := n3_
         clear n0_ n1_ n2_ n3_
         replace BK146 := Aside0.mk (jd_ BK146.out)
         replace BK147 := Aside0.mk (jd_ BK147.out)
         replace BK151 := Aside0.mk (jd_ BK151.out)
         replace HB := Aside0.mk (jC_ HB.out)
         refine jN_ (n := 14) (S := fun w' => w'.cell? ⟨gb151, 0, none⟩ = some (.int .i64 (wrap64 (Int.tdiv a1 t150))) /\ w'.cell? ⟨gb151, 1, none⟩ = some (.int .i64 x152001_2) /\ w'.cell? ⟨gb151, 2, none⟩ = some (.int .i64 x7_2) /\ w'.cell? ⟨gb151, 3, none⟩ = some (.int .i64 0) /\ w'.cell? ⟨gb151, 4, none⟩ = some (.int .i64 0) /\ w'.cell? ⟨gb146, 0, none⟩ = some (.int .i64 i0) /\ w'.cell? ⟨gb146, 1, none⟩ = some (.int .i64 i1) /\ w'.cell? ⟨gb146, 2, none⟩ = some (.int .i64 i2) /\ w'.cell? ⟨gb146, 3, none⟩ = some (.int .i64 i3) /\ w'.cell? ⟨gb146, 4, none⟩ = some (.int .i64 i4) /\ w'.cell? ⟨gb146, 5, none⟩ = some (.int .i64 i5) /\ w'.cell? ⟨gb146, 6, none⟩ = some (.int .i64 i6) /\ w'.cell? ⟨gb146, 7, none⟩ = some (.int .i64 i7) /\ w'.cell? ⟨gb146, 8, none⟩ = some (.int .i64 i8) /\ w'.cell? ⟨gb146, 9, none⟩ = some (.int .i64 i9) /\ w'.cell? ⟨gb146, 10, none⟩ = some (.int .i64 ix)) (ds := [13]) (bq 14 0) (by kernel_rfl) rfl rfl ⟨(je_ BK151.out 0).trans rfl, (je_ BK151.out 1).trans rfl, (je_ BK151.out 2).trans rfl, (je_ BK151.out 3).trans rfl, (je_ BK151.out 4).trans rfl, (je_ BK146.out 0).trans rfl, (je_ BK146.out 1).trans rfl, (je_ BK146.out 2).trans rfl, (je_ BK146.out 3).trans rfl, (je_ BK146.out 4).trans rfl, (je_ BK146.out 5).trans rfl, (je_ BK146.out 6).trans rfl, (je_ BK146.out 7).trans rfl, (je_ BK146.out 8).trans rfl, (je_ BK146.out 9).trans rfl, (je_ BK146.out 10).trans rfl⟩ (fun hHeld => ?_); refine jw_ revetmentref08_Of.tab9 revetmentref08_Of.bits9 (fun HT_ HW_ => ?_)
         generalize w49.drew = w50 at BK146 BK147 BK151 HB hHeld ⊢
         apply pu 0 48 (bq 14 1) HT_
         apply pu 2 50 (bq 14 5) HT_
         apply pu 6 54 (bq 14 69) HT_
         apply pu 9 57 (bq 14 581) HT_
         apply tu 1 49 (bq 14 583) HT_ HW_ hHeld
         apply tu 3 51 (bq 14 591) HT_ HW_ hHeld
         apply pu 4 52 (bq 14 607) HT_
         apply pu 5 53 (bq 14 639) HT_
         apply tu 7 55 (bq 14 767) HT_ HW_ hHeld
         apply pu 8 56 (bq 14 1023) HT_
         apply tu 10 58 (bq 14 2047) HT_ HW_ hHeld
         apply pu 11 59 (bq 14 4095) HT_
         apply pu 12 60 (bq 14 8191) HT_
         refine last_ (i := 13) (N := none) (bq 14 16383) rfl rfl (kI_ HT_.out (by kernel_rfl)) (by decide) (fun K hK => ?_)
         have hs51 : w50.cell? ⟨gb151, 3, none⟩ = some (.int .i64 0) := (je_ BK151.out 3).trans rfl
         have hfs51 := jh_ BK151.out 3
         have hns51_0 := NB146_151.out
         have hns51_1 := NB147_151.out
         have hms51_0 := NB151_146.out
         have hms51_1 := NB151_147.out
         refine skip_ (w1 := ?_) (by rfl) rfl ?_ ?_
         rotate_left
         ·go_simp
          rfl
         refine hK.out _ _ ?_
         clear hK K
         refine kk_ (jF_ HT_.out (by kernel_rfl)) ?_
         have hcz52_0 : w50.cell? ⟨gb151, 0, none⟩ = some (.int .i64 (wrap64 (Int.tdiv a1 t150))) := (je_ BK151.out 0).trans rfl
         have hcz52_1 : w50.cell? ⟨gb151, 1, none⟩ = some (.int .i64 x152001_2) := (je_ BK151.out 1).trans rfl
         have hcz52_2 : w50.cell? ⟨gb151, 2, none⟩ = some (.int .i64 x7_2) := (je_ BK151.out 2).trans rfl
         have hcz52_3 : w50.cell? ⟨gb151, 3, none⟩ = some (.int .i64 0) := (je_ BK151.out 3).trans rfl
         have hcz52_4 : w50.cell? ⟨gb151, 4, none⟩ = some (.int .i64 0) := (je_ BK151.out 4).trans rfl
         have hfz52_0 := jh_ BK151.out 0
         have hfz52_1 := jh_ BK151.out 1
         have hfz52_2 := jh_ BK151.out 2
         have hfz52_3 := jh_ BK151.out 3
         have hfz52_4 := jh_ BK151.out 4
         obtain ⟨hcz53_0, hcz53_1, hcz53_2, hcz53_3, hcz53_4, hcz53_5, hcz53_6, hcz53_7, hcz53_8, hcz53_9, hcz53_10⟩ := cz11 BK146.out
         obtain ⟨hcz54_0, hcz54_1, hcz54_2, hcz54_3, hcz54_4⟩ := cz5 BK147.out
         obtain ⟨hfz54_0, hfz54_1, hfz54_2, hfz54_3, hfz54_4⟩ := fz5 BK147.out
         try go_wp2
         refine bodyPost_ret (jj_ rfl _ _ gb147 163 #[.int .i64 (wrap64 (Int.tdiv a1 t150)), .int .i64 x152001_2, .int .i64 x7_2, .int .i64 (Int.tmod (wrap64 ((wrap64 ((Int.tmod (wrap64 (Int.tdiv a1 t150)) i1) + 1)) + x152001_2)) i1), .int .i64 (wrap64 ((wrap64 ((wrap64 (Int.tdiv a1 t150)) * i2)) + x7_2))] (0, 0) _ rfl (by (with_reducible repeat (first | refine jf_ ?_ _ | refine jd_ ?_ | refine ja_ ?_ _)); refine js_ (cs := #[.int .i64 (wrap64 (Int.tdiv a1 t150)), .int .i64 x152001_2, .int .i64 x7_2, .int .i64 (Int.tmod (wrap64 ((wrap64 ((Int.tmod (wrap64 (Int.tdiv a1 t150)) i1) + 1)) + x152001_2)) i1), .int .i64 0]) ?_ 4 _ rfl; (with_reducible repeat (first | refine jf_ ?_ _ | refine jd_ ?_ | refine ja_ ?_ _)); refine js_ (cs := #[.int .i64 (wrap64 (Int.tdiv a1 t150)), .int .i64 x152001_2, .int .i64 x7_2, .int .i64 0, .int .i64 0]) ?_ 3 _ rfl; (with_reducible repeat (first | refine jf_ ?_ _ | refine jd_ ?_ | refine ja_ ?_ _)); refine js_ (cs := #[.int .i64 (wrap64 (Int.tdiv a1 t150)), .int .i64 x152001_2, .int .i64 0, .int .i64 0, .int .i64 0]) ?_ 2 _ rfl; (with_reducible repeat (first | refine jf_ ?_ _ | refine jd_ ?_ | refine ja_ ?_ _)); refine js_ (cs := #[.int .i64 (wrap64 (Int.tdiv a1 t150)), .int .i64 0, .int .i64 0, .int .i64 0, .int .i64 0]) ?_ 1 _ rfl; (with_reducible repeat (first | refine jf_ ?_ _ | refine jd_ ?_ | refine ja_ ?_ _)); refine js_ (cs := #[.int .i64 0, .int .i64 0, .int .i64 0, .int .i64 0, .int .i64 0]) ?_ 0 _ rfl; (with_reducible repeat (first | refine jf_ ?_ _ | refine jd_ ?_ | refine ja_ ?_ _)); refine jv_ ?_ NB147_151.out _; (with_reducible repeat (first | refine jf_ ?_ _ | refine jd_ ?_ | refine ja_ ?_ _)); refine jv_ ?_ NB147_151.out _; (with_reducible repeat (first | refine jf_ ?_ _ | refine jd_ ?_ | refine ja_ ?_ _)); exact BK147.out) Try.underlying163 rfl (by kernel_rfl)) rfl ?_
         exact ⟨by first | rfl | (simp [jq_, jp_] <;> rfl) | (simp [*, jq_, jp_] <;> rfl), bl HB⟩
end Go.Proofs.Ytgckcaoncjhgbaa.PG
