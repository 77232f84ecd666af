/- Printed by the kit's print over stand-ins for some functions (xprint.py), with contracts of my own in their place. -/
import Derived.Test.YtgckcaoncjhgbaaFPg
set_option maxHeartbeats 8000000
set_option maxRecDepth 100000
namespace Go.Proofs.Ytgckcaoncjhgbaa.PG
open Go.RowKit Go.Proofs.YtgckcaoncjhgbaaW.PrintWords Go.Proofs.YtgckcaoncjhgbaaW.PrintLast
set_option linter.unusedVariables false
set_option linter.unusedSimpArgs false
def geom_Of.j0 : Nat -> Int -> Bool -> Int -> Int -> Int -> Int -> Int -> Int -> Int -> Int -> Int -> Int -> Int -> Option (Int × Int × Int × Int × Int × Bool)
  | 0, _, _, _, _, _, _, _, _, _, _, _, _, _ => none
  | k + 1, x1, x20, x121000, x121001, x121002, x121003, x121004, x121005, x121006, x121007, x121008, x121009, x121010 => if x20 = true then (some (0, 0, 0, 0, 0, false)) else ((conf_Row.f x121000 x121001 x121002 x121003 x121004 x121005 x121006 x121007 x121008 x121009 x121010).bind fun t124 => (if t124 = 0 then (none) else (if x121002 = 0 then (none) else ((geom_Member.f x121000 x121001 x121002 x121003 x121004 x121005 x121006 x121007 x121008 x121009 x121010 (wrap64 (Int.tdiv x1 t124)) (wrap64 (Int.tdiv (Int.tmod x1 t124) x121002))).bind fun t126 => (some (wrap64 (Int.tdiv x1 t124), wrap64 (Int.tdiv (Int.tmod x1 t124) x121002), Int.tmod x1 x121002, t126, wrap64 ((wrap64 ((wrap64 (Int.tdiv x1 t124)) * x121002)) + (Int.tmod x1 x121002)), true))))))
def geom_Of.f (k : Nat) (i0 i1 i2 i3 i4 i5 i6 i7 i8 i9 ix a1 : Int) : Option (Int × Int × Int × Int × Int × Bool) := (geom_right.f i0 i1 i2 i3 i4 i5 i6 i7 i8 i9 ix 0 0 0).bind fun t122 => (if t122 = true then (if a1 < 0 then (geom_Of.j0 k a1 true i0 i1 i2 i3 i4 i5 i6 i7 i8 i9 ix) else ((conf_Size.f i0 i1 i2 i3 i4 i5 i6 i7 i8 i9 ix).bind fun t123 => (geom_Of.j0 k a1 (decide (a1 >= t123)) i0 i1 i2 i3 i4 i5 i6 i7 i8 i9 ix))) else (geom_Of.j0 k a1 true i0 i1 i2 i3 i4 i5 i6 i7 i8 i9 ix))
def geom_Of.T4 : Bool × List (List Nat × List Nat) := (true, [([], []), ([], []), ([0, 1], [0, 1]), ([], []), ([], []), ([3, 4], [3, 4]), ([], []), ([6], [6]), ([5, 7], [5, 7]), ([], []), ([], []), ([10], [10]), ([9, 11], [9, 11]), ([2, 8, 12], [2, 8, 12]), ([], []), ([14, 13, 0, 1, 2, 3, 4, 5, 6, 7, 8, 9, 10, 11, 12, 13, 14], [13, 14])])
def geom_Of.B4 : List Nat := [0, 0, 3, 0, 0, 24, 0, 64, 248, 0, 0, 1024, 3584, 8191, 0, 32767]
theorem geom_Of.tab4 : rtab .any (kT_ Try.f123 4) = geom_Of.T4 := by kernel_rfl
theorem geom_Of.bits4 : jO_ geom_Of.T4.2 geom_Of.B4 = true := by kernel_rfl
theorem geom_Of.calls (k : Nat) (i0 i1 i2 i3 i4 i5 i6 i7 i8 i9 ix a1 r1 r2 r3 r4 r5 : Int) (r6 : Bool) (w : World) (h : geom_Of.f k i0 i1 i2 i3 i4 i5 i6 i7 i8 i9 ix a1 = some (r1, r2, r3, r4, r5, r6)) :
  Calls Try.prog 123 #[.agg #[.int .i64 i0, .int .i64 i1, .int .i64 i2, .int .i64 i3, .int .i64 i4, .int .i64 i5, .int .i64 i6, .int .i64 i7, .int .i64 i8, .int .i64 i9, .int .i64 ix], .int .i64 a1] w fun e w' => e = .returned (.tuple #[.agg #[.int .i64 r1, .int .i64 r2, .int .i64 r3, .int .i64 r4, .int .i64 r5], .bool r6]) /\ Below w.heap.size w w' := by
 have hu23 := Try.underlying23
 have hu163 := Try.underlying163
 have HB := Aside0.mk (Below.refl w.heap.size w)
 have H : ((geom_right.f i0 i1 i2 i3 i4 i5 i6 i7 i8 i9 ix 0 0 0).bind fun t122 => (if t122 = true then (if a1 < 0 then (geom_Of.j0 k a1 true i0 i1 i2 i3 i4 i5 i6 i7 i8 i9 ix) else ((conf_Size.f i0 i1 i2 i3 i4 i5 i6 i7 i8 i9 ix).bind fun t123 => (geom_Of.j0 k a1 (decide (a1 >= t123)) i0 i1 i2 i3 i4 i5 i6 i7 i8 i9 ix))) else (geom_Of.j0 k a1 true i0 i1 i2 i3 i4 i5 i6 i7 i8 i9 ix))) = some (r1, r2, r3, r4, r5, r6) := h
 clear h
 have HC3 := Aside0.mk H
 clear H
 go_enter Try.func123, Try.ntmps123
 go_upto_region 1 with (first | ((with_reducible refine jD_ (N := 2) rfl ?_); refine jB_ ?hg (N := 2) ?hd (cs := #[.int .i64 i0, .int .i64 i1, .int .i64 i2, .int .i64 i3, .int .i64 i4, .int .i64 i5, .int .i64 i6, .int .i64 i7, .int .i64 i8, .int .i64 i9, .int .i64 ix]) (t := 23) ?hr ?_; (case hd => rfl); (case hg => rfl); (case hr => first | (go_simp; done) | (go_simp; rfl)); intro gb120 hg w4 hbox hb; have BK120 := Aside0.mk (hbox); have GW120 := Aside0.mk ((by rw [hg]; exact (ji_ (bl HB)) : w.heap.size <= gb120)); have GE120 := Aside0.mk ((by rw [hg]; exact (ji_ (bl HB)) : w.heap.size <= gb120)); replace HB := bst HB hb; clear hb hbox hg) | ((with_reducible refine jD_ (N := 4) rfl ?_); refine jB_ ?hg (N := 4) ?hd (cs := #[.int .i64 0, .int .i64 0, .int .i64 0, .int .i64 0, .int .i64 0]) (t := 163) ?hr ?_; (case hd => rfl); (case hg => rfl); (case hr => first | (go_simp; done) | (go_simp; rfl)); intro gb121 hg w5 hbox hb; have BK121 := Aside0.mk (hbox); have GW121 := Aside0.mk ((by rw [hg]; exact (ji_ (bl HB)) : w.heap.size <= gb121)); have GE121 := Aside0.mk ((by rw [hg]; exact (ji_ (bl HB)) : w.heap.size <= gb121)); have NB120_121 := Aside0.mk ((by rw [hg]; exact Nat.ne_of_lt (jX_ (g := gb120) (o := .cells #[.int .i64 i0, .int .i64 i1, .int .i64 i2, .int .i64 i3, .int .i64 i4, .int .i64 i5, .int .i64 i6, .int .i64 i7, .int .i64 i8, .int .i64 i9, .int .i64 ix] 23 (0, 0)) (by (with_reducible repeat (first | refine jf_ ?_ _ | refine jd_ ?_ | refine ja_ ?_ _)); exact BK120.out)) : gb120 ≠ gb121)); have NB121_120 := Aside0.mk ((by rw [hg]; exact Nat.ne_of_gt (jX_ (g := gb120) (o := .cells #[.int .i64 i0, .int .i64 i1, .int .i64 i2, .int .i64 i3, .int .i64 i4, .int .i64 i5, .int .i64 i6, .int .i64 i7, .int .i64 i8, .int .i64 i9, .int .i64 ix] 23 (0, 0)) (by (with_reducible repeat (first | refine jf_ ?_ _ | refine jd_ ?_ | refine ja_ ?_ _)); exact BK120.out)) : gb121 ≠ gb120)); replace BK120 := bkb BK120 hb; replace HB := bst HB hb; clear hb hbox hg))
 (try simp only [Act.put, List.setIfInBounds_toArray, List.set_cons_zero, List.set_cons_succ])
 go_cut [20] (fun v20 wc => ∃ (kq : Nat) (x20_2 : Bool), v20 = .bool x20_2 /\ Aside0 (geom_Of.j0 kq a1 x20_2 i0 i1 i2 i3 i4 i5 i6 i7 i8 i9 ix = some (r1, r2, r3, r4, r5, r6)) /\ Aside0 (kq <= k) /\ Aside0 (wc.heap[gb120]? = some (.cells #[.int .i64 i0, .int .i64 i1, .int .i64 i2, .int .i64 i3, .int .i64 i4, .int .i64 i5, .int .i64 i6, .int .i64 i7, .int .i64 i8, .int .i64 i9, .int .i64 ix] 23 (0, 0))) /\ Aside0 (wc.heap[gb121]? = some (.cells #[.int .i64 0, .int .i64 0, .int .i64 0, .int .i64 0, .int .i64 0] 163 (0, 0))) /\ Aside0 (Below w.heap.size w wc))
 case first =>
  have H := HC3.out
  clear HC3
  replace H := Option.bind_eq_some_iff.mp H
  obtain ⟨t122, A60, H⟩ := H
  replace H : (if t122 = true then (if a1 < 0 then (geom_Of.j0 k a1 true i0 i1 i2 i3 i4 i5 i6 i7 i8 i9 ix) else ((conf_Size.f i0 i1 i2 i3 i4 i5 i6 i7 i8 i9 ix).bind fun t123 => (geom_Of.j0 k a1 (decide (a1 >= t123)) i0 i1 i2 i3 i4 i5 i6 i7 i8 i9 ix))) else (geom_Of.j0 k a1 true i0 i1 i2 i3 i4 i5 i6 i7 i8 i9 ix)) = some (r1, r2, r3, r4, r5, r6) := H
  have A6 := Aside0.mk A60
  clear A60
  by_cases c7 : t122 = true
  ·subst c7
   have H1 : (if a1 < 0 then (geom_Of.j0 k a1 true i0 i1 i2 i3 i4 i5 i6 i7 i8 i9 ix) else ((conf_Size.f i0 i1 i2 i3 i4 i5 i6 i7 i8 i9 ix).bind fun t123 => (geom_Of.j0 k a1 (decide (a1 >= t123)) i0 i1 i2 i3 i4 i5 i6 i7 i8 i9 ix))) = some (r1, r2, r3, r4, r5, r6) := by rw [if_pos rfl] at H; exact H
   clear H
   have H := H1
   clear H1
   by_cases c8 : a1 < 0
   ·rw [if_pos c8] at H
    have c8b0 : decide (a1 < 0) = true := decide_eq_true c8
    clear c8
    (first | rw [c8b0] | (simp only [kq_, i32_w]; rw [c8b0]) | skip)
    have H' := Aside0.mk H
    clear H
    have hnb9 := NB120_121.out
    have hnc9 := NB121_120.out
    obtain ⟨hcz10_0, hcz10_1, hcz10_2, hcz10_3, hcz10_4, hcz10_5, hcz10_6, hcz10_7, hcz10_8, hcz10_9, hcz10_10⟩ := cz11 BK120.out
    go_wp2_with (first | ((with_reducible refine jy_ (f := 127) rfl ?_); refine kh_ (some 9) rfl rfl Try.func127 (by kernel_rfl) rfl #[.agg #[.int .i64 i0, .int .i64 i1, .int .i64 i2, .int .i64 i3, .int .i64 i4, .int .i64 i5, .int .i64 i6, .int .i64 i7, .int .i64 i8, .int .i64 i9, .int .i64 ix], .int .i64 0, .int .i64 0, .int .i64 0] rfl (by (try simp only [List.map_toArray, List.map_cons, List.map_nil]); first | done | rfl | (simp only [List.length_drop, List.length_take]; rfl)) ?_; (with_reducible refine (geom_right.calls i0 i1 i2 i3 i4 i5 i6 i7 i8 i9 ix 0 0 0 true _ A6.out).mono ?_); rintro e w11 ⟨rfl, hb⟩; refine ⟨_, rfl, ?_⟩; replace BK120 := bkb BK120 hb; replace BK121 := bkb BK121 hb; replace HB := bst HB hb; (try clear hb); (try clear hb2); (try clear hk); (try clear hi)))
    go_meet
    case rel => exact ⟨_, (true), (by first | rfl | (simp; done) | (simp [*]; done)), H', ⟨by first | omega | exact Nat.le_refl _⟩, ⟨by (with_reducible repeat (first | refine jf_ ?_ _ | refine jd_ ?_ | refine ja_ ?_ _)); exact BK120.out⟩, ⟨by (with_reducible repeat (first | refine jf_ ?_ _ | refine jd_ ?_ | refine ja_ ?_ _)); exact BK121.out⟩, ⟨bl HB⟩⟩
   ·rw [if_neg c8] at H
    have c8b0 : decide (a1 < 0) = false := decide_eq_false c8
    clear c8
    (first | rw [c8b0] | (simp only [kq_, i32_w]; rw [c8b0]) | skip)
    replace H := Option.bind_eq_some_iff.mp H
    obtain ⟨t123, A120, H⟩ := H
    replace H : (geom_Of.j0 k a1 (decide (a1 >= t123)) i0 i1 i2 i3 i4 i5 i6 i7 i8 i9 ix) = some (r1, r2, r3, r4, r5, r6) := H
    have A12 := Aside0.mk A120
    clear A120
    have H' := Aside0.mk H
    clear H
    have hnb13 := NB120_121.out
    have hnc13 := NB121_120.out
    obtain ⟨hcz14_0, hcz14_1, hcz14_2, hcz14_3, hcz14_4, hcz14_5, hcz14_6, hcz14_7, hcz14_8, hcz14_9, hcz14_10⟩ := cz11 BK120.out
    go_wp2_with (first | ((with_reducible refine jy_ (f := 127) rfl ?_); refine kh_ (some 9) rfl rfl Try.func127 (by kernel_rfl) rfl #[.agg #[.int .i64 i0, .int .i64 i1, .int .i64 i2, .int .i64 i3, .int .i64 i4, .int .i64 i5, .int .i64 i6, .int .i64 i7, .int .i64 i8, .int .i64 i9, .int .i64 ix], .int .i64 0, .int .i64 0, .int .i64 0] rfl (by (try simp only [List.map_toArray, List.map_cons, List.map_nil]); first | done | rfl | (simp only [List.length_drop, List.length_take]; rfl)) ?_; (with_reducible refine (geom_right.calls i0 i1 i2 i3 i4 i5 i6 i7 i8 i9 ix 0 0 0 true _ A6.out).mono ?_); rintro e w15 ⟨rfl, hb⟩; refine ⟨_, rfl, ?_⟩; replace BK120 := bkb BK120 hb; replace BK121 := bkb BK121 hb; replace HB := bst HB hb; (try clear hb); (try clear hb2); (try clear hk); (try clear hi); obtain ⟨hcz16_0, hcz16_1, hcz16_2, hcz16_3, hcz16_4, hcz16_5, hcz16_6, hcz16_7, hcz16_8, hcz16_9, hcz16_10⟩ := cz11 BK120.out) | (go_at_call 68; (with_reducible refine (conf_Size.calls i0 i1 i2 i3 i4 i5 i6 i7 i8 i9 ix t123 _ A12.out).mono ?_); rintro e w17 ⟨rfl, hb⟩; replace BK120 := bkb BK120 hb; replace BK121 := bkb BK121 hb; replace HB := bst HB hb; (try clear hb); (try clear hb2); (try clear hk); (try clear hi)))
    go_meet
    case rel => exact ⟨_, (decide (a1 >= t123)), (by first | rfl | (simp; done) | (simp [*]; done)), H', ⟨by first | omega | exact Nat.le_refl _⟩, ⟨by (with_reducible repeat (first | refine jf_ ?_ _ | refine jd_ ?_ | refine ja_ ?_ _)); exact BK120.out⟩, ⟨by (with_reducible repeat (first | refine jf_ ?_ _ | refine jd_ ?_ | refine ja_ ?_ _)); exact BK121.out⟩, ⟨bl HB⟩⟩
  ·replace c7 := Bool.eq_false_iff.mpr c7
   subst c7
   have H1 : (geom_Of.j0 k a1 true i0 i1 i2 i3 i4 i5 i6 i7 i8 i9 ix) = some (r1, r2, r3, r4, r5, r6) := by rw [if_neg (show ¬ (false = true) by decide)] at H; exact H
   clear H
   have H := H1
   clear H1
   have H' := Aside0.mk H
   clear H
   have hnb18 := NB120_121.out
   have hnc18 := NB121_120.out
   obtain ⟨hcz19_0, hcz19_1, hcz19_2, hcz19_3, hcz19_4, hcz19_5, hcz19_6, hcz19_7, hcz19_8, hcz19_9, hcz19_10⟩ := cz11 BK120.out
   go_wp2_with (first | ((with_reducible refine jy_ (f := 127) rfl ?_); refine kh_ (some 9) rfl rfl Try.func127 (by kernel_rfl) rfl #[.agg #[.int .i64 i0, .int .i64 i1, .int .i64 i2, .int .i64 i3, .int .i64 i4, .int .i64 i5, .int .i64 i6, .int .i64 i7, .int .i64 i8, .int .i64 i9, .int .i64 ix], .int .i64 0, .int .i64 0, .int .i64 0] rfl (by (try simp only [List.map_toArray, List.map_cons, List.map_nil]); first | done | rfl | (simp only [List.length_drop, List.length_take]; rfl)) ?_; (with_reducible refine (geom_right.calls i0 i1 i2 i3 i4 i5 i6 i7 i8 i9 ix 0 0 0 false _ A6.out).mono ?_); rintro e w20 ⟨rfl, hb⟩; refine ⟨_, rfl, ?_⟩; replace BK120 := bkb BK120 hb; replace BK121 := bkb BK121 hb; replace HB := bst HB hb; (try clear hb); (try clear hb2); (try clear hk); (try clear hi)))
   go_meet
   case rel => exact ⟨_, (true), (by first | rfl | (simp; done) | (simp [*]; done)), H', ⟨by first | omega | exact Nat.le_refl _⟩, ⟨by (with_reducible repeat (first | refine jf_ ?_ _ | refine jd_ ?_ | refine ja_ ?_ _)); exact BK120.out⟩, ⟨by (with_reducible repeat (first | refine jf_ ?_ _ | refine jd_ ?_ | refine ja_ ?_ _)); exact BK121.out⟩, ⟨bl HB⟩⟩
 case rest =>
  clear HC3
  try clear c1
  try clear p2
  try clear c7
  try clear c8
  try clear c8b0
  try clear c9
  try clear c12
  try clear c13
  try clear c18
  (try clear hcz10_0 hcz10_1)
  (try clear hcz10_10)
  (try clear hcz10_2 hcz10_3 hcz10_4 hcz10_5 hcz10_6 hcz10_7 hcz10_8 hcz10_9)
  (try clear hcz14_0 hcz14_1)
  (try clear hcz14_10)
  (try clear hcz14_2 hcz14_3 hcz14_4 hcz14_5 hcz14_6 hcz14_7 hcz14_8 hcz14_9)
  (try clear hcz16_0 hcz16_1)
  (try clear hcz16_10)
  (try clear hcz16_2 hcz16_3 hcz16_4 hcz16_5 hcz16_6 hcz16_7 hcz16_8 hcz16_9)
  (try clear hcz19_0 hcz19_1)
  (try clear hcz19_10)
  (try clear hcz19_2 hcz19_3 hcz19_4 hcz19_5 hcz19_6 hcz19_7 hcz19_8 hcz19_9)
  (try clear hfz10_0 hfz10_1)
  (try clear hfz10_10)
  (try clear hfz10_2 hfz10_3 hfz10_4 hfz10_5 hfz10_6 hfz10_7 hfz10_8 hfz10_9)
  (try clear hfz14_0 hfz14_1)
  (try clear hfz14_10)
  (try clear hfz14_2 hfz14_3 hfz14_4 hfz14_5 hfz14_6 hfz14_7 hfz14_8 hfz14_9)
  (try clear hfz16_0 hfz16_1)
  (try clear hfz16_10)
  (try clear hfz16_2 hfz16_3 hfz16_4 hfz16_5 hfz16_6 hfz16_7 hfz16_8 hfz16_9)
  (try clear hfz19_0 hfz19_1)
  (try clear hfz19_10)
  (try clear hfz19_2 hfz19_3 hfz19_4 hfz19_5 hfz19_6 hfz19_7 hfz19_8 hfz19_9)
  obtain ⟨kq, x20_2, rfl, HA, HJ2, BK120, BK121, HB⟩ := hcut
  cases kq with
  | zero => exact absurd HA.out (by simp [geom_Of.j0])
  | succ kj2 =>
   have H := HA.out
   clear HA
   simp only [geom_Of.j0] at H
   by_cases c21 : x20_2 = true
   ·subst c21
    have H1 : (some (0, 0, 0, 0, 0, false)) = some (r1, r2, r3, r4, r5, r6) := by rw [if_pos rfl] at H; exact H
    clear H
    have H := H1
    clear H1
    simp only [Option.some.injEq, Prod.mk.injEq] at H
    obtain ⟨rfl, rfl, rfl, rfl, rfl, rfl⟩ := H
    have hnb22 := NB121_120.out
    have hnc22 := NB120_121.out
    obtain ⟨hcz23_0, hcz23_1, hcz23_2, hcz23_3, hcz23_4⟩ := cz5 BK121.out
    obtain ⟨hfz23_0, hfz23_1, hfz23_2, hfz23_3, hfz23_4⟩ := fz5 BK121.out
    go_wp2
    refine bodyPost_ret (jj_ rfl _ _ gb121 163 #[.int .i64 0, .int .i64 0, .int .i64 0, .int .i64 0, .int .i64 0] (0, 0) _ rfl (by (with_reducible repeat (first | refine jf_ ?_ _ | refine jd_ ?_ | refine ja_ ?_ _)); refine js_ (cs := #[.int .i64 0, .int .i64 0, .int .i64 0, .int .i64 0, .int .i64 0]) ?_ 4 _ rfl; (with_reducible repeat (first | refine jf_ ?_ _ | refine jd_ ?_ | refine ja_ ?_ _)); refine js_ (cs := #[.int .i64 0, .int .i64 0, .int .i64 0, .int .i64 0, .int .i64 0]) ?_ 3 _ rfl; (with_reducible repeat (first | refine jf_ ?_ _ | refine jd_ ?_ | refine ja_ ?_ _)); refine js_ (cs := #[.int .i64 0, .int .i64 0, .int .i64 0, .int .i64 0, .int .i64 0]) ?_ 2 _ rfl; (with_reducible repeat (first | refine jf_ ?_ _ | refine jd_ ?_ | refine ja_ ?_ _)); refine js_ (cs := #[.int .i64 0, .int .i64 0, .int .i64 0, .int .i64 0, .int .i64 0]) ?_ 1 _ rfl; (with_reducible repeat (first | refine jf_ ?_ _ | refine jd_ ?_ | refine ja_ ?_ _)); refine js_ (cs := #[.int .i64 0, .int .i64 0, .int .i64 0, .int .i64 0, .int .i64 0]) ?_ 0 _ rfl; (with_reducible repeat (first | refine jf_ ?_ _ | refine jd_ ?_ | refine ja_ ?_ _)); exact BK121.out) Try.underlying163 rfl (by kernel_rfl)) rfl ?_
    exact ⟨by first | rfl | (simp [jq_, jp_] <;> rfl) | (simp [*, jq_, jp_] <;> rfl), bl HB⟩
   ·replace c21 := Bool.eq_false_iff.mpr c21
    subst c21
    have H1 : ((conf_Row.f i0 i1 i2 i3 i4 i5 i6 i7 i8 i9 ix).bind fun t124 => (if t124 = 0 then (none) else (if i2 = 0 then (none) else ((geom_Member.f i0 i1 i2 i3 i4 i5 i6 i7 i8 i9 ix (wrap64 (Int.tdiv a1 t124)) (wrap64 (Int.tdiv (Int.tmod a1 t124) i2))).bind fun t126 => (some (wrap64 (Int.tdiv a1 t124), wrap64 (Int.tdiv (Int.tmod a1 t124) i2), Int.tmod a1 i2, t126, wrap64 ((wrap64 ((wrap64 (Int.tdiv a1 t124)) * i2)) + (Int.tmod a1 i2)), true)))))) = some (r1, r2, r3, r4, r5, r6) := by rw [if_neg (show ¬ (false = true) by decide)] at H; exact H
    clear H
    have H := H1
    clear H1
    replace H := Option.bind_eq_some_iff.mp H
    obtain ⟨t124, A240, H⟩ := H
    replace H : (if t124 = 0 then (none) else (if i2 = 0 then (none) else ((geom_Member.f i0 i1 i2 i3 i4 i5 i6 i7 i8 i9 ix (wrap64 (Int.tdiv a1 t124)) (wrap64 (Int.tdiv (Int.tmod a1 t124) i2))).bind fun t126 => (some (wrap64 (Int.tdiv a1 t124), wrap64 (Int.tdiv (Int.tmod a1 t124) i2), Int.tmod a1 i2, t126, wrap64 ((wrap64 ((wrap64 (Int.tdiv a1 t124)) * i2)) + (Int.tmod a1 i2)), true))))) = some (r1, r2, r3, r4, r5, r6) := H
    have A24 := Aside0.mk A240
    clear A240
    by_cases c25 : t124 = 0
    ·rw [if_pos c25] at H
     exact absurd H (by simp)
    ·rw [if_neg c25] at H
     have c25b0 : (t124 == 0) = false := beq_eq_false_iff_ne.mpr c25
     have c25b1 : (t124 != 0) = true := bne_iff_ne.mpr c25
     by_cases c26 : i2 = 0
     ·rw [if_pos c26] at H
      exact absurd H (by simp)
     ·rw [if_neg c26] at H
      have c26b0 : (i2 == 0) = false := beq_eq_false_iff_ne.mpr c26
      have c26b1 : (i2 != 0) = true := bne_iff_ne.mpr c26
      replace H := Option.bind_eq_some_iff.mp H
      obtain ⟨t126, A270, H⟩ := H
      replace H : (some (wrap64 (Int.tdiv a1 t124), wrap64 (Int.tdiv (Int.tmod a1 t124) i2), Int.tmod a1 i2, t126, wrap64 ((wrap64 ((wrap64 (Int.tdiv a1 t124)) * i2)) + (Int.tmod a1 i2)), true)) = some (r1, r2, r3, r4, r5, r6) := H
      have A27 := Aside0.mk A270
      clear A270
      simp only [Option.some.injEq, Prod.mk.injEq] at H
      obtain ⟨rfl, rfl, rfl, rfl, rfl, rfl⟩ := H
      have hnb28 := NB120_121.out
      have hnc28 := NB121_120.out
      obtain ⟨hcz29_0, hcz29_1, hcz29_2, hcz29_3, hcz29_4, hcz29_5, hcz29_6, hcz29_7, hcz29_8, hcz29_9, hcz29_10⟩ := cz11 BK120.out
      try go_wp2_with (first | ((with_reducible refine jy_ (f := 107) rfl ?_); refine kh_ (some 23) rfl rfl Try.func107 (by kernel_rfl) rfl #[.agg #[.int .i64 i0, .int .i64 i1, .int .i64 i2, .int .i64 i3, .int .i64 i4, .int .i64 i5, .int .i64 i6, .int .i64 i7, .int .i64 i8, .int .i64 i9, .int .i64 ix]] rfl (by (try simp only [List.map_toArray, List.map_cons, List.map_nil]); first | done | rfl | (simp only [List.length_drop, List.length_take]; rfl)) ?_; (with_reducible refine (conf_Row.calls i0 i1 i2 i3 i4 i5 i6 i7 i8 i9 ix t124 _ A24.out).mono ?_); rintro e w30 ⟨rfl, hb⟩; refine ⟨_, rfl, ?_⟩; replace BK120 := bkb BK120 hb; replace BK121 := bkb BK121 hb; replace HB := bst HB hb; (try clear hb); (try clear hb2); (try clear hk); (try clear hi)))
      replace BK120 := Aside0.mk (jd_ BK120.out)
      replace BK121 := Aside0.mk (jd_ BK121.out)
      replace HB := Aside0.mk (jC_ HB.out)
      refine jN_ (n := 16) (S := fun w' => w'.cell? ⟨gb120, 0, none⟩ = some (.int .i64 i0) /\ w'.cell? ⟨gb120, 1, none⟩ = some (.int .i64 i1) /\ w'.cell? ⟨gb120, 2, none⟩ = some (.int .i64 i2) /\ w'.cell? ⟨gb120, 3, none⟩ = some (.int .i64 i3) /\ w'.cell? ⟨gb120, 4, none⟩ = some (.int .i64 i4) /\ w'.cell? ⟨gb120, 5, none⟩ = some (.int .i64 i5) /\ w'.cell? ⟨gb120, 6, none⟩ = some (.int .i64 i6) /\ w'.cell? ⟨gb120, 7, none⟩ = some (.int .i64 i7) /\ w'.cell? ⟨gb120, 8, none⟩ = some (.int .i64 i8) /\ w'.cell? ⟨gb120, 9, none⟩ = some (.int .i64 i9) /\ w'.cell? ⟨gb120, 10, none⟩ = some (.int .i64 ix)) (ds := []) (bq 16 0) (by kernel_rfl) rfl rfl (cz11 BK120.out) (fun hHeld => ?_); refine jw_ geom_Of.tab4 geom_Of.bits4 (fun HT_ HW_ => ?_)
      generalize w30.drew = w31 at BK120 BK121 HB hHeld ⊢
      apply pu 0 24 (bq 16 1) HT_
      apply pu 1 25 (bq 16 3) HT_
      apply pu 2 26 (bq 16 7) HT_
      apply pu 3 27 (bq 16 15) HT_
      apply pu 4 28 (bq 16 31) HT_
      apply pu 5 29 (bq 16 63) HT_
      apply pu 6 30 (bq 16 127) HT_
      apply pu 9 33 (bq 16 639) HT_
      apply pu 10 34 (bq 16 1663) HT_
      apply tu 7 31 (bq 16 1791) HT_ HW_ hHeld
      apply pu 8 32 (bq 16 2047) HT_
      apply tu 11 35 (bq 16 4095) HT_ HW_ hHeld
      apply pu 12 36 (bq 16 8191) HT_
      apply pu 13 37 (bq 16 16383) HT_
      refine one_ (i := 14) (N := some 7) (bq 16 32767) rfl rfl (kI_ HT_.out (by kernel_rfl)) (by decide) (fun K hK => ?_)
      refine box_step ?hg (N := 7) ?hd (cs := #[.int .i64 0, .int .i64 0, .int .i64 0, .int .i64 0, .int .i64 0]) (t := 163) ?hr ?_; (case hd => rfl); (case hg => rfl); (case hr => first | (go_simp; done) | (go_simp; rfl))
      intro gb125 hg w32 hbox hb
      have n0_ := bkb BK120 hb
      have n1_ := bkb BK121 hb
      have n2_ := bst HB hb
      have n3_ := Aside0.mk (hbox)
      have n4_ := Aside0.mk ((by rw [hg]; exact (ji_ (bl HB)) : w.heap.size <= gb125))
      have n5_ := Aside0.mk ((by rw [hg]; exact (ji_ (bl HB)) : w.heap.size <= gb125))
      have n6_ := Aside0.mk ((by rw [hg]; exact Nat.ne_of_lt (jX_ (g := gb120) (o := .cells #[.int .i64 i0, .int .i64 i1, .int .i64 i2, .int .i64 i3, .int .i64 i4, .int .i64 i5, .int .i64 i6, .int .i64 i7, .int .i64 i8, .int .i64 i9, .int .i64 ix] 23 (0, 0)) (by (with_reducible repeat (first | refine jf_ ?_ _ | refine jd_ ?_ | refine ja_ ?_ _)); exact BK120.out)) : gb120 ≠ gb125))
      have n7_ := Aside0.mk ((by rw [hg]; exact Nat.ne_of_gt (jX_ (g := gb120) (o := .cells #[.int .i64 i0, .int .i64 i1, .int .i64 i2, .int .i64 i3, .int .i64 i4, .int .i64 i5, .int .i64 i6, .int .i64 i7, .int .i64 i8, .int .i64 i9, .int .i64 ix] 23 (0, 0)) (by (with_reducible repeat (first | refine jf_ ?_ _ | refine jd_ ?_ | refine ja_ ?_ _)); exact BK120.out)) : gb125 ≠ gb120))
      have n8_ := Aside0.mk ((by rw [hg]; exact Nat.ne_of_lt (jX_ (g := gb121) (o := .cells #[.int .i64 0, .int .i64 0, .int .i64 0, .int .i64 0, .int .i64 0] 163 (0, 0)) (by (with_reducible repeat (first | refine jf_ ?_ _ | refine jd_ ?_ | refine ja_ ?_ _)); exact BK121.out)) : gb121 ≠ gb125))
      have n9_ := Aside0.mk ((by rw [hg]; exact Nat.ne_of_gt (jX_ (g := gb121) (o := .cells #[.int .i64 0, .int .i64 0, .int .i64 0, .int .i64 0, .int .i64 0] 163 (0, 0)) (by (with_reducible repeat (first | refine jf_ ?_ _ | refine jd_ ?_ | refine ja_ ?_ _)); exact BK121.out)) : gb125 ≠ gb121))
      clear BK120
      clear BK121
      clear HB
      have BK120 := n0_
      have BK121 := n1_
      have HB := n2_
      have BK125 := n3_
      have GW125 := n4_
      have GE125 := n5_
      have NB120_125 := n6_
      have NB125_120 := n7_
      have NB121_125 := n8_
      have NB125_121 := n9_
      clear n0_ n1_ n2_ n3_ n4_ n5_ n6_ n7_ n8_ n9_
      clear hb hbox hg
      refine hK.out _ _ sc (fun hHeld => ?_)
      clear hK K
      apply nm 0
      refine one_ (i := 15) (N := none) (bq 16 65535) rfl rfl (kI_ HT_.out (by kernel_rfl)) (by decide) (fun K hK => ?_)
      have hs33 : w32.cell? ⟨gb125, 0, none⟩ = some (.int .i64 0) := (je_ BK125.out 0).trans rfl
      have hfs33 := jh_ BK125.out 0
      have hns33_0 := NB120_125.out
      have hns33_1 := NB121_125.out
      have hms33_0 := NB125_120.out
      have hms33_1 := NB125_121.out
      have hs34 : w32.cell? ⟨gb125, 1, none⟩ = some (.int .i64 0) := (je_ BK125.out 1).trans rfl
      have hfs34 := jh_ BK125.out 1
      have hns34_0 := NB120_125.out
      have hns34_1 := NB121_125.out
      have hms34_0 := NB125_120.out
      have hms34_1 := NB125_121.out
      have hs35 : w32.cell? ⟨gb125, 2, none⟩ = some (.int .i64 0) := (je_ BK125.out 2).trans rfl
      have hfs35 := jh_ BK125.out 2
      have hns35_0 := NB120_125.out
      have hns35_1 := NB121_125.out
      have hms35_0 := NB125_120.out
      have hms35_1 := NB125_121.out
      have hs36 : w32.cell? ⟨gb125, 3, none⟩ = some (.int .i64 0) := (je_ BK125.out 3).trans rfl
      have hfs36 := jh_ BK125.out 3
      have hns36_0 := NB120_125.out
      have hns36_1 := NB121_125.out
      have hms36_0 := NB125_120.out
      have hms36_1 := NB125_121.out
      have hs37 : w32.cell? ⟨gb125, 4, none⟩ = some (.int .i64 0) := (je_ BK125.out 4).trans rfl
      have hfs37 := jh_ BK125.out 4
      have hns37_0 := NB120_125.out
      have hns37_1 := NB121_125.out
      have hms37_0 := NB125_120.out
      have hms37_1 := NB125_121.out
      refine skip_ (w1 := ?_) (by rfl) rfl ?_ ?_
      rotate_left
      ·go_simp
       rfl
      refine hK.out _ _ ⟨((jA_ (p := ⟨gb125, _, none⟩) NB120_125.out _).trans (((jA_ (p := ⟨gb125, _, none⟩) NB120_125.out _).trans (((jA_ (p := ⟨gb125, _, none⟩) NB120_125.out _).trans (((jA_ (p := ⟨gb125, _, none⟩) NB120_125.out _).trans (((jA_ (p := ⟨gb125, _, none⟩) NB120_125.out _).trans (hHeld.1)))))))))), ((jA_ (p := ⟨gb125, _, none⟩) NB120_125.out _).trans (((jA_ (p := ⟨gb125, _, none⟩) NB120_125.out _).trans (((jA_ (p := ⟨gb125, _, none⟩) NB120_125.out _).trans (((jA_ (p := ⟨gb125, _, none⟩) NB120_125.out _).trans (((jA_ (p := ⟨gb125, _, none⟩) NB120_125.out _).trans (hHeld.2.1)))))))))), ((jA_ (p := ⟨gb125, _, none⟩) NB120_125.out _).trans (((jA_ (p := ⟨gb125, _, none⟩) NB120_125.out _).trans (((jA_ (p := ⟨gb125, _, none⟩) NB120_125.out _).trans (((jA_ (p := ⟨gb125, _, none⟩) NB120_125.out _).trans (((jA_ (p := ⟨gb125, _, none⟩) NB120_125.out _).trans (hHeld.2.2.1)))))))))), ((jA_ (p := ⟨gb125, _, none⟩) NB120_125.out _).trans (((jA_ (p := ⟨gb125, _, none⟩) NB120_125.out _).trans (((jA_ (p := ⟨gb125, _, none⟩) NB120_125.out _).trans (((jA_ (p := ⟨gb125, _, none⟩) NB120_125.out _).trans (((jA_ (p := ⟨gb125, _, none⟩) NB120_125.out _).trans (hHeld.2.2.2.1)))))))))), ((jA_ (p := ⟨gb125, _, none⟩) NB120_125.out _).trans (((jA_ (p := ⟨gb125, _, none⟩) NB120_125.out _).trans (((jA_ (p := ⟨gb125, _, none⟩) NB120_125.out _).trans (((jA_ (p := ⟨gb125, _, none⟩) NB120_125.out _).trans (((jA_ (p := ⟨gb125, _, none⟩) NB120_125.out _).trans (hHeld.2.2.2.2.1)))))))))), ((jA_ (p := ⟨gb125, _, none⟩) NB120_125.out _).trans (((jA_ (p := ⟨gb125, _, none⟩) NB120_125.out _).trans (((jA_ (p := ⟨gb125, _, none⟩) NB120_125.out _).trans (((jA_ (p := ⟨gb125, _, none⟩) NB120_125.out _).trans (((jA_ (p := ⟨gb125, _, none⟩) NB120_125.out _).trans (hHeld.2.2.2.2.2.1)))))))))), ((jA_ (p := ⟨gb125, _, none⟩) NB120_125.out _).trans (((jA_ (p := ⟨gb125, _, none⟩) NB120_125.out _).trans (((jA_ (p := ⟨gb125, _, none⟩) NB120_125.out _).trans (((jA_ (p := ⟨gb125, _, none⟩) NB120_125.out _).trans (((jA_ (p := ⟨gb125, _, none⟩) NB120_125.out _).trans (hHeld.2.2.2.2.2.2.1)))))))))), ((jA_ (p := ⟨gb125, _, none⟩) NB120_125.out _).trans (((jA_ (p := ⟨gb125, _, none⟩) NB120_125.out _).trans (((jA_ (p := ⟨gb125, _, none⟩) NB120_125.out _).trans (((jA_ (p := ⟨gb125, _, none⟩) NB120_125.out _).trans (((jA_ (p := ⟨gb125, _, none⟩) NB120_125.out _).trans (hHeld.2.2.2.2.2.2.2.1)))))))))), ((jA_ (p := ⟨gb125, _, none⟩) NB120_125.out _).trans (((jA_ (p := ⟨gb125, _, none⟩) NB120_125.out _).trans (((jA_ (p := ⟨gb125, _, none⟩) NB120_125.out _).trans (((jA_ (p := ⟨gb125, _, none⟩) NB120_125.out _).trans (((jA_ (p := ⟨gb125, _, none⟩) NB120_125.out _).trans (hHeld.2.2.2.2.2.2.2.2.1)))))))))), ((jA_ (p := ⟨gb125, _, none⟩) NB120_125.out _).trans (((jA_ (p := ⟨gb125, _, none⟩) NB120_125.out _).trans (((jA_ (p := ⟨gb125, _, none⟩) NB120_125.out _).trans (((jA_ (p := ⟨gb125, _, none⟩) NB120_125.out _).trans (((jA_ (p := ⟨gb125, _, none⟩) NB120_125.out _).trans (hHeld.2.2.2.2.2.2.2.2.2.1)))))))))), ((jA_ (p := ⟨gb125, _, none⟩) NB120_125.out _).trans (((jA_ (p := ⟨gb125, _, none⟩) NB120_125.out _).trans (((jA_ (p := ⟨gb125, _, none⟩) NB120_125.out _).trans (((jA_ (p := ⟨gb125, _, none⟩) NB120_125.out _).trans (((jA_ (p := ⟨gb125, _, none⟩) NB120_125.out _).trans (hHeld.2.2.2.2.2.2.2.2.2.2))))))))))⟩ (fun hHeld => ?_)
      clear hK K
      refine kk_ (jF_ HT_.out (by kernel_rfl)) ?_
      have hnb38 := NB120_125.out
      have hnc38 := NB125_120.out
      obtain ⟨hcz39_0, hcz39_1, hcz39_2, hcz39_3, hcz39_4, hcz39_5, hcz39_6, hcz39_7, hcz39_8, hcz39_9, hcz39_10⟩ := cz11 BK120.out
      have hnb40 := NB125_121.out
      have hnc40 := NB121_125.out
      obtain ⟨hcz41_0, hcz41_1, hcz41_2, hcz41_3, hcz41_4⟩ := cz5 BK125.out
      obtain ⟨hfz41_0, hfz41_1, hfz41_2, hfz41_3, hfz41_4⟩ := fz5 BK125.out
      try go_wp2_with (first | ((with_reducible refine jy_ (f := 128) rfl ?_); refine kh_ (some 43) rfl rfl Try.func128 (by kernel_rfl) rfl #[.agg #[.int .i64 i0, .int .i64 i1, .int .i64 i2, .int .i64 i3, .int .i64 i4, .int .i64 i5, .int .i64 i6, .int .i64 i7, .int .i64 i8, .int .i64 i9, .int .i64 ix], .int .i64 (wrap64 (Int.tdiv a1 t124)), .int .i64 (wrap64 (Int.tdiv (Int.tmod a1 t124) i2))] rfl (by (try simp only [List.map_toArray, List.map_cons, List.map_nil]); first | done | rfl | (simp only [List.length_drop, List.length_take]; rfl)) ?_; (with_reducible refine (geom_Member.calls i0 i1 i2 i3 i4 i5 i6 i7 i8 i9 ix (wrap64 (Int.tdiv a1 t124)) (wrap64 (Int.tdiv (Int.tmod a1 t124) i2)) t126 _ A27.out).mono ?_); rintro e w42 ⟨rfl, hb⟩; refine ⟨_, rfl, ?_⟩; replace BK120 := Aside0.mk (jb_ (g := gb120) (o := .cells #[.int .i64 i0, .int .i64 i1, .int .i64 i2, .int .i64 i3, .int .i64 i4, .int .i64 i5, .int .i64 i6, .int .i64 i7, .int .i64 i8, .int .i64 i9, .int .i64 ix] 23 (0, 0)) (by (with_reducible repeat (first | refine jf_ ?_ _ | refine jd_ ?_ | refine ja_ ?_ _)); refine jv_ ?_ NB120_125.out _; (with_reducible repeat (first | refine jf_ ?_ _ | refine jd_ ?_ | refine ja_ ?_ _)); refine jv_ ?_ NB120_125.out _; (with_reducible repeat (first | refine jf_ ?_ _ | refine jd_ ?_ | refine ja_ ?_ _)); refine jv_ ?_ NB120_125.out _; (with_reducible repeat (first | refine jf_ ?_ _ | refine jd_ ?_ | refine ja_ ?_ _)); refine jv_ ?_ NB120_125.out _; (with_reducible repeat (first | refine jf_ ?_ _ | refine jd_ ?_ | refine ja_ ?_ _)); refine jv_ ?_ NB120_125.out _; (with_reducible repeat (first | refine jf_ ?_ _ | refine jd_ ?_ | refine ja_ ?_ _)); exact BK120.out) hb); replace BK121 := Aside0.mk (jb_ (g := gb121) (o := .cells #[.int .i64 0, .int .i64 0, .int .i64 0, .int .i64 0, .int .i64 0] 163 (0, 0)) (by (with_reducible repeat (first | refine jf_ ?_ _ | refine jd_ ?_ | refine ja_ ?_ _)); refine jv_ ?_ NB121_125.out _; (with_reducible repeat (first | refine jf_ ?_ _ | refine jd_ ?_ | refine ja_ ?_ _)); refine jv_ ?_ NB121_125.out _; (with_reducible repeat (first | refine jf_ ?_ _ | refine jd_ ?_ | refine ja_ ?_ _)); refine jv_ ?_ NB121_125.out _; (with_reducible repeat (first | refine jf_ ?_ _ | refine jd_ ?_ | refine ja_ ?_ _)); refine jv_ ?_ NB121_125.out _; (with_reducible repeat (first | refine jf_ ?_ _ | refine jd_ ?_ | refine ja_ ?_ _)); refine jv_ ?_ NB121_125.out _; (with_reducible repeat (first | refine jf_ ?_ _ | refine jd_ ?_ | refine ja_ ?_ _)); exact BK121.out) hb); replace BK125 := Aside0.mk (jb_ (g := gb125) (o := .cells #[.int .i64 (wrap64 (Int.tdiv a1 t124)), .int .i64 (wrap64 (Int.tdiv (Int.tmod a1 t124) i2)), .int .i64 (Int.tmod a1 i2), .int .i64 0, .int .i64 0] 163 (0, 0)) (by (with_reducible repeat (first | refine jf_ ?_ _ | refine jd_ ?_ | refine ja_ ?_ _)); refine js_ (cs := #[.int .i64 (wrap64 (Int.tdiv a1 t124)), .int .i64 (wrap64 (Int.tdiv (Int.tmod a1 t124) i2)), .int .i64 (Int.tmod a1 i2), .int .i64 0, .int .i64 0]) ?_ 4 _ rfl; (with_reducible repeat (first | refine jf_ ?_ _ | refine jd_ ?_ | refine ja_ ?_ _)); refine js_ (cs := #[.int .i64 (wrap64 (Int.tdiv a1 t124)), .int .i64 (wrap64 (Int.tdiv (Int.tmod a1 t124) i2)), .int .i64 (Int.tmod a1 i2), .int .i64 0, .int .i64 0]) ?_ 3 _ rfl; (with_reducible repeat (first | refine jf_ ?_ _ | refine jd_ ?_ | refine ja_ ?_ _)); refine js_ (cs := #[.int .i64 (wrap64 (Int.tdiv a1 t124)), .int .i64 (wrap64 (Int.tdiv (Int.tmod a1 t124) i2)), .int .i64 0, .int .i64 0, .int .i64 0]) ?_ 2 _ rfl; (with_reducible repeat (first | refine jf_ ?_ _ | refine jd_ ?_ | refine ja_ ?_ _)); refine js_ (cs := #[.int .i64 (wrap64 (Int.tdiv a1 t124)), .int .i64 0, .int .i64 0, .int .i64 0, .int .i64 0]) ?_ 1 _ rfl; (with_reducible repeat (first | refine jf_ ?_ _ | refine jd_ ?_ | refine ja_ ?_ _)); refine js_ (cs := #[.int .i64 0, .int .i64 0, .int .i64 0, .int .i64 0, .int .i64 0]) ?_ 0 _ rfl; (with_reducible repeat (first | refine jf_ ?_ _ | refine jd_ ?_ | refine ja_ ?_ _)); exact BK125.out) hb); replace HB := bst HB hb; (try clear hb); (try clear hb2); (try clear hk); (try clear hi); have hcz43_0 : w42.cell? ⟨gb125, 0, none⟩ = some (.int .i64 (wrap64 (Int.tdiv a1 t124))) := (je_ BK125.out 0).trans rfl; have hcz43_1 : w42.cell? ⟨gb125, 1, none⟩ = some (.int .i64 (wrap64 (Int.tdiv (Int.tmod a1 t124) i2))) := (je_ BK125.out 1).trans rfl; have hcz43_2 : w42.cell? ⟨gb125, 2, none⟩ = some (.int .i64 (Int.tmod a1 i2)) := (je_ BK125.out 2).trans rfl; have hcz43_3 : w42.cell? ⟨gb125, 3, none⟩ = some (.int .i64 0) := (je_ BK125.out 3).trans rfl; have hcz43_4 : w42.cell? ⟨gb125, 4, none⟩ = some (.int .i64 0) := (je_ BK125.out 4).trans rfl; have hfz43_0 := jh_ BK125.out 0; have hfz43_1 := jh_ BK125.out 1; have hfz43_2 := jh_ BK125.out 2; have hfz43_3 := jh_ BK125.out 3; have hfz43_4 := jh_ BK125.out 4; obtain ⟨hcz44_0, hcz44_1, hcz44_2, hcz44_3, hcz44_4, hcz44_5, hcz44_6, hcz44_7, hcz44_8, hcz44_9, hcz44_10⟩ := cz11 BK120.out; obtain ⟨hcz45_0, hcz45_1, hcz45_2, hcz45_3, hcz45_4⟩ := cz5 BK121.out; obtain ⟨hfz45_0, hfz45_1, hfz45_2, hfz45_3, hfz45_4⟩ := fz5 BK121.out))
      refine bodyPost_ret (jj_ rfl _ _ gb121 163 #[.int .i64 (wrap64 (Int.tdiv a1 t124)), .int .i64 (wrap64 (Int.tdiv (Int.tmod a1 t124) i2)), .int .i64 (Int.tmod a1 i2), .int .i64 t126, .int .i64 (wrap64 ((wrap64 ((wrap64 (Int.tdiv a1 t124)) * i2)) + (Int.tmod a1 i2)))] (0, 0) _ rfl (by (with_reducible repeat (first | refine jf_ ?_ _ | refine jd_ ?_ | refine ja_ ?_ _)); refine js_ (cs := #[.int .i64 (wrap64 (Int.tdiv a1 t124)), .int .i64 (wrap64 (Int.tdiv (Int.tmod a1 t124) i2)), .int .i64 (Int.tmod a1 i2), .int .i64 t126, .int .i64 0]) ?_ 4 _ rfl; (with_reducible repeat (first | refine jf_ ?_ _ | refine jd_ ?_ | refine ja_ ?_ _)); refine js_ (cs := #[.int .i64 (wrap64 (Int.tdiv a1 t124)), .int .i64 (wrap64 (Int.tdiv (Int.tmod a1 t124) i2)), .int .i64 (Int.tmod a1 i2), .int .i64 0, .int .i64 0]) ?_ 3 _ rfl; (with_reducible repeat (first | refine jf_ ?_ _ | refine jd_ ?_ | refine ja_ ?_ _)); refine js_ (cs := #[.int .i64 (wrap64 (Int.tdiv a1 t124)), .int .i64 (wrap64 (Int.tdiv (Int.tmod a1 t124) i2)), .int .i64 0, .int .i64 0, .int .i64 0]) ?_ 2 _ rfl; (with_reducible repeat (first | refine jf_ ?_ _ | refine jd_ ?_ | refine ja_ ?_ _)); refine js_ (cs := #[.int .i64 (wrap64 (Int.tdiv a1 t124)), .int .i64 0, .int .i64 0, .int .i64 0, .int .i64 0]) ?_ 1 _ rfl; (with_reducible repeat (first | refine jf_ ?_ _ | refine jd_ ?_ | refine ja_ ?_ _)); refine js_ (cs := #[.int .i64 0, .int .i64 0, .int .i64 0, .int .i64 0, .int .i64 0]) ?_ 0 _ rfl; (with_reducible repeat (first | refine jf_ ?_ _ | refine jd_ ?_ | refine ja_ ?_ _)); refine jv_ ?_ NB121_125.out _; (with_reducible repeat (first | refine jf_ ?_ _ | refine jd_ ?_ | refine ja_ ?_ _)); refine jv_ ?_ NB121_125.out _; (with_reducible repeat (first | refine jf_ ?_ _ | refine jd_ ?_ | refine ja_ ?_ _)); exact BK121.out) Try.underlying163 rfl (by kernel_rfl)) rfl ?_
      exact ⟨by first | rfl | (simp [jq_, jp_] <;> rfl) | (simp [*, jq_, jp_] <;> rfl), bl HB⟩
end Go.Proofs.Ytgckcaoncjhgbaa.PG
