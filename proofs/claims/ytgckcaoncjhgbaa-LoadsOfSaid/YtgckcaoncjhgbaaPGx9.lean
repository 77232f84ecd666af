/- Printed by the kit's print over stand-ins for some functions (xprint.py), with contracts of my own in their place. -/
import Derived.Test.YtgckcaoncjhgbaaPGx8
set_option maxHeartbeats 8000000
set_option maxRecDepth 100000
namespace Go.Proofs.Ytgckcaoncjhgbaa.PG
open Go.RowKit Go.Proofs.YtgckcaoncjhgbaaW.PrintWords Go.Proofs.YtgckcaoncjhgbaaW.PrintLast
set_option linter.unusedVariables false
set_option linter.unusedSimpArgs false
def revetmentref09_Steps.l0 : Nat -> Int -> Int -> List (S143) -> Int -> Int -> Int -> Int -> Int -> Int -> Int -> Int -> Int -> Int -> Int -> Int -> Option ((List (S143)))
  | 0, _, _, _, _, _, _, _, _, _, _, _, _, _, _, _ => none
  | k + 1, x1, x2, x7, x8, x154000, x154001, x154002, x154003, x154004, x154005, x154006, x154007, x154008, x154009, x154010 => if x8 < x2 then ((revetmentref08_Of.f k x154000 x154001 x154002 x154003 x154004 x154005 x154006 x154007 x154008 x154009 x154010 (wrap64 (x1 + x8))).bind fun bt155 => (if x7.length < 3518437208883 then ((some (x7 ++ [(⟨false, bt155.2.2.2.1, bt155.2.2.2.2.1, wrap64 (x1 + x8), 1⟩ : S143)] : List (S143))).bind fun y162 => (if bt155.2.1 = (wrap64 (x154001 - 2)) then (if bt155.2.2.1 = (wrap64 (x154002 - 1)) then (if x154001 = 0 then (none) else ((revetmentref07_Row.f x154000 x154001 x154002 x154003 x154004 x154005 x154006 x154007 x154008 x154009 x154010).bind fun t165 => (if y162.length < 3518437208883 then (revetmentref09_Steps.l0 k x1 x2 (y162 ++ [(⟨true, Int.tmod bt155.1 x154001, wrap64 (bt155.1 * x154002), wrap64 (bt155.1 * t165), x154002⟩ : S143)]) (wrap64 (x8 + 1)) x154000 x154001 x154002 x154003 x154004 x154005 x154006 x154007 x154008 x154009 x154010) else (none)))) else (revetmentref09_Steps.l0 k x1 x2 y162 (wrap64 (x8 + 1)) x154000 x154001 x154002 x154003 x154004 x154005 x154006 x154007 x154008 x154009 x154010)) else (revetmentref09_Steps.l0 k x1 x2 y162 (wrap64 (x8 + 1)) x154000 x154001 x154002 x154003 x154004 x154005 x154006 x154007 x154008 x154009 x154010))) else (none))) else (some x7)
def revetmentref09_Steps.f (k : Nat) (i0 i1 i2 i3 i4 i5 i6 i7 i8 i9 ix a1 a2 : Int) : Option ((List (S143))) := (revetmentref09_Right.f i0 i1 i2 i3 i4 i5 i6 i7 i8 i9 ix a1 a2).bind fun t154 => (if t154 = true then (revetmentref09_Steps.l0 k a1 a2 ([] : List (S143)) 0 i0 i1 i2 i3 i4 i5 i6 i7 i8 i9 ix) else (some ([] : List (S143))))
def revetmentref09_Steps.T11 : Bool × List (List Nat × List Nat) := (true, [([], []), ([], []), ([1], [1]), ([], []), ([3], [3]), ([2, 4], [2, 4]), ([], []), ([6], [6]), ([], []), ([8], [8]), ([7, 9], [7, 9]), ([], []), ([11], [11]), ([], []), ([13], [13]), ([12, 14], [12, 14]), ([], []), ([16], [16]), ([5, 10, 15, 17], [5, 10, 15, 17]), ([18], [18]), ([0, 19, 14], [0, 19]), ([20, 20, 0, 1, 2, 3, 4, 5, 6, 7, 8, 9, 10, 11, 12, 13, 14, 15, 16, 17, 18, 19, 20], [0, 20])])
def revetmentref09_Steps.B11 : List Nat := [0, 0, 2, 0, 8, 30, 0, 64, 0, 256, 960, 0, 2048, 0, 8192, 30720, 0, 65536, 262142, 524286, 1048575, 2097151]
theorem revetmentref09_Steps.tab11 : rtab .any (kT_ Try.f96 11) = revetmentref09_Steps.T11 := by kernel_rfl
theorem revetmentref09_Steps.bits11 : jO_ revetmentref09_Steps.T11.2 revetmentref09_Steps.B11 = true := by kernel_rfl
theorem revetmentref09_Steps.calls (k : Nat) (i0 i1 i2 i3 i4 i5 i6 i7 i8 i9 ix a1 a2 : Int) (r : List (S143)) (w : World) (h : revetmentref09_Steps.f k i0 i1 i2 i3 i4 i5 i6 i7 i8 i9 ix a1 a2 = some r) :
  Calls Try.prog 96 #[.agg #[.int .i64 i0, .int .i64 i1, .int .i64 i2, .int .i64 i3, .int .i64 i4, .int .i64 i5, .int .i64 i6, .int .i64 i7, .int .i64 i8, .int .i64 i9, .int .i64 ix], .int .i64 a1, .int .i64 a2] w fun e w' => ∃ v0_ : Value, e = .returned (v0_) /\ Kd.R k143 143 w' w.heap.size (fun _ => True) v0_ r /\ Below w.heap.size w w' := by
 have hu23 := Try.underlying23
 have hu163 := Try.underlying163
 have hu143 := Try.underlying143
 have HB := Aside0.mk (Below.refl w.heap.size w)
 have H : ((revetmentref09_Right.f i0 i1 i2 i3 i4 i5 i6 i7 i8 i9 ix a1 a2).bind fun t154 => (if t154 = true then (revetmentref09_Steps.l0 k a1 a2 ([] : List (S143)) 0 i0 i1 i2 i3 i4 i5 i6 i7 i8 i9 ix) else (some ([] : List (S143))))) = some r := h
 clear h
 replace H := Option.bind_eq_some_iff.mp H
 obtain ⟨t154, A40, H⟩ := H
 replace H : (if t154 = true then (revetmentref09_Steps.l0 k a1 a2 ([] : List (S143)) 0 i0 i1 i2 i3 i4 i5 i6 i7 i8 i9 ix) else (some ([] : List (S143)))) = some r := H
 have A4 := Aside0.mk A40
 clear A40
 by_cases c5 : t154 = true
 ·subst c5
  have H1 : (revetmentref09_Steps.l0 k a1 a2 ([] : List (S143)) 0 i0 i1 i2 i3 i4 i5 i6 i7 i8 i9 ix) = some r := by rw [if_pos rfl] at H; exact H
  clear H
  have H := H1
  clear H1
  have H' := Aside0.mk H
  clear H
  go_enter Try.func96, Try.ntmps96
  go_wp2_with (first | ((with_reducible refine jD_ (N := 3) rfl ?_); refine jB_ ?hg (N := 3) ?hd (cs := #[.int .i64 i0, .int .i64 i1, .int .i64 i2, .int .i64 i3, .int .i64 i4, .int .i64 i5, .int .i64 i6, .int .i64 i7, .int .i64 i8, .int .i64 i9, .int .i64 ix]) (t := 23) ?hr ?_; (case hd => rfl); (case hg => rfl); (case hr => first | (go_simp; done) | (go_simp; rfl)); intro gb153 hg w6 hbox hb; have BK153 := Aside0.mk (hbox); have GW153 := Aside0.mk ((by rw [hg]; exact (ji_ (bl HB)) : w.heap.size <= gb153)); have GE153 := Aside0.mk ((by rw [hg]; exact (ji_ (bl HB)) : w.heap.size <= gb153)); replace HB := bst HB hb; clear hb hbox hg; obtain ⟨hcz7_0, hcz7_1, hcz7_2, hcz7_3, hcz7_4, hcz7_5, hcz7_6, hcz7_7, hcz7_8, hcz7_9, hcz7_10⟩ := cz11 BK153.out) | ((with_reducible refine jy_ (f := 114) rfl ?_); refine kh_ (some 15) rfl rfl Try.func114 (by kernel_rfl) rfl #[.agg #[.int .i64 i0, .int .i64 i1, .int .i64 i2, .int .i64 i3, .int .i64 i4, .int .i64 i5, .int .i64 i6, .int .i64 i7, .int .i64 i8, .int .i64 i9, .int .i64 ix], .int .i64 a1, .int .i64 a2] rfl (by (try simp only [List.map_toArray, List.map_cons, List.map_nil]); first | done | rfl | (simp only [List.length_drop, List.length_take]; rfl)) ?_; (with_reducible refine (revetmentref09_Right.calls i0 i1 i2 i3 i4 i5 i6 i7 i8 i9 ix a1 a2 true _ A4.out).mono ?_); rintro e w8 ⟨rfl, hb⟩; refine ⟨_, rfl, ?_⟩; replace BK153 := bkb BK153 hb; replace HB := bst HB hb; (try clear hb); (try clear hb2); (try clear hk); (try clear hi)))
  go_loopg [7, 8] k (fun kq v7 v8 w' => ∃ (x7_1 : List (S143)) (x8_1 : Int), v8 = .int .i64 x8_1 /\ Aside0 (revetmentref09_Steps.l0 kq a1 a2 x7_1 x8_1 i0 i1 i2 i3 i4 i5 i6 i7 i8 i9 ix = some r) /\ Aside0 (kq <= k) /\ Aside0 (Kd.R k143 143 w' w.heap.size (fun _ => True) v7 x7_1) /\ Aside0 (w'.heap[gb153]? = some (.cells #[.int .i64 i0, .int .i64 i1, .int .i64 i2, .int .i64 i3, .int .i64 i4, .int .i64 i5, .int .i64 i6, .int .i64 i7, .int .i64 i8, .int .i64 i9, .int .i64 ix] 23 (0, 0))) /\ Aside0 (Below w.heap.size w w'))
  case atStart => exact ⟨(([] : List (S143))), (0), (by first | rfl | (simp; done) | (simp [*]; done)), H', ⟨Nat.le_refl _⟩, ⟨by first | exact Kd.R_nil _ _ _ _ _ | exact Kd.N_nil _ _ _ _ _ | exact Kd.V_nil _ _ _ _ _ | exact Kd.Q_nil _ _ _ _ _ | exact Kd.S_nil _ _ _ _ _⟩, ⟨by (with_reducible repeat (first | refine jf_ ?_ _ | refine jd_ ?_ | refine ja_ ?_ _)); exact BK153.out⟩, ⟨bl HB⟩⟩
  case round =>
   clear H'
   try clear c1
   try clear p2
   try clear c5
   (try clear hcz7_0 hcz7_1)
   (try clear hcz7_10)
   (try clear hcz7_2 hcz7_3 hcz7_4 hcz7_5 hcz7_6 hcz7_7 hcz7_8 hcz7_9)
   (try clear hfz7_0 hfz7_1)
   (try clear hfz7_10)
   (try clear hfz7_2 hfz7_3 hfz7_4 hfz7_5 hfz7_6 hfz7_7 hfz7_8 hfz7_9)
   obtain ⟨x7_1, x8_1, rfl, HA, HK1, HO_7, BK153, HB⟩ := hrel
   cases gk with
   | zero => exact absurd HA.out (by simp [revetmentref09_Steps.l0])
   | succ k1 =>
    have H := HA.out
    clear HA
    simp only [revetmentref09_Steps.l0] at H
    by_cases c9 : x8_1 < a2
    ·rw [if_pos c9] at H
     have c9b0 : decide (x8_1 < a2) = true := decide_eq_true c9
     clear c9
     replace H := Option.bind_eq_some_iff.mp H
     obtain ⟨⟨t155, t156, t157, t158, t159, t160⟩, A100, H⟩ := H
     replace H : (if x7_1.length < 3518437208883 then ((some (x7_1 ++ [(⟨false, t158, t159, wrap64 (a1 + x8_1), 1⟩ : S143)] : List (S143))).bind fun y162 => (if t156 = (wrap64 (i1 - 2)) then (if t157 = (wrap64 (i2 - 1)) then (if i1 = 0 then (none) else ((revetmentref07_Row.f i0 i1 i2 i3 i4 i5 i6 i7 i8 i9 ix).bind fun t165 => (if y162.length < 3518437208883 then (revetmentref09_Steps.l0 k1 a1 a2 (y162 ++ [(⟨true, Int.tmod t155 i1, wrap64 (t155 * i2), wrap64 (t155 * t165), i2⟩ : S143)]) (wrap64 (x8_1 + 1)) i0 i1 i2 i3 i4 i5 i6 i7 i8 i9 ix) else (none)))) else (revetmentref09_Steps.l0 k1 a1 a2 y162 (wrap64 (x8_1 + 1)) i0 i1 i2 i3 i4 i5 i6 i7 i8 i9 ix)) else (revetmentref09_Steps.l0 k1 a1 a2 y162 (wrap64 (x8_1 + 1)) i0 i1 i2 i3 i4 i5 i6 i7 i8 i9 ix))) else (none)) = some r := H
     have A10 := Aside0.mk A100
     clear A100
     by_cases c11 : x7_1.length < 3518437208883
     ·rw [if_pos c11] at H
      have LMc11 := Aside0.mk c11
      clear c11
      obtain ⟨y162, hy162⟩ : ∃ y_ : List (S143), y_ = (x7_1 ++ [(⟨false, t158, t159, wrap64 (a1 + x8_1), 1⟩ : S143)]) := ⟨_, rfl⟩
      replace H : (if t156 = (wrap64 (i1 - 2)) then (if t157 = (wrap64 (i2 - 1)) then (if i1 = 0 then (none) else ((revetmentref07_Row.f i0 i1 i2 i3 i4 i5 i6 i7 i8 i9 ix).bind fun t165 => (if y162.length < 3518437208883 then (revetmentref09_Steps.l0 k1 a1 a2 (y162 ++ [(⟨true, Int.tmod t155 i1, wrap64 (t155 * i2), wrap64 (t155 * t165), i2⟩ : S143)]) (wrap64 (x8_1 + 1)) i0 i1 i2 i3 i4 i5 i6 i7 i8 i9 ix) else (none)))) else (revetmentref09_Steps.l0 k1 a1 a2 y162 (wrap64 (x8_1 + 1)) i0 i1 i2 i3 i4 i5 i6 i7 i8 i9 ix)) else (revetmentref09_Steps.l0 k1 a1 a2 y162 (wrap64 (x8_1 + 1)) i0 i1 i2 i3 i4 i5 i6 i7 i8 i9 ix)) = some r := by first | (rw [hy162]; with_reducible exact H) | (have H2_ := (Option.bind_some _ _).symm.trans H; rw [hy162]; with_reducible exact H2_) | (have H2_ := (Option.bind_some _ _).symm.trans H; with_reducible exact H2_) | with_reducible exact H | (rw [hy162]; exact H) | exact H
      have Ny162 := Aside0.mk hy162
      clear hy162
      by_cases c12 : t156 = (wrap64 (i1 - 2))
      ·rw [if_pos c12] at H
       have c12b0 : (t156 == (wrap64 (i1 - 2))) = true := beq_iff_eq.mpr c12
       have c12b1 : (t156 != (wrap64 (i1 - 2))) = false := bne_eq_false_iff_eq.mpr c12
       clear c12
       by_cases c13 : t157 = (wrap64 (i2 - 1))
       ·rw [if_pos c13] at H
        have c13b0 : (t157 == (wrap64 (i2 - 1))) = true := beq_iff_eq.mpr c13
        have c13b1 : (t157 != (wrap64 (i2 - 1))) = false := bne_eq_false_iff_eq.mpr c13
        clear c13
        by_cases c14 : i1 = 0
        ·rw [if_pos c14] at H
         exact absurd H (by simp)
        ·rw [if_neg c14] at H
         have c14b0 : (i1 == 0) = false := beq_eq_false_iff_ne.mpr c14
         have c14b1 : (i1 != 0) = true := bne_iff_ne.mpr c14
         replace H := Option.bind_eq_some_iff.mp H
         obtain ⟨t165, A150, H⟩ := H
         replace H : (if y162.length < 3518437208883 then (revetmentref09_Steps.l0 k1 a1 a2 (y162 ++ [(⟨true, Int.tmod t155 i1, wrap64 (t155 * i2), wrap64 (t155 * t165), i2⟩ : S143)]) (wrap64 (x8_1 + 1)) i0 i1 i2 i3 i4 i5 i6 i7 i8 i9 ix) else (none)) = some r := H
         have A15 := Aside0.mk A150
         clear A150
         by_cases c16 : y162.length < 3518437208883
         ·rw [if_pos c16] at H
          have LMc16 := Aside0.mk c16
          clear c16
          obtain ⟨y166, hy166⟩ : ∃ y_ : List (S143), y_ = (y162 ++ [(⟨true, Int.tmod t155 i1, wrap64 (t155 * i2), wrap64 (t155 * t165), i2⟩ : S143)]) := ⟨_, rfl⟩
          replace H : (revetmentref09_Steps.l0 k1 a1 a2 y166 (wrap64 (x8_1 + 1)) i0 i1 i2 i3 i4 i5 i6 i7 i8 i9 ix) = some r := by first | (rw [hy166]; with_reducible exact H) | (have H2_ := (Option.bind_some _ _).symm.trans H; rw [hy166]; with_reducible exact H2_) | (have H2_ := (Option.bind_some _ _).symm.trans H; with_reducible exact H2_) | with_reducible exact H | (rw [hy166]; exact H) | exact H
          have Ny166 := Aside0.mk hy166
          clear hy166
          have H' := Aside0.mk H
          clear H
          obtain ⟨hcz17_0, hcz17_1, hcz17_2, hcz17_3, hcz17_4, hcz17_5, hcz17_6, hcz17_7, hcz17_8, hcz17_9, hcz17_10⟩ := cz11 BK153.out
          try go_wp2_with (first | ((with_reducible refine jy_ (f := 115) rfl ?_); refine kh_ (some 27) rfl rfl Try.func115 (by kernel_rfl) rfl #[.agg #[.int .i64 i0, .int .i64 i1, .int .i64 i2, .int .i64 i3, .int .i64 i4, .int .i64 i5, .int .i64 i6, .int .i64 i7, .int .i64 i8, .int .i64 i9, .int .i64 ix], .int .i64 (wrap64 (a1 + x8_1))] rfl (by (try simp only [List.map_toArray, List.map_cons, List.map_nil]); first | done | rfl | (simp only [List.length_drop, List.length_take]; rfl)) ?_; (with_reducible refine (revetmentref08_Of.calls k1 i0 i1 i2 i3 i4 i5 i6 i7 i8 i9 ix (wrap64 (a1 + x8_1)) t155 t156 t157 t158 t159 t160 _ A10.out).mono ?_); rintro e w18 ⟨rfl, hb⟩; refine ⟨_, rfl, ?_⟩; replace HO_7 := Aside0.mk (Kd.R_below (by (with_reducible repeat (first | apply Kd.R_alloc | apply Kd.R_drewN | apply Kd.R_drew)); exact HO_7.out) hb); replace BK153 := bkb BK153 hb; replace HB := bst HB hb; (try clear hb); (try clear hb2); (try clear hk); (try clear hi)) | ((with_reducible refine jD_ (N := 9) rfl ?_); refine jB_ ?hg (N := 9) ?hd (cs := #[.int .i64 0, .int .i64 0, .int .i64 0, .int .i64 0, .int .i64 0]) (t := 163) ?hr ?_; (case hd => rfl); (case hg => rfl); (case hr => first | (go_simp; done) | (go_simp; rfl)); intro gb161 hg w19 hbox hb; have BK161 := Aside0.mk (hbox); have GW161 := Aside0.mk ((by rw [hg]; exact (ji_ (bl HB)) : w.heap.size <= gb161)); have GE161 := Aside0.mk ((by rw [hg]; exact (ji_ (bl HB)) : w.heap.size <= gb161)); have NB153_161 := Aside0.mk ((by rw [hg]; exact Nat.ne_of_lt (jX_ (g := gb153) (o := .cells #[.int .i64 i0, .int .i64 i1, .int .i64 i2, .int .i64 i3, .int .i64 i4, .int .i64 i5, .int .i64 i6, .int .i64 i7, .int .i64 i8, .int .i64 i9, .int .i64 ix] 23 (0, 0)) (by (with_reducible repeat (first | refine jf_ ?_ _ | refine jd_ ?_ | refine ja_ ?_ _)); exact BK153.out)) : gb153 ≠ gb161)); have NB161_153 := Aside0.mk ((by rw [hg]; exact Nat.ne_of_gt (jX_ (g := gb153) (o := .cells #[.int .i64 i0, .int .i64 i1, .int .i64 i2, .int .i64 i3, .int .i64 i4, .int .i64 i5, .int .i64 i6, .int .i64 i7, .int .i64 i8, .int .i64 i9, .int .i64 ix] 23 (0, 0)) (by (with_reducible repeat (first | refine jf_ ?_ _ | refine jd_ ?_ | refine ja_ ?_ _)); exact BK153.out)) : gb161 ≠ gb153)); replace HO_7 := Aside0.mk (Kd.R_below (by (with_reducible repeat (first | apply Kd.R_alloc | apply Kd.R_drewN | apply Kd.R_drew)); exact HO_7.out) hb); replace BK153 := bkb BK153 hb; replace HB := bst HB hb; clear hb hbox hg; have hnb20 := NB161_153.out; have hnc20 := NB153_161.out; obtain ⟨hcz21_0, hcz21_1, hcz21_2, hcz21_3, hcz21_4⟩ := cz5 BK161.out; obtain ⟨hfz21_0, hfz21_1, hfz21_2, hfz21_3, hfz21_4⟩ := fz5 BK161.out) | ((with_reducible refine ki_ (b := .append) (xs := #[.tmp 30, .tmp 39]) rfl ?_); at_builtin; refine Kd.R_append k143 (w0 := w) w.heap.size rfl (.tmp 30) (.tmp 39) 140 143 (.agg #[(.bool false), (.int .i64 0), (.int .i64 0), (.int .i64 0), (.int .i64 0)]) 40 rfl Try.underlying140 zO_ rfl (by decide) (by omega) u7 x7_1 (⟨false, t158, t159, wrap64 (a1 + x8_1), 1⟩ : S143) [.bool false, .int .i64 t158, .int .i64 t159, .int .i64 (wrap64 (a1 + x8_1)), .int .i64 1] (fun _ => True) (fun _ => False) rfl (by first | (go_simp; done) | (go_simp; rfl)) ?aP (fun _ hk => hk.elim) ?aF ?aO ?aB ?aS ?aL ?_; (case aP => exact xY_ _ _ _ (⟨false, t158, t159, wrap64 (a1 + x8_1), 1⟩ : S143)); (case aB => exact (bl HB)); (case aF => exact (fun _ _ => trivial)); (case aO => exact (by (with_reducible repeat (first | apply Kd.R_alloc | apply Kd.R_drewN | apply Kd.R_drew)); exact Kd.R_mono (Kd.R_far (p := ⟨gb161, 4, none⟩) (Kd.R_far (p := ⟨gb161, 3, none⟩) (Kd.R_far (p := ⟨gb161, 2, none⟩) (Kd.R_far (p := ⟨gb161, 1, none⟩) (Kd.R_far (p := ⟨gb161, 0, none⟩) (Kd.R_types HO_7.out BK161.out (by decide)) (fun _ hk => hk.2) (.int .i64 t155)) (fun _ hk => hk.2) (.int .i64 t156)) (fun _ hk => hk.2) (.int .i64 t157)) (fun _ hk => hk.2) (.int .i64 t158)) (fun _ hk => hk.2) (.int .i64 t159)) (fun _ hk => trivial))); (case aS => exact (ji_ (bl HB))); (case aL => have := LMc11.out; omega); intro v163 w22 ho hb hg hat; rw [<- Ny162.out] at ho; have HO164 := Aside0.mk (ho); replace BK153 := Aside0.mk (kV_ (g := gb153) (o := .cells #[.int .i64 i0, .int .i64 i1, .int .i64 i2, .int .i64 i3, .int .i64 i4, .int .i64 i5, .int .i64 i6, .int .i64 i7, .int .i64 i8, .int .i64 i9, .int .i64 ix] 23 (0, 0)) (by (with_reducible repeat (first | refine jf_ ?_ _ | refine jd_ ?_ | refine ja_ ?_ _)); refine jv_ ?_ NB153_161.out _; (with_reducible repeat (first | refine jf_ ?_ _ | refine jd_ ?_ | refine ja_ ?_ _)); refine jv_ ?_ NB153_161.out _; (with_reducible repeat (first | refine jf_ ?_ _ | refine jd_ ?_ | refine ja_ ?_ _)); refine jv_ ?_ NB153_161.out _; (with_reducible repeat (first | refine jf_ ?_ _ | refine jd_ ?_ | refine ja_ ?_ _)); refine jv_ ?_ NB153_161.out _; (with_reducible repeat (first | refine jf_ ?_ _ | refine jd_ ?_ | refine ja_ ?_ _)); refine jv_ ?_ NB153_161.out _; (with_reducible repeat (first | refine jf_ ?_ _ | refine jd_ ?_ | refine ja_ ?_ _)); exact BK153.out) hg (Kd.R_ne HO_7.out BK153.out (by decide))); replace BK161 := Aside0.mk (kV_ (g := gb161) (o := .cells #[.int .i64 t155, .int .i64 t156, .int .i64 t157, .int .i64 t158, .int .i64 t159] 163 (0, 0)) (by (with_reducible repeat (first | refine jf_ ?_ _ | refine jd_ ?_ | refine ja_ ?_ _)); refine js_ (cs := #[.int .i64 t155, .int .i64 t156, .int .i64 t157, .int .i64 t158, .int .i64 0]) ?_ 4 _ rfl; (with_reducible repeat (first | refine jf_ ?_ _ | refine jd_ ?_ | refine ja_ ?_ _)); refine js_ (cs := #[.int .i64 t155, .int .i64 t156, .int .i64 t157, .int .i64 0, .int .i64 0]) ?_ 3 _ rfl; (with_reducible repeat (first | refine jf_ ?_ _ | refine jd_ ?_ | refine ja_ ?_ _)); refine js_ (cs := #[.int .i64 t155, .int .i64 t156, .int .i64 0, .int .i64 0, .int .i64 0]) ?_ 2 _ rfl; (with_reducible repeat (first | refine jf_ ?_ _ | refine jd_ ?_ | refine ja_ ?_ _)); refine js_ (cs := #[.int .i64 t155, .int .i64 0, .int .i64 0, .int .i64 0, .int .i64 0]) ?_ 1 _ rfl; (with_reducible repeat (first | refine jf_ ?_ _ | refine jd_ ?_ | refine ja_ ?_ _)); refine js_ (cs := #[.int .i64 0, .int .i64 0, .int .i64 0, .int .i64 0, .int .i64 0]) ?_ 0 _ rfl; (with_reducible repeat (first | refine jf_ ?_ _ | refine jd_ ?_ | refine ja_ ?_ _)); exact BK161.out) hg (Kd.R_ne HO_7.out BK161.out (by decide))); replace HB := Aside0.mk (hb); clear HO_7; clear ho hb hg hat; obtain ⟨hcz23_0, hcz23_1, hcz23_2, hcz23_3, hcz23_4⟩ := cz5 BK161.out; obtain ⟨hfz23_0, hfz23_1, hfz23_2, hfz23_3, hfz23_4⟩ := fz5 BK161.out; obtain ⟨hcz24_0, hcz24_1, hcz24_2, hcz24_3, hcz24_4, hcz24_5, hcz24_6, hcz24_7, hcz24_8, hcz24_9, hcz24_10⟩ := cz11 BK153.out))
          replace HO164 := Aside0.mk (Kd.R_drew HO164.out)
          replace BK153 := Aside0.mk (jd_ BK153.out)
          replace BK161 := Aside0.mk (jd_ BK161.out)
          replace HB := Aside0.mk (jC_ HB.out)
          refine jN_ (n := 22) (S := fun w' => w'.cell? ⟨gb161, 0, none⟩ = some (.int .i64 t155) /\ w'.cell? ⟨gb161, 1, none⟩ = some (.int .i64 t156) /\ w'.cell? ⟨gb161, 2, none⟩ = some (.int .i64 t157) /\ w'.cell? ⟨gb161, 3, none⟩ = some (.int .i64 t158) /\ w'.cell? ⟨gb161, 4, none⟩ = some (.int .i64 t159) /\ w'.cell? ⟨gb153, 0, none⟩ = some (.int .i64 i0) /\ w'.cell? ⟨gb153, 1, none⟩ = some (.int .i64 i1) /\ w'.cell? ⟨gb153, 2, none⟩ = some (.int .i64 i2) /\ w'.cell? ⟨gb153, 3, none⟩ = some (.int .i64 i3) /\ w'.cell? ⟨gb153, 4, none⟩ = some (.int .i64 i4) /\ w'.cell? ⟨gb153, 5, none⟩ = some (.int .i64 i5) /\ w'.cell? ⟨gb153, 6, none⟩ = some (.int .i64 i6) /\ w'.cell? ⟨gb153, 7, none⟩ = some (.int .i64 i7) /\ w'.cell? ⟨gb153, 8, none⟩ = some (.int .i64 i8) /\ w'.cell? ⟨gb153, 9, none⟩ = some (.int .i64 i9) /\ w'.cell? ⟨gb153, 10, none⟩ = some (.int .i64 ix)) (ds := []) (bq 22 0) (by kernel_rfl) rfl rfl ⟨(je_ BK161.out 0).trans rfl, (je_ BK161.out 1).trans rfl, (je_ BK161.out 2).trans rfl, (je_ BK161.out 3).trans rfl, (je_ BK161.out 4).trans rfl, (je_ BK153.out 0).trans rfl, (je_ BK153.out 1).trans rfl, (je_ BK153.out 2).trans rfl, (je_ BK153.out 3).trans rfl, (je_ BK153.out 4).trans rfl, (je_ BK153.out 5).trans rfl, (je_ BK153.out 6).trans rfl, (je_ BK153.out 7).trans rfl, (je_ BK153.out 8).trans rfl, (je_ BK153.out 9).trans rfl, (je_ BK153.out 10).trans rfl⟩ (fun hHeld => ?_); refine jw_ revetmentref09_Steps.tab11 revetmentref09_Steps.bits11 (fun HT_ HW_ => ?_)
          generalize w22.drew = w25 at HO164 BK153 BK161 HB hHeld ⊢
          apply pu 0 56 (bq 22 1) HT_
          apply pu 1 57 (bq 22 3) HT_
          apply pu 3 59 (bq 22 11) HT_
          apply pu 6 62 (bq 22 75) HT_
          apply pu 8 64 (bq 22 331) HT_
          apply pu 11 67 (bq 22 2379) HT_
          apply pu 16 72 (bq 22 67915) HT_
          apply tu 2 58 (bq 22 67919) HT_ HW_ hHeld
          apply tu 4 60 (bq 22 67935) HT_ HW_ hHeld
          apply pu 5 61 (bq 22 67967) HT_
          apply tu 7 63 (bq 22 68095) HT_ HW_ hHeld
          apply tu 9 65 (bq 22 68607) HT_ HW_ hHeld
          apply pu 10 66 (bq 22 69631) HT_
          apply tu 12 68 (bq 22 73727) HT_ HW_ hHeld
          apply tu 13 69 (bq 22 81919) HT_ HW_ hHeld
          apply tu 17 73 (bq 22 212991) HT_ HW_ hHeld
          refine one_ (i := 14) (N := some 70) (bq 22 229375) rfl rfl (kI_ HT_.out (by kernel_rfl)) (by decide) (fun K hK => ?_)
          refine gs Try.func116 #[.agg #[.int .i64 i0, .int .i64 i1, .int .i64 i2, .int .i64 i3, .int .i64 i4, .int .i64 i5, .int .i64 i6, .int .i64 i7, .int .i64 i8, .int .i64 i9, .int .i64 ix]] ?_
          with_reducible refine (revetmentref07_Row.calls i0 i1 i2 i3 i4 i5 i6 i7 i8 i9 ix t165 _ A15.out).mono ?_
          rintro e w26 ⟨rfl, hb⟩
          refine ⟨_, rfl, ?_⟩
          replace HO164 := Aside0.mk (Kd.R_below (by (with_reducible repeat (first | apply Kd.R_alloc | apply Kd.R_drewN | apply Kd.R_drew)); exact HO164.out) hb)
          replace BK153 := bkb BK153 hb
          replace BK161 := bkb BK161 hb
          replace HB := bst HB hb
          try clear hb; try clear hb2; try clear hk; try clear hi
          refine hK.out _ _ sc (fun hHeld => ?_)
          clear hK K
          apply nm 0
          apply pu 15 71 (bq 22 262143) HT_
          apply pu 18 74 (bq 22 524287) HT_
          refine one_ (i := 19) (N := some 75) (bq 22 1048575) rfl rfl (kI_ HT_.out (by kernel_rfl)) (by decide) (fun K hK => ?_)
          refine value_ (w1 := ?_) (v := ?_) (by rfl) rfl ?_ ?_
          rotate_left 2
          ·go_simp
           constructor
           ·rfl
           ·rfl
          refine hK.out _ _ ⟨(je_ (ja_ BK161.out _) 0).trans rfl, (je_ (ja_ BK161.out _) 1).trans rfl, (je_ (ja_ BK161.out _) 2).trans rfl, (je_ (ja_ BK161.out _) 3).trans rfl, (je_ (ja_ BK161.out _) 4).trans rfl, (je_ (ja_ BK153.out _) 0).trans rfl, (je_ (ja_ BK153.out _) 1).trans rfl, (je_ (ja_ BK153.out _) 2).trans rfl, (je_ (ja_ BK153.out _) 3).trans rfl, (je_ (ja_ BK153.out _) 4).trans rfl, (je_ (ja_ BK153.out _) 5).trans rfl, (je_ (ja_ BK153.out _) 6).trans rfl, (je_ (ja_ BK153.out _) 7).trans rfl, (je_ (ja_ BK153.out _) 8).trans rfl, (je_ (ja_ BK153.out _) 9).trans rfl, (je_ (ja_ BK153.out _) 10).trans rfl⟩ (fun hHeld => ?_)
          clear hK K
          apply nm 0
          refine one_ (i := 20) (N := some 76) (bq 22 2097151) rfl rfl (kI_ HT_.out (by kernel_rfl)) (by decide) (fun K hK => ?_)
          refine Kd.R_append_step k143 (w0 := w) w.heap.size (by rfl) (.tmp 56) (.tmp 75) 140 143 (.agg #[(.bool false), (.int .i64 0), (.int .i64 0), (.int .i64 0), (.int .i64 0)]) 40 rfl Try.underlying140 zO_ rfl (by decide) (by omega) v163 y162 (⟨true, Int.tmod t155 i1, wrap64 (t155 * i2), wrap64 (t155 * t165), i2⟩ : S143) [.bool true, .int .i64 (Int.tmod t155 i1), .int .i64 (wrap64 (t155 * i2)), .int .i64 (wrap64 (t155 * t165)), .int .i64 i2] (fun _ => True) (fun _ => False) rfl rfl ?aP (fun _ hk => hk.elim) ?aF ?aO ?aB ?aS ?aL ?_
          (case aP => exact xY_ _ _ _ (⟨true, Int.tmod t155 i1, wrap64 (t155 * i2), wrap64 (t155 * t165), i2⟩ : S143))
          (case aB => exact (bl HB))
          (case aF => exact (fun _ _ => trivial))
          (case aO => exact (by (with_reducible repeat (first | apply Kd.R_alloc | apply Kd.R_drewN | apply Kd.R_drew)); exact HO164.out))
          (case aS => exact (ji_ (bl HB)))
          (case aL => have := LMc16.out; omega)
          intro v167 w27 ho hb hg hat
          rw [<- Ny166.out] at ho
          have n0_ := Aside0.mk (kV_ (g := gb153) (o := .cells #[.int .i64 i0, .int .i64 i1, .int .i64 i2, .int .i64 i3, .int .i64 i4, .int .i64 i5, .int .i64 i6, .int .i64 i7, .int .i64 i8, .int .i64 i9, .int .i64 ix] 23 (0, 0)) (by (with_reducible repeat (first | refine jf_ ?_ _ | refine jd_ ?_ | refine ja_ ?_ _)); exact BK153.out) hg (Kd.R_ne HO164.out BK153.out (by decide)))
          have n1_ := Aside0.mk (kV_ (g := gb161) (o := .cells #[.int .i64 t155, .int .i64 t156, .int .i64 t157, .int .i64 t158, .int .i64 t159] 163 (0, 0)) (by (with_reducible repeat (first | refine jf_ ?_ _ | refine jd_ ?_ | refine ja_ ?_ _)); exact BK161.out) hg (Kd.R_ne HO164.out BK161.out (by decide)))
          have n2_ := Aside0.mk (hb)
          have n3_ := Aside0.mk (ho)
          clear BK153
          clear BK161
          clear HB
          clear HO164
          have BK153 := n0_
          have BK161 := n1_
          have HB := n2_
          have HO168 := n3_
          clear n0_ n1_ n2_ n3_
          clear ho hb hg hat
          refine hK.out _ _ sc (fun hHeld => ?_)
          clear hK K
          apply nm 0
          apply pu 21 7 (bq 22 4194303) HT_
          refine kk_ (jF_ HT_.out (by kernel_rfl)) ?_
          try go_wp2
          go_roundg k1
          case measure => have := HK1.out; omega
          case rel => exact ⟨(y166), (wrap64 (x8_1 + 1)), (by first | rfl | (simp; done) | (simp [*]; done)), H', ⟨by have := HK1.out; omega⟩, ⟨by (with_reducible repeat (first | apply Kd.R_alloc | apply Kd.R_drewN | apply Kd.R_drew)); exact HO168.out⟩, ⟨by (with_reducible repeat (first | refine jf_ ?_ _ | refine jd_ ?_ | refine ja_ ?_ _)); exact BK153.out⟩, ⟨bl HB⟩⟩
         ·rw [if_neg c16] at H
          exact absurd H (by simp)
       ·rw [if_neg c13] at H
        have c13b0 : (t157 == (wrap64 (i2 - 1))) = false := beq_eq_false_iff_ne.mpr c13
        have c13b1 : (t157 != (wrap64 (i2 - 1))) = true := bne_iff_ne.mpr c13
        have H' := Aside0.mk H
        clear H
        obtain ⟨hcz28_0, hcz28_1, hcz28_2, hcz28_3, hcz28_4, hcz28_5, hcz28_6, hcz28_7, hcz28_8, hcz28_9, hcz28_10⟩ := cz11 BK153.out
        go_wp2_with (first | ((with_reducible refine jy_ (f := 115) rfl ?_); refine kh_ (some 27) rfl rfl Try.func115 (by kernel_rfl) rfl #[.agg #[.int .i64 i0, .int .i64 i1, .int .i64 i2, .int .i64 i3, .int .i64 i4, .int .i64 i5, .int .i64 i6, .int .i64 i7, .int .i64 i8, .int .i64 i9, .int .i64 ix], .int .i64 (wrap64 (a1 + x8_1))] rfl (by (try simp only [List.map_toArray, List.map_cons, List.map_nil]); first | done | rfl | (simp only [List.length_drop, List.length_take]; rfl)) ?_; (with_reducible refine (revetmentref08_Of.calls k1 i0 i1 i2 i3 i4 i5 i6 i7 i8 i9 ix (wrap64 (a1 + x8_1)) t155 t156 t157 t158 t159 t160 _ A10.out).mono ?_); rintro e w29 ⟨rfl, hb⟩; refine ⟨_, rfl, ?_⟩; replace HO_7 := Aside0.mk (Kd.R_below (by (with_reducible repeat (first | apply Kd.R_alloc | apply Kd.R_drewN | apply Kd.R_drew)); exact HO_7.out) hb); replace BK153 := bkb BK153 hb; replace HB := bst HB hb; (try clear hb); (try clear hb2); (try clear hk); (try clear hi)) | ((with_reducible refine jD_ (N := 9) rfl ?_); refine jB_ ?hg (N := 9) ?hd (cs := #[.int .i64 0, .int .i64 0, .int .i64 0, .int .i64 0, .int .i64 0]) (t := 163) ?hr ?_; (case hd => rfl); (case hg => rfl); (case hr => first | (go_simp; done) | (go_simp; rfl)); intro gb161 hg w30 hbox hb; have BK161 := Aside0.mk (hbox); have GW161 := Aside0.mk ((by rw [hg]; exact (ji_ (bl HB)) : w.heap.size <= gb161)); have GE161 := Aside0.mk ((by rw [hg]; exact (ji_ (bl HB)) : w.heap.size <= gb161)); have NB153_161 := Aside0.mk ((by rw [hg]; exact Nat.ne_of_lt (jX_ (g := gb153) (o := .cells #[.int .i64 i0, .int .i64 i1, .int .i64 i2, .int .i64 i3, .int .i64 i4, .int .i64 i5, .int .i64 i6, .int .i64 i7, .int .i64 i8, .int .i64 i9, .int .i64 ix] 23 (0, 0)) (by (with_reducible repeat (first | refine jf_ ?_ _ | refine jd_ ?_ | refine ja_ ?_ _)); exact BK153.out)) : gb153 ≠ gb161)); have NB161_153 := Aside0.mk ((by rw [hg]; exact Nat.ne_of_gt (jX_ (g := gb153) (o := .cells #[.int .i64 i0, .int .i64 i1, .int .i64 i2, .int .i64 i3, .int .i64 i4, .int .i64 i5, .int .i64 i6, .int .i64 i7, .int .i64 i8, .int .i64 i9, .int .i64 ix] 23 (0, 0)) (by (with_reducible repeat (first | refine jf_ ?_ _ | refine jd_ ?_ | refine ja_ ?_ _)); exact BK153.out)) : gb161 ≠ gb153)); replace HO_7 := Aside0.mk (Kd.R_below (by (with_reducible repeat (first | apply Kd.R_alloc | apply Kd.R_drewN | apply Kd.R_drew)); exact HO_7.out) hb); replace BK153 := bkb BK153 hb; replace HB := bst HB hb; clear hb hbox hg; have hnb31 := NB161_153.out; have hnc31 := NB153_161.out; obtain ⟨hcz32_0, hcz32_1, hcz32_2, hcz32_3, hcz32_4⟩ := cz5 BK161.out; obtain ⟨hfz32_0, hfz32_1, hfz32_2, hfz32_3, hfz32_4⟩ := fz5 BK161.out) | ((with_reducible refine ki_ (b := .append) (xs := #[.tmp 30, .tmp 39]) rfl ?_); at_builtin; refine Kd.R_append k143 (w0 := w) w.heap.size rfl (.tmp 30) (.tmp 39) 140 143 (.agg #[(.bool false), (.int .i64 0), (.int .i64 0), (.int .i64 0), (.int .i64 0)]) 40 rfl Try.underlying140 zO_ rfl (by decide) (by omega) u7 x7_1 (⟨false, t158, t159, wrap64 (a1 + x8_1), 1⟩ : S143) [.bool false, .int .i64 t158, .int .i64 t159, .int .i64 (wrap64 (a1 + x8_1)), .int .i64 1] (fun _ => True) (fun _ => False) rfl (by first | (go_simp; done) | (go_simp; rfl)) ?aP (fun _ hk => hk.elim) ?aF ?aO ?aB ?aS ?aL ?_; (case aP => exact xY_ _ _ _ (⟨false, t158, t159, wrap64 (a1 + x8_1), 1⟩ : S143)); (case aB => exact (bl HB)); (case aF => exact (fun _ _ => trivial)); (case aO => exact (by (with_reducible repeat (first | apply Kd.R_alloc | apply Kd.R_drewN | apply Kd.R_drew)); exact Kd.R_mono (Kd.R_far (p := ⟨gb161, 4, none⟩) (Kd.R_far (p := ⟨gb161, 3, none⟩) (Kd.R_far (p := ⟨gb161, 2, none⟩) (Kd.R_far (p := ⟨gb161, 1, none⟩) (Kd.R_far (p := ⟨gb161, 0, none⟩) (Kd.R_types HO_7.out BK161.out (by decide)) (fun _ hk => hk.2) (.int .i64 t155)) (fun _ hk => hk.2) (.int .i64 t156)) (fun _ hk => hk.2) (.int .i64 t157)) (fun _ hk => hk.2) (.int .i64 t158)) (fun _ hk => hk.2) (.int .i64 t159)) (fun _ hk => trivial))); (case aS => exact (ji_ (bl HB))); (case aL => have := LMc11.out; omega); intro v163 w33 ho hb hg hat; rw [<- Ny162.out] at ho; have HO164 := Aside0.mk (ho); replace BK153 := Aside0.mk (kV_ (g := gb153) (o := .cells #[.int .i64 i0, .int .i64 i1, .int .i64 i2, .int .i64 i3, .int .i64 i4, .int .i64 i5, .int .i64 i6, .int .i64 i7, .int .i64 i8, .int .i64 i9, .int .i64 ix] 23 (0, 0)) (by (with_reducible repeat (first | refine jf_ ?_ _ | refine jd_ ?_ | refine ja_ ?_ _)); refine jv_ ?_ NB153_161.out _; (with_reducible repeat (first | refine jf_ ?_ _ | refine jd_ ?_ | refine ja_ ?_ _)); refine jv_ ?_ NB153_161.out _; (with_reducible repeat (first | refine jf_ ?_ _ | refine jd_ ?_ | refine ja_ ?_ _)); refine jv_ ?_ NB153_161.out _; (with_reducible repeat (first | refine jf_ ?_ _ | refine jd_ ?_ | refine ja_ ?_ _)); refine jv_ ?_ NB153_161.out _; (with_reducible repeat (first | refine jf_ ?_ _ | refine jd_ ?_ | refine ja_ ?_ _)); refine jv_ ?_ NB153_161.out _; (with_reducible repeat (first | refine jf_ ?_ _ | refine jd_ ?_ | refine ja_ ?_ _)); exact BK153.out) hg (Kd.R_ne HO_7.out BK153.out (by decide))); replace BK161 := Aside0.mk (kV_ (g := gb161) (o := .cells #[.int .i64 t155, .int .i64 t156, .int .i64 t157, .int .i64 t158, .int .i64 t159] 163 (0, 0)) (by (with_reducible repeat (first | refine jf_ ?_ _ | refine jd_ ?_ | refine ja_ ?_ _)); refine js_ (cs := #[.int .i64 t155, .int .i64 t156, .int .i64 t157, .int .i64 t158, .int .i64 0]) ?_ 4 _ rfl; (with_reducible repeat (first | refine jf_ ?_ _ | refine jd_ ?_ | refine ja_ ?_ _)); refine js_ (cs := #[.int .i64 t155, .int .i64 t156, .int .i64 t157, .int .i64 0, .int .i64 0]) ?_ 3 _ rfl; (with_reducible repeat (first | refine jf_ ?_ _ | refine jd_ ?_ | refine ja_ ?_ _)); refine js_ (cs := #[.int .i64 t155, .int .i64 t156, .int .i64 0, .int .i64 0, .int .i64 0]) ?_ 2 _ rfl; (with_reducible repeat (first | refine jf_ ?_ _ | refine jd_ ?_ | refine ja_ ?_ _)); refine js_ (cs := #[.int .i64 t155, .int .i64 0, .int .i64 0, .int .i64 0, .int .i64 0]) ?_ 1 _ rfl; (with_reducible repeat (first | refine jf_ ?_ _ | refine jd_ ?_ | refine ja_ ?_ _)); refine js_ (cs := #[.int .i64 0, .int .i64 0, .int .i64 0, .int .i64 0, .int .i64 0]) ?_ 0 _ rfl; (with_reducible repeat (first | refine jf_ ?_ _ | refine jd_ ?_ | refine ja_ ?_ _)); exact BK161.out) hg (Kd.R_ne HO_7.out BK161.out (by decide))); replace HB := Aside0.mk (hb); clear HO_7; clear ho hb hg hat; obtain ⟨hcz34_0, hcz34_1, hcz34_2, hcz34_3, hcz34_4⟩ := cz5 BK161.out; obtain ⟨hfz34_0, hfz34_1, hfz34_2, hfz34_3, hfz34_4⟩ := fz5 BK161.out; obtain ⟨hcz35_0, hcz35_1, hcz35_2, hcz35_3, hcz35_4, hcz35_5, hcz35_6, hcz35_7, hcz35_8, hcz35_9, hcz35_10⟩ := cz11 BK153.out))
        go_roundg k1
        case measure => have := HK1.out; omega
        case rel => exact ⟨(y162), (wrap64 (x8_1 + 1)), (by first | rfl | (simp; done) | (simp [*]; done)), H', ⟨by have := HK1.out; omega⟩, ⟨by (with_reducible repeat (first | apply Kd.R_alloc | apply Kd.R_drewN | apply Kd.R_drew)); exact HO164.out⟩, ⟨by (with_reducible repeat (first | refine jf_ ?_ _ | refine jd_ ?_ | refine ja_ ?_ _)); exact BK153.out⟩, ⟨bl HB⟩⟩
      ·rw [if_neg c12] at H
       have c12b0 : (t156 == (wrap64 (i1 - 2))) = false := beq_eq_false_iff_ne.mpr c12
       have c12b1 : (t156 != (wrap64 (i1 - 2))) = true := bne_iff_ne.mpr c12
       have H' := Aside0.mk H
       clear H
       obtain ⟨hcz36_0, hcz36_1, hcz36_2, hcz36_3, hcz36_4, hcz36_5, hcz36_6, hcz36_7, hcz36_8, hcz36_9, hcz36_10⟩ := cz11 BK153.out
       go_wp2_with (first | ((with_reducible refine jy_ (f := 115) rfl ?_); refine kh_ (some 27) rfl rfl Try.func115 (by kernel_rfl) rfl #[.agg #[.int .i64 i0, .int .i64 i1, .int .i64 i2, .int .i64 i3, .int .i64 i4, .int .i64 i5, .int .i64 i6, .int .i64 i7, .int .i64 i8, .int .i64 i9, .int .i64 ix], .int .i64 (wrap64 (a1 + x8_1))] rfl (by (try simp only [List.map_toArray, List.map_cons, List.map_nil]); first | done | rfl | (simp only [List.length_drop, List.length_take]; rfl)) ?_; (with_reducible refine (revetmentref08_Of.calls k1 i0 i1 i2 i3 i4 i5 i6 i7 i8 i9 ix (wrap64 (a1 + x8_1)) t155 t156 t157 t158 t159 t160 _ A10.out).mono ?_); rintro e w37 ⟨rfl, hb⟩; refine ⟨_, rfl, ?_⟩; replace HO_7 := Aside0.mk (Kd.R_below (by (with_reducible repeat (first | apply Kd.R_alloc | apply Kd.R_drewN | apply Kd.R_drew)); exact HO_7.out) hb); replace BK153 := bkb BK153 hb; replace HB := bst HB hb; (try clear hb); (try clear hb2); (try clear hk); (try clear hi)) | ((with_reducible refine jD_ (N := 9) rfl ?_); refine jB_ ?hg (N := 9) ?hd (cs := #[.int .i64 0, .int .i64 0, .int .i64 0, .int .i64 0, .int .i64 0]) (t := 163) ?hr ?_; (case hd => rfl); (case hg => rfl); (case hr => first | (go_simp; done) | (go_simp; rfl)); intro gb161 hg w38 hbox hb; have BK161 := Aside0.mk (hbox); have GW161 := Aside0.mk ((by rw [hg]; exact (ji_ (bl HB)) : w.heap.size <= gb161)); have GE161 := Aside0.mk ((by rw [hg]; exact (ji_ (bl HB)) : w.heap.size <= gb161)); have NB153_161 := Aside0.mk ((by rw [hg]; exact Nat.ne_of_lt (jX_ (g := gb153) (o := .cells #[.int .i64 i0, .int .i64 i1, .int .i64 i2, .int .i64 i3, .int .i64 i4, .int .i64 i5, .int .i64 i6, .int .i64 i7, .int .i64 i8, .int .i64 i9, .int .i64 ix] 23 (0, 0)) (by (with_reducible repeat (first | refine jf_ ?_ _ | refine jd_ ?_ | refine ja_ ?_ _)); exact BK153.out)) : gb153 ≠ gb161)); have NB161_153 := Aside0.mk ((by rw [hg]; exact Nat.ne_of_gt (jX_ (g := gb153) (o := .cells #[.int .i64 i0, .int .i64 i1, .int .i64 i2, .int .i64 i3, .int .i64 i4, .int .i64 i5, .int .i64 i6, .int .i64 i7, .int .i64 i8, .int .i64 i9, .int .i64 ix] 23 (0, 0)) (by (with_reducible repeat (first | refine jf_ ?_ _ | refine jd_ ?_ | refine ja_ ?_ _)); exact BK153.out)) : gb161 ≠ gb153)); replace HO_7 := Aside0.mk (Kd.R_below (by (with_reducible repeat (first | apply Kd.R_alloc | apply Kd.R_drewN | apply Kd.R_drew)); exact HO_7.out) hb); replace BK153 := bkb BK153 hb; replace HB := bst HB hb; clear hb hbox hg; have hnb39 := NB161_153.out; have hnc39 := NB153_161.out; obtain ⟨hcz40_0, hcz40_1, hcz40_2, hcz40_3, hcz40_4⟩ := cz5 BK161.out; obtain ⟨hfz40_0, hfz40_1, hfz40_2, hfz40_3, hfz40_4⟩ := fz5 BK161.out) | ((with_reducible refine ki_ (b := .append) (xs := #[.tmp 30, .tmp 39]) rfl ?_); at_builtin; refine Kd.R_append k143 (w0 := w) w.heap.size rfl (.tmp 30) (.tmp 39) 140 143 (.agg #[(.bool false), (.int .i64 0), (.int .i64 0), (.int .i64 0), (.int .i64 0)]) 40 rfl Try.underlying140 zO_ rfl (by decide) (by omega) u7 x7_1 (⟨false, t158, t159, wrap64 (a1 + x8_1), 1⟩ : S143) [.bool false, .int .i64 t158, .int .i64 t159, .int .i64 (wrap64 (a1 + x8_1)), .int .i64 1] (fun _ => True) (fun _ => False) rfl (by first | (go_simp; done) | (go_simp; rfl)) ?aP (fun _ hk => hk.elim) ?aF ?aO ?aB ?aS ?aL ?_; (case aP => exact xY_ _ _ _ (⟨false, t158, t159, wrap64 (a1 + x8_1), 1⟩ : S143)); (case aB => exact (bl HB)); (case aF => exact (fun _ _ => trivial)); (case aO => exact (by (with_reducible repeat (first | apply Kd.R_alloc | apply Kd.R_drewN | apply Kd.R_drew)); exact Kd.R_mono (Kd.R_far (p := ⟨gb161, 4, none⟩) (Kd.R_far (p := ⟨gb161, 3, none⟩) (Kd.R_far (p := ⟨gb161, 2, none⟩) (Kd.R_far (p := ⟨gb161, 1, none⟩) (Kd.R_far (p := ⟨gb161, 0, none⟩) (Kd.R_types HO_7.out BK161.out (by decide)) (fun _ hk => hk.2) (.int .i64 t155)) (fun _ hk => hk.2) (.int .i64 t156)) (fun _ hk => hk.2) (.int .i64 t157)) (fun _ hk => hk.2) (.int .i64 t158)) (fun _ hk => hk.2) (.int .i64 t159)) (fun _ hk => trivial))); (case aS => exact (ji_ (bl HB))); (case aL => have := LMc11.out; omega); intro v163 w41 ho hb hg hat; rw [<- Ny162.out] at ho; have HO164 := Aside0.mk (ho); replace BK153 := Aside0.mk (kV_ (g := gb153) (o := .cells #[.int .i64 i0, .int .i64 i1, .int .i64 i2, .int .i64 i3, .int .i64 i4, .int .i64 i5, .int .i64 i6, .int .i64 i7, .int .i64 i8, .int .i64 i9, .int .i64 ix] 23 (0, 0)) (by (with_reducible repeat (first | refine jf_ ?_ _ | refine jd_ ?_ | refine ja_ ?_ _)); refine jv_ ?_ NB153_161.out _; (with_reducible repeat (first | refine jf_ ?_ _ | refine jd_ ?_ | refine ja_ ?_ _)); refine jv_ ?_ NB153_161.out _; (with_reducible repeat (first | refine jf_ ?_ _ | refine jd_ ?_ | refine ja_ ?_ _)); refine jv_ ?_ NB153_161.out _; (with_reducible repeat (first | refine jf_ ?_ _ | refine jd_ ?_ | refine ja_ ?_ _)); refine jv_ ?_ NB153_161.out _; (with_reducible repeat (first | refine jf_ ?_ _ | refine jd_ ?_ | refine ja_ ?_ _)); refine jv_ ?_ NB153_161.out _; (with_reducible repeat (first | refine jf_ ?_ _ | refine jd_ ?_ | refine ja_ ?_ _)); exact BK153.out) hg (Kd.R_ne HO_7.out BK153.out (by decide))); replace BK161 := Aside0.mk (kV_ (g := gb161) (o := .cells #[.int .i64 t155, .int .i64 t156, .int .i64 t157, .int .i64 t158, .int .i64 t159] 163 (0, 0)) (by (with_reducible repeat (first | refine jf_ ?_ _ | refine jd_ ?_ | refine ja_ ?_ _)); refine js_ (cs := #[.int .i64 t155, .int .i64 t156, .int .i64 t157, .int .i64 t158, .int .i64 0]) ?_ 4 _ rfl; (with_reducible repeat (first | refine jf_ ?_ _ | refine jd_ ?_ | refine ja_ ?_ _)); refine js_ (cs := #[.int .i64 t155, .int .i64 t156, .int .i64 t157, .int .i64 0, .int .i64 0]) ?_ 3 _ rfl; (with_reducible repeat (first | refine jf_ ?_ _ | refine jd_ ?_ | refine ja_ ?_ _)); refine js_ (cs := #[.int .i64 t155, .int .i64 t156, .int .i64 0, .int .i64 0, .int .i64 0]) ?_ 2 _ rfl; (with_reducible repeat (first | refine jf_ ?_ _ | refine jd_ ?_ | refine ja_ ?_ _)); refine js_ (cs := #[.int .i64 t155, .int .i64 0, .int .i64 0, .int .i64 0, .int .i64 0]) ?_ 1 _ rfl; (with_reducible repeat (first | refine jf_ ?_ _ | refine jd_ ?_ | refine ja_ ?_ _)); refine js_ (cs := #[.int .i64 0, .int .i64 0, .int .i64 0, .int .i64 0, .int .i64 0]) ?_ 0 _ rfl; (with_reducible repeat (first | refine jf_ ?_ _ | refine jd_ ?_ | refine ja_ ?_ _)); exact BK161.out) hg (Kd.R_ne HO_7.out BK161.out (by decide))); replace HB := Aside0.mk (hb); clear HO_7; clear ho hb hg hat; obtain ⟨hcz42_0, hcz42_1, hcz42_2, hcz42_3, hcz42_4⟩ := cz5 BK161.out; obtain ⟨hfz42_0, hfz42_1, hfz42_2, hfz42_3, hfz42_4⟩ := fz5 BK161.out; obtain ⟨hcz43_0, hcz43_1, hcz43_2, hcz43_3, hcz43_4, hcz43_5, hcz43_6, hcz43_7, hcz43_8, hcz43_9, hcz43_10⟩ := cz11 BK153.out))
       go_roundg k1
       case measure => have := HK1.out; omega
       case rel => exact ⟨(y162), (wrap64 (x8_1 + 1)), (by first | rfl | (simp; done) | (simp [*]; done)), H', ⟨by have := HK1.out; omega⟩, ⟨by (with_reducible repeat (first | apply Kd.R_alloc | apply Kd.R_drewN | apply Kd.R_drew)); exact HO164.out⟩, ⟨by (with_reducible repeat (first | refine jf_ ?_ _ | refine jd_ ?_ | refine ja_ ?_ _)); exact BK153.out⟩, ⟨bl HB⟩⟩
     ·rw [if_neg c11] at H
      exact absurd H (by simp)
    ·rw [if_neg c9] at H
     have c9b0 : decide (x8_1 < a2) = false := decide_eq_false c9
     clear c9
     obtain rfl := Option.some.inj H
     go_wp2
     go_ret
     exact ⟨_, by first | rfl | (simp [jq_, jp_] <;> rfl) | (simp [*, jq_, jp_] <;> rfl), by (with_reducible repeat (first | apply Kd.R_alloc | apply Kd.R_drewN | apply Kd.R_drew)); exact HO_7.out, bl HB⟩
 ·replace c5 := Bool.eq_false_iff.mpr c5
  subst c5
  have H1 : (some ([] : List (S143))) = some r := by rw [if_neg (show ¬ (false = true) by decide)] at H; exact H
  clear H
  have H := H1
  clear H1
  obtain rfl := Option.some.inj H
  go_enter Try.func96, Try.ntmps96
  go_wp2_with (first | ((with_reducible refine jD_ (N := 3) rfl ?_); refine jB_ ?hg (N := 3) ?hd (cs := #[.int .i64 i0, .int .i64 i1, .int .i64 i2, .int .i64 i3, .int .i64 i4, .int .i64 i5, .int .i64 i6, .int .i64 i7, .int .i64 i8, .int .i64 i9, .int .i64 ix]) (t := 23) ?hr ?_; (case hd => rfl); (case hg => rfl); (case hr => first | (go_simp; done) | (go_simp; rfl)); intro gb153 hg w44 hbox hb; have BK153 := Aside0.mk (hbox); have GW153 := Aside0.mk ((by rw [hg]; exact (ji_ (bl HB)) : w.heap.size <= gb153)); have GE153 := Aside0.mk ((by rw [hg]; exact (ji_ (bl HB)) : w.heap.size <= gb153)); replace HB := bst HB hb; clear hb hbox hg; obtain ⟨hcz45_0, hcz45_1, hcz45_2, hcz45_3, hcz45_4, hcz45_5, hcz45_6, hcz45_7, hcz45_8, hcz45_9, hcz45_10⟩ := cz11 BK153.out) | ((with_reducible refine jy_ (f := 114) rfl ?_); refine kh_ (some 15) rfl rfl Try.func114 (by kernel_rfl) rfl #[.agg #[.int .i64 i0, .int .i64 i1, .int .i64 i2, .int .i64 i3, .int .i64 i4, .int .i64 i5, .int .i64 i6, .int .i64 i7, .int .i64 i8, .int .i64 i9, .int .i64 ix], .int .i64 a1, .int .i64 a2] rfl (by (try simp only [List.map_toArray, List.map_cons, List.map_nil]); first | done | rfl | (simp only [List.length_drop, List.length_take]; rfl)) ?_; (with_reducible refine (revetmentref09_Right.calls i0 i1 i2 i3 i4 i5 i6 i7 i8 i9 ix a1 a2 false _ A4.out).mono ?_); rintro e w46 ⟨rfl, hb⟩; refine ⟨_, rfl, ?_⟩; replace BK153 := bkb BK153 hb; replace HB := bst HB hb; (try clear hb); (try clear hb2); (try clear hk); (try clear hi)))
  go_ret
  exact ⟨_, by first | rfl | (simp [jq_, jp_] <;> rfl) | (simp [*, jq_, jp_] <;> rfl), by first | exact Kd.R_nil _ _ _ _ _ | exact Kd.N_nil _ _ _ _ _ | exact Kd.V_nil _ _ _ _ _ | exact Kd.Q_nil _ _ _ _ _ | exact Kd.S_nil _ _ _ _ _, bl HB⟩
end Go.Proofs.Ytgckcaoncjhgbaa.PG
