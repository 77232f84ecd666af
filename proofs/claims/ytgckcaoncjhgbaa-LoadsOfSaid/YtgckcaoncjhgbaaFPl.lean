/- Printed by the kit's print over stand-ins for some functions (xprint.py), with contracts of my own in their place. -/
/- Printed by the kit's print over stand-ins for some functions (xprint.py), with contracts of my own in their place. -/
/- Printed by the kit's print over stand-ins for some functions (xprint.py), with contracts of my own in their place. -/
/- Printed by the kit's print over stand-ins for some functions (xprint.py), with contracts of my own in their place. -/
import Derived.Test.YtgckcaoncjhgbaaPLx0
import Derived.Test.YtgckcaoncjhgbaaWRepsOne
import Derived.Test.YtgckcaoncjhgbaaConfCheck
import Derived.Test.YtgckcaoncjhgbaaFRc
set_option maxHeartbeats 8000000
set_option maxRecDepth 100000
namespace Go.Proofs.Ytgckcaoncjhgbaa.PL
open Go.RowKit Go.Proofs.YtgckcaoncjhgbaaW.PrintWords Go.Proofs.YtgckcaoncjhgbaaW.PrintLast
set_option linter.unusedVariables false
set_option linter.unusedSimpArgs false
def conf_Plain.f  : Option (Int × Int × Int × Int × Int × Int × Int × Int × Int × Int × Int) := some (7, 4, 2, 64, 24, 3, 1, 3, 2, 3, 7)
theorem conf_Plain.calls  (r1 r2 r3 r4 r5 r6 r7 r8 r9 r10 r11 : Int) (w : World) (h : conf_Plain.f  = some (r1, r2, r3, r4, r5, r6, r7, r8, r9, r10, r11)) :
  Calls Try.prog 55 #[] w fun e w' => e = .returned (.agg #[.int .i64 r1, .int .i64 r2, .int .i64 r3, .int .i64 r4, .int .i64 r5, .int .i64 r6, .int .i64 r7, .int .i64 r8, .int .i64 r9, .int .i64 r10, .int .i64 r11]) /\ Below w.heap.size w w' := by
 have hu23 := Try.underlying23
 have HB := Aside0.mk (Below.refl w.heap.size w)
 have H : (some (7, 4, 2, 64, 24, 3, 1, 3, 2, 3, 7)) = some (r1, r2, r3, r4, r5, r6, r7, r8, r9, r10, r11) := h
 clear h
 simp only [Option.some.injEq, Prod.mk.injEq] at H
 obtain ⟨rfl, rfl, rfl, rfl, rfl, rfl, rfl, rfl, rfl, rfl, rfl⟩ := H
 go_enter Try.func55, Try.ntmps55
 go_wp2_with (first | ((with_reducible refine jD_ (N := 0) rfl ?_); refine jB_ ?hg (N := 0) ?hd (cs := #[.int .i64 0, .int .i64 0, .int .i64 0, .int .i64 0, .int .i64 0, .int .i64 0, .int .i64 0, .int .i64 0, .int .i64 0, .int .i64 0, .int .i64 0]) (t := 23) ?hr ?_; (case hd => rfl); (case hg => rfl); (case hr => first | (go_simp; done) | (go_simp; rfl)); intro gb110 hg w1 hbox hb; have BK110 := Aside0.mk (hbox); have GW110 := Aside0.mk ((by rw [hg]; exact (ji_ (bl HB)) : w.heap.size <= gb110)); have GE110 := Aside0.mk ((by rw [hg]; exact (ji_ (bl HB)) : w.heap.size <= gb110)); replace HB := bst HB hb; clear hb hbox hg; have hcz2_0 : w1.cell? ⟨gb110, 0, none⟩ = some (.int .i64 0) := (je_ BK110.out 0).trans rfl; have hcz2_1 : w1.cell? ⟨gb110, 1, none⟩ = some (.int .i64 0) := (je_ BK110.out 1).trans rfl; have hcz2_2 : w1.cell? ⟨gb110, 2, none⟩ = some (.int .i64 0) := (je_ BK110.out 2).trans rfl; have hcz2_3 : w1.cell? ⟨gb110, 3, none⟩ = some (.int .i64 0) := (je_ BK110.out 3).trans rfl; have hcz2_4 : w1.cell? ⟨gb110, 4, none⟩ = some (.int .i64 0) := (je_ BK110.out 4).trans rfl; have hcz2_5 : w1.cell? ⟨gb110, 5, none⟩ = some (.int .i64 0) := (je_ BK110.out 5).trans rfl; have hcz2_6 : w1.cell? ⟨gb110, 6, none⟩ = some (.int .i64 0) := (je_ BK110.out 6).trans rfl; have hcz2_7 : w1.cell? ⟨gb110, 7, none⟩ = some (.int .i64 0) := (je_ BK110.out 7).trans rfl; have hcz2_8 : w1.cell? ⟨gb110, 8, none⟩ = some (.int .i64 0) := (je_ BK110.out 8).trans rfl; have hcz2_9 : w1.cell? ⟨gb110, 9, none⟩ = some (.int .i64 0) := (je_ BK110.out 9).trans rfl; have hcz2_10 : w1.cell? ⟨gb110, 10, none⟩ = some (.int .i64 0) := (je_ BK110.out 10).trans rfl; have hfz2_0 := jh_ BK110.out 0; have hfz2_1 := jh_ BK110.out 1; have hfz2_2 := jh_ BK110.out 2; have hfz2_3 := jh_ BK110.out 3; have hfz2_4 := jh_ BK110.out 4; have hfz2_5 := jh_ BK110.out 5; have hfz2_6 := jh_ BK110.out 6; have hfz2_7 := jh_ BK110.out 7; have hfz2_8 := jh_ BK110.out 8; have hfz2_9 := jh_ BK110.out 9; have hfz2_10 := jh_ BK110.out 10))
 refine bodyPost_ret (results_cell_row rfl _ _ gb110 23 #[.int .i64 7, .int .i64 4, .int .i64 2, .int .i64 64, .int .i64 24, .int .i64 3, .int .i64 1, .int .i64 3, .int .i64 2, .int .i64 3, .int .i64 7] (0, 0) _ rfl (by (with_reducible repeat (first | refine jf_ ?_ _ | refine jd_ ?_ | refine ja_ ?_ _)); refine js_ (cs := #[.int .i64 7, .int .i64 4, .int .i64 2, .int .i64 64, .int .i64 24, .int .i64 3, .int .i64 1, .int .i64 3, .int .i64 2, .int .i64 3, .int .i64 0]) ?_ 10 _ rfl; (with_reducible repeat (first | refine jf_ ?_ _ | refine jd_ ?_ | refine ja_ ?_ _)); refine js_ (cs := #[.int .i64 7, .int .i64 4, .int .i64 2, .int .i64 64, .int .i64 24, .int .i64 3, .int .i64 1, .int .i64 3, .int .i64 2, .int .i64 0, .int .i64 0]) ?_ 9 _ rfl; (with_reducible repeat (first | refine jf_ ?_ _ | refine jd_ ?_ | refine ja_ ?_ _)); refine js_ (cs := #[.int .i64 7, .int .i64 4, .int .i64 2, .int .i64 64, .int .i64 24, .int .i64 3, .int .i64 1, .int .i64 3, .int .i64 0, .int .i64 0, .int .i64 0]) ?_ 8 _ rfl; (with_reducible repeat (first | refine jf_ ?_ _ | refine jd_ ?_ | refine ja_ ?_ _)); refine js_ (cs := #[.int .i64 7, .int .i64 4, .int .i64 2, .int .i64 64, .int .i64 24, .int .i64 3, .int .i64 1, .int .i64 0, .int .i64 0, .int .i64 0, .int .i64 0]) ?_ 7 _ rfl; (with_reducible repeat (first | refine jf_ ?_ _ | refine jd_ ?_ | refine ja_ ?_ _)); refine js_ (cs := #[.int .i64 7, .int .i64 4, .int .i64 2, .int .i64 64, .int .i64 24, .int .i64 3, .int .i64 0, .int .i64 0, .int .i64 0, .int .i64 0, .int .i64 0]) ?_ 6 _ rfl; (with_reducible repeat (first | refine jf_ ?_ _ | refine jd_ ?_ | refine ja_ ?_ _)); refine js_ (cs := #[.int .i64 7, .int .i64 4, .int .i64 2, .int .i64 64, .int .i64 24, .int .i64 0, .int .i64 0, .int .i64 0, .int .i64 0, .int .i64 0, .int .i64 0]) ?_ 5 _ rfl; (with_reducible repeat (first | refine jf_ ?_ _ | refine jd_ ?_ | refine ja_ ?_ _)); refine js_ (cs := #[.int .i64 7, .int .i64 4, .int .i64 2, .int .i64 64, .int .i64 0, .int .i64 0, .int .i64 0, .int .i64 0, .int .i64 0, .int .i64 0, .int .i64 0]) ?_ 4 _ rfl; (with_reducible repeat (first | refine jf_ ?_ _ | refine jd_ ?_ | refine ja_ ?_ _)); refine js_ (cs := #[.int .i64 7, .int .i64 4, .int .i64 2, .int .i64 0, .int .i64 0, .int .i64 0, .int .i64 0, .int .i64 0, .int .i64 0, .int .i64 0, .int .i64 0]) ?_ 3 _ rfl; (with_reducible repeat (first | refine jf_ ?_ _ | refine jd_ ?_ | refine ja_ ?_ _)); refine js_ (cs := #[.int .i64 7, .int .i64 4, .int .i64 0, .int .i64 0, .int .i64 0, .int .i64 0, .int .i64 0, .int .i64 0, .int .i64 0, .int .i64 0, .int .i64 0]) ?_ 2 _ rfl; (with_reducible repeat (first | refine jf_ ?_ _ | refine jd_ ?_ | refine ja_ ?_ _)); refine js_ (cs := #[.int .i64 7, .int .i64 0, .int .i64 0, .int .i64 0, .int .i64 0, .int .i64 0, .int .i64 0, .int .i64 0, .int .i64 0, .int .i64 0, .int .i64 0]) ?_ 1 _ rfl; (with_reducible repeat (first | refine jf_ ?_ _ | refine jd_ ?_ | refine ja_ ?_ _)); refine js_ (cs := #[.int .i64 0, .int .i64 0, .int .i64 0, .int .i64 0, .int .i64 0, .int .i64 0, .int .i64 0, .int .i64 0, .int .i64 0, .int .i64 0, .int .i64 0]) ?_ 0 _ rfl; (with_reducible repeat (first | refine jf_ ?_ _ | refine jd_ ?_ | refine ja_ ?_ _)); exact BK110.out) Try.underlying23 rfl (by kernel_rfl)) rfl ?_
 exact ⟨by first | rfl | (simp [jq_, jp_] <;> rfl) | (simp [*, jq_, jp_] <;> rfl), bl HB⟩
def conf_Stripes.f (i0 i1 i2 i3 i4 i5 i6 i7 i8 i9 ix : Int) : Option (Int) := some (vH_ i1 i2 i3 i4 i5 i6 i7 i8 i9 ix)
theorem conf_Stripes.calls (i0 i1 i2 i3 i4 i5 i6 i7 i8 i9 ix r : Int) (w : World) (h : conf_Stripes.f i0 i1 i2 i3 i4 i5 i6 i7 i8 i9 ix = some r) :
  Calls Try.prog 106 #[.agg #[.int .i64 i0, .int .i64 i1, .int .i64 i2, .int .i64 i3, .int .i64 i4, .int .i64 i5, .int .i64 i6, .int .i64 i7, .int .i64 i8, .int .i64 i9, .int .i64 ix]] w fun e w' => e = .returned (.int .i64 r) /\ Below w.heap.size w w' := by
 simp only [conf_Stripes.f, Option.some.injEq] at h; subst h
 exact zz_ i0 i1 i2 i3 i4 i5 i6 i7 i8 i9 ix w
def conf_Row.f (i0 i1 i2 i3 i4 i5 i6 i7 i8 i9 ix : Int) : Option (Int) := some (rowC i1 i2 i3 i4 i5 i6 i7 i8 i9 ix)
theorem conf_Row.calls (i0 i1 i2 i3 i4 i5 i6 i7 i8 i9 ix r : Int) (w : World) (h : conf_Row.f i0 i1 i2 i3 i4 i5 i6 i7 i8 i9 ix = some r) :
  Calls Try.prog 107 #[.agg #[.int .i64 i0, .int .i64 i1, .int .i64 i2, .int .i64 i3, .int .i64 i4, .int .i64 i5, .int .i64 i6, .int .i64 i7, .int .i64 i8, .int .i64 i9, .int .i64 ix]] w fun e w' => e = .returned (.int .i64 r) /\ Below w.heap.size w w' := by
 simp only [conf_Row.f, Option.some.injEq] at h; subst h
 exact row_any i0 i1 i2 i3 i4 i5 i6 i7 i8 i9 ix w
def conf_Size.f (i0 i1 i2 i3 i4 i5 i6 i7 i8 i9 ix : Int) : Option (Int) := (conf_Stripes.f i0 i1 i2 i3 i4 i5 i6 i7 i8 i9 ix).bind fun t114 => ((conf_Row.f i0 i1 i2 i3 i4 i5 i6 i7 i8 i9 ix).bind fun t115 => (some (wrap64 (t114 * t115))))
theorem conf_Size.calls (i0 i1 i2 i3 i4 i5 i6 i7 i8 i9 ix r : Int) (w : World) (h : conf_Size.f i0 i1 i2 i3 i4 i5 i6 i7 i8 i9 ix = some r) :
  Calls Try.prog 68 #[.agg #[.int .i64 i0, .int .i64 i1, .int .i64 i2, .int .i64 i3, .int .i64 i4, .int .i64 i5, .int .i64 i6, .int .i64 i7, .int .i64 i8, .int .i64 i9, .int .i64 ix]] w fun e w' => e = .returned (.int .i64 r) /\ Below w.heap.size w w' := by
 have hu23 := Try.underlying23
 have HB := Aside0.mk (Below.refl w.heap.size w)
 have H : ((conf_Stripes.f i0 i1 i2 i3 i4 i5 i6 i7 i8 i9 ix).bind fun t114 => ((conf_Row.f i0 i1 i2 i3 i4 i5 i6 i7 i8 i9 ix).bind fun t115 => (some (wrap64 (t114 * t115))))) = some r := h
 clear h
 replace H := Option.bind_eq_some_iff.mp H
 obtain ⟨t114, A20, H⟩ := H
 replace H : ((conf_Row.f i0 i1 i2 i3 i4 i5 i6 i7 i8 i9 ix).bind fun t115 => (some (wrap64 (t114 * t115)))) = some r := H
 have A2 := Aside0.mk A20
 clear A20
 replace H := Option.bind_eq_some_iff.mp H
 obtain ⟨t115, A30, H⟩ := H
 replace H : (some (wrap64 (t114 * t115))) = some r := H
 have A3 := Aside0.mk A30
 clear A30
 obtain rfl := Option.some.inj H
 go_enter Try.func68, Try.ntmps68
 try go_wp2_with (first | ((with_reducible refine jD_ (N := 1) rfl ?_); refine jB_ ?hg (N := 1) ?hd (cs := #[.int .i64 i0, .int .i64 i1, .int .i64 i2, .int .i64 i3, .int .i64 i4, .int .i64 i5, .int .i64 i6, .int .i64 i7, .int .i64 i8, .int .i64 i9, .int .i64 ix]) (t := 23) ?hr ?_; (case hd => rfl); (case hg => rfl); (case hr => first | (go_simp; done) | (go_simp; rfl)); intro gb113 hg w4 hbox hb; have BK113 := Aside0.mk (hbox); have GW113 := Aside0.mk ((by rw [hg]; exact (ji_ (bl HB)) : w.heap.size <= gb113)); have GE113 := Aside0.mk ((by rw [hg]; exact (ji_ (bl HB)) : w.heap.size <= gb113)); replace HB := bst HB hb; clear hb hbox hg))
 replace BK113 := Aside0.mk (jd_ BK113.out)
 replace HB := Aside0.mk (jC_ HB.out)
 refine jN_ (n := 6) (S := fun w' => w'.cell? ⟨gb113, 0, none⟩ = some (.int .i64 i0) /\ w'.cell? ⟨gb113, 1, none⟩ = some (.int .i64 i1) /\ w'.cell? ⟨gb113, 2, none⟩ = some (.int .i64 i2) /\ w'.cell? ⟨gb113, 3, none⟩ = some (.int .i64 i3) /\ w'.cell? ⟨gb113, 4, none⟩ = some (.int .i64 i4) /\ w'.cell? ⟨gb113, 5, none⟩ = some (.int .i64 i5) /\ w'.cell? ⟨gb113, 6, none⟩ = some (.int .i64 i6) /\ w'.cell? ⟨gb113, 7, none⟩ = some (.int .i64 i7) /\ w'.cell? ⟨gb113, 8, none⟩ = some (.int .i64 i8) /\ w'.cell? ⟨gb113, 9, none⟩ = some (.int .i64 i9) /\ w'.cell? ⟨gb113, 10, none⟩ = some (.int .i64 ix)) (ds := []) #[false, false, false, false, false, false] (by kernel_rfl) rfl rfl (cz11 BK113.out) (fun hHeld => ?_)
 generalize w4.drew = w5 at BK113 HB hHeld ⊢
 refine take_ (i := 0) (N := some 3) (v := ?_) (a' := ?_) #[true, false, false, false, false, false] rfl rfl (by kernel_rfl) (fun _ _ _ h => h) (Or.inl ⟨by rfl, ?_⟩) hHeld ?_ ?_
 rotate_left
 ·rintro w' ⟨s0, s1, s2, s3, s4, s5, s6, s7, s8, s9, s10⟩
  go_simp
  with_reducible rfl
 rotate_left
 ·simp only [pq]
  rfl
 refine take_ (i := 2) (N := some 5) (v := ?_) (a' := ?_) #[true, false, true, false, false, false] rfl rfl (by kernel_rfl) (fun _ _ _ h => h) (Or.inl ⟨by rfl, ?_⟩) hHeld ?_ ?_
 rotate_left
 ·rintro w' ⟨s0, s1, s2, s3, s4, s5, s6, s7, s8, s9, s10⟩
  go_simp
  with_reducible rfl
 rotate_left
 ·simp only [pq]
  rfl
 refine one_ (i := 1) (N := some 4) #[true, true, true, false, false, false] rfl rfl (by kernel_rfl) (by decide) (fun K hK => ?_)
 refine gs Try.func106 #[.agg #[.int .i64 i0, .int .i64 i1, .int .i64 i2, .int .i64 i3, .int .i64 i4, .int .i64 i5, .int .i64 i6, .int .i64 i7, .int .i64 i8, .int .i64 i9, .int .i64 ix]] ?_
 with_reducible refine (conf_Stripes.calls i0 i1 i2 i3 i4 i5 i6 i7 i8 i9 ix t114 _ A2.out).mono ?_
 rintro e w6 ⟨rfl, hb⟩
 refine ⟨_, rfl, ?_⟩
 replace BK113 := bkb BK113 hb
 replace HB := bst HB hb
 try clear hb; try clear hb2; try clear hk; try clear hi
 refine hK.out _ _ sc (fun hHeld => ?_)
 clear hK K
 apply nm 0
 refine one_ (i := 3) (N := some 6) #[true, true, true, true, false, false] rfl rfl (by kernel_rfl) (by decide) (fun K hK => ?_)
 refine gs Try.func107 #[.agg #[.int .i64 i0, .int .i64 i1, .int .i64 i2, .int .i64 i3, .int .i64 i4, .int .i64 i5, .int .i64 i6, .int .i64 i7, .int .i64 i8, .int .i64 i9, .int .i64 ix]] ?_
 with_reducible refine (conf_Row.calls i0 i1 i2 i3 i4 i5 i6 i7 i8 i9 ix t115 _ A3.out).mono ?_
 rintro e w7 ⟨rfl, hb⟩
 refine ⟨_, rfl, ?_⟩
 replace BK113 := bkb BK113 hb
 replace HB := bst HB hb
 try clear hb; try clear hb2; try clear hk; try clear hi
 refine hK.out _ _ sc (fun hHeld => ?_)
 clear hK K
 apply nm 0
 refine pure_ (i := 4) (N := some 7) (v := ?_) (a' := ?_) #[true, true, true, true, true, false] rfl rfl (by kernel_rfl) (fun _ _ _ h => h) (Or.inl ⟨by rfl, ?_⟩) ?_ ?_
 rotate_left
 ·intro w'
  go_simp
  with_reducible rfl
 rotate_left
 ·simp only [pq]
  rfl
 refine pure_ (i := 5) (N := some 2) (v := ?_) (a' := ?_) #[true, true, true, true, true, true] rfl rfl (by kernel_rfl) (fun _ _ _ h => h) (Or.inl ⟨by rfl, ?_⟩) ?_ ?_
 rotate_left
 ·intro w'
  go_simp
  with_reducible rfl
 rotate_left
 ·simp only [pq]
  rfl
 refine kk_ (by kernel_rfl) ?_
 try go_wp2
 go_ret
 exact ⟨by first | rfl | (simp [jq_, jp_] <;> rfl) | (simp [*, jq_, jp_] <;> rfl), bl HB⟩
def revetmentref07_Check.f (i0 i1 i2 i3 i4 i5 i6 i7 i8 i9 ix : Int) : Option (Int) := some (jn_ i0 i1 i2 i3 i4 i5 i6 i7 i8 i9 ix)
theorem revetmentref07_Check.calls (i0 i1 i2 i3 i4 i5 i6 i7 i8 i9 ix r : Int) (w : World) (h : revetmentref07_Check.f i0 i1 i2 i3 i4 i5 i6 i7 i8 i9 ix = some r) :
  Calls Try.prog 13 #[.agg #[.int .i64 i0, .int .i64 i1, .int .i64 i2, .int .i64 i3, .int .i64 i4, .int .i64 i5, .int .i64 i6, .int .i64 i7, .int .i64 i8, .int .i64 i9, .int .i64 ix]] w fun e w' => e = .returned (.int .i64 r) /\ Below w.heap.size w w' := by
 simp only [revetmentref07_Check.f, Option.some.injEq] at h; subst h
 exact rcheck_any i0 i1 i2 i3 i4 i5 i6 i7 i8 i9 ix w
def revetmentref07_Size.f (i0 i1 i2 i3 i4 i5 i6 i7 i8 i9 ix : Int) : Option (Int) := some (kg_ i1 i2 i3 i4 i5 i6 i7 i8 i9 ix)
theorem revetmentref07_Size.calls (i0 i1 i2 i3 i4 i5 i6 i7 i8 i9 ix r : Int) (w : World) (h : revetmentref07_Size.f i0 i1 i2 i3 i4 i5 i6 i7 i8 i9 ix = some r) :
  Calls Try.prog 41 #[.agg #[.int .i64 i0, .int .i64 i1, .int .i64 i2, .int .i64 i3, .int .i64 i4, .int .i64 i5, .int .i64 i6, .int .i64 i7, .int .i64 i8, .int .i64 i9, .int .i64 ix]] w fun e w' => e = .returned (.int .i64 r) /\ Below w.heap.size w w' := by
 simp only [revetmentref07_Size.f, Option.some.injEq] at h; subst h
 exact rsize_any i0 i1 i2 i3 i4 i5 i6 i7 i8 i9 ix w
def conf_Check.f (i0 i1 i2 i3 i4 i5 i6 i7 i8 i9 ix : Int) : Option (Int) := some (jn_ i0 i1 i2 i3 i4 i5 i6 i7 i8 i9 ix)
theorem conf_Check.calls (i0 i1 i2 i3 i4 i5 i6 i7 i8 i9 ix r : Int) (w : World) (h : conf_Check.f i0 i1 i2 i3 i4 i5 i6 i7 i8 i9 ix = some r) :
  Calls Try.prog 52 #[.agg #[.int .i64 i0, .int .i64 i1, .int .i64 i2, .int .i64 i3, .int .i64 i4, .int .i64 i5, .int .i64 i6, .int .i64 i7, .int .i64 i8, .int .i64 i9, .int .i64 ix]] w fun e w' => e = .returned (.int .i64 r) /\ Below w.heap.size w w' := by
 simp only [conf_Check.f, Option.some.injEq] at h; subst h
 exact zT_ i0 i1 i2 i3 i4 i5 i6 i7 i8 i9 ix w
end Go.Proofs.Ytgckcaoncjhgbaa.PL
