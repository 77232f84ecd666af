/- Printed by the kit's print over stand-ins for some functions (xprint.py), with contracts of my own in their place. -/
import Derived.Test.YtgckcaoncjhgbaaPGx0
import Derived.Test.YtgckcaoncjhgbaaConfCheck
set_option maxHeartbeats 8000000
set_option maxRecDepth 100000
namespace Go.Proofs.Ytgckcaoncjhgbaa.PG
open Go.RowKit Go.Proofs.YtgckcaoncjhgbaaW.PrintWords Go.Proofs.YtgckcaoncjhgbaaW.PrintLast
set_option linter.unusedVariables false
set_option linter.unusedSimpArgs false
def conf_Check.f (i0 i1 i2 i3 i4 i5 i6 i7 i8 i9 ix : Int) : Option (Int) := some (jn_ i0 i1 i2 i3 i4 i5 i6 i7 i8 i9 ix)
theorem conf_Check.calls (i0 i1 i2 i3 i4 i5 i6 i7 i8 i9 ix r : Int) (w : World) (h : conf_Check.f i0 i1 i2 i3 i4 i5 i6 i7 i8 i9 ix = some r) :
  Calls Try.prog 52 #[.agg #[.int .i64 i0, .int .i64 i1, .int .i64 i2, .int .i64 i3, .int .i64 i4, .int .i64 i5, .int .i64 i6, .int .i64 i7, .int .i64 i8, .int .i64 i9, .int .i64 ix]] w fun e w' => e = .returned (.int .i64 r) /\ Below w.heap.size w w' := by
 simp only [conf_Check.f, Option.some.injEq] at h; subst h
 exact zT_ i0 i1 i2 i3 i4 i5 i6 i7 i8 i9 ix w
def conf_Stripes.f (i0 i1 i2 i3 i4 i5 i6 i7 i8 i9 ix : Int) : Option (Int) := some (vH_ i1 i2 i3 i4 i5 i6 i7 i8 i9 ix)
theorem conf_Stripes.calls (i0 i1 i2 i3 i4 i5 i6 i7 i8 i9 ix r : Int) (w : World) (h : conf_Stripes.f i0 i1 i2 i3 i4 i5 i6 i7 i8 i9 ix = some r) :
  Calls Try.prog 106 #[.agg #[.int .i64 i0, .int .i64 i1, .int .i64 i2, .int .i64 i3, .int .i64 i4, .int .i64 i5, .int .i64 i6, .int .i64 i7, .int .i64 i8, .int .i64 i9, .int .i64 ix]] w fun e w' => e = .returned (.int .i64 r) /\ Below w.heap.size w w' := by
 simp only [conf_Stripes.f, Option.some.injEq] at h; subst h
 exact zz_ i0 i1 i2 i3 i4 i5 i6 i7 i8 i9 ix w
def conf_Row.f (i0 i1 i2 i3 i4 i5 i6 i7 i8 i9 ix : Int) : Option (Int) := some (rowC i1 i2 i3 i4 i5 i6 i7 i8 i9 ix)
theorem conf_Row.calls (i0 i1 i2 i3 i4 i5 i6 i7 i8 i9 ix r : Int) (w : World) (h : conf_Row.f i0 i1 i2 i3 i4 i5 i6 i7 i8 i9 ix = some r) :
  Calls Try.prog 107 #[.agg #[.int .i64 i0, .int .i64 i1, .int .i64 i2, .int .i64 i3, .int .i64 i4, .int .i64 i5, .int .i64 i6, .int .i64 i7, .int .i64 i8, .int .i64 i9, .int .i64 ix]] w fun e w' => e = .returned (.int .i64 r) /\ Below w.heap.size w w' := by
 simp only [conf_Row.f, Option.some.injEq] at h; subst h
 exact row_any i0 i1 i2 i3 i4 i5 i6 i7 i8 i9 ix w
def conf_Size.f (i0 i1 i2 i3 i4 i5 i6 i7 i8 i9 ix : Int) : Option (Int) := (conf_Stripes.f i0 i1 i2 i3 i4 i5 i6 i7 i8 i9 ix).bind fun t107 => ((conf_Row.f i0 i1 i2 i3 i4 i5 i6 i7 i8 i9 ix).bind fun t108 => (some (wrap64 (t107 * t108))))
theorem conf_Size.calls (i0 i1 i2 i3 i4 i5 i6 i7 i8 i9 ix r : Int) (w : World) (h : conf_Size.f i0 i1 i2 i3 i4 i5 i6 i7 i8 i9 ix = some r) :
  Calls Try.prog 68 #[.agg #[.int .i64 i0, .int .i64 i1, .int .i64 i2, .int .i64 i3, .int .i64 i4, .int .i64 i5, .int .i64 i6, .int .i64 i7, .int .i64 i8, .int .i64 i9, .int .i64 ix]] w fun e w' => e = .returned (.int .i64 r) /\ Below w.heap.size w w' := by
 have hu23 := Try.underlying23
 have HB := Aside0.mk (Below.refl w.heap.size w)
 have H : ((conf_Stripes.f i0 i1 i2 i3 i4 i5 i6 i7 i8 i9 ix).bind fun t107 => ((conf_Row.f i0 i1 i2 i3 i4 i5 i6 i7 i8 i9 ix).bind fun t108 => (some (wrap64 (t107 * t108))))) = some r := h
 clear h
 replace H := Option.bind_eq_some_iff.mp H
 obtain ⟨t107, A20, H⟩ := H
 replace H : ((conf_Row.f i0 i1 i2 i3 i4 i5 i6 i7 i8 i9 ix).bind fun t108 => (some (wrap64 (t107 * t108)))) = some r := H
 have A2 := Aside0.mk A20
 clear A20
 replace H := Option.bind_eq_some_iff.mp H
 obtain ⟨t108, A30, H⟩ := H
 replace H : (some (wrap64 (t107 * t108))) = some r := H
 have A3 := Aside0.mk A30
 clear A30
 obtain rfl := Option.some.inj H
 go_enter Try.func68, Try.ntmps68
 try go_wp2_with (first | ((with_reducible refine jD_ (N := 1) rfl ?_); refine jB_ ?hg (N := 1) ?hd (cs := #[.int .i64 i0, .int .i64 i1, .int .i64 i2, .int .i64 i3, .int .i64 i4, .int .i64 i5, .int .i64 i6, .int .i64 i7, .int .i64 i8, .int .i64 i9, .int .i64 ix]) (t := 23) ?hr ?_; (case hd => rfl); (case hg => rfl); (case hr => first | (go_simp; done) | (go_simp; rfl)); intro gb106 hg w4 hbox hb; have BK106 := Aside0.mk (hbox); have GW106 := Aside0.mk ((by rw [hg]; exact (ji_ (bl HB)) : w.heap.size <= gb106)); have GE106 := Aside0.mk ((by rw [hg]; exact (ji_ (bl HB)) : w.heap.size <= gb106)); replace HB := bst HB hb; clear hb hbox hg))
 replace BK106 := Aside0.mk (jd_ BK106.out)
 replace HB := Aside0.mk (jC_ HB.out)
 refine jN_ (n := 6) (S := fun w' => w'.cell? ⟨gb106, 0, none⟩ = some (.int .i64 i0) /\ w'.cell? ⟨gb106, 1, none⟩ = some (.int .i64 i1) /\ w'.cell? ⟨gb106, 2, none⟩ = some (.int .i64 i2) /\ w'.cell? ⟨gb106, 3, none⟩ = some (.int .i64 i3) /\ w'.cell? ⟨gb106, 4, none⟩ = some (.int .i64 i4) /\ w'.cell? ⟨gb106, 5, none⟩ = some (.int .i64 i5) /\ w'.cell? ⟨gb106, 6, none⟩ = some (.int .i64 i6) /\ w'.cell? ⟨gb106, 7, none⟩ = some (.int .i64 i7) /\ w'.cell? ⟨gb106, 8, none⟩ = some (.int .i64 i8) /\ w'.cell? ⟨gb106, 9, none⟩ = some (.int .i64 i9) /\ w'.cell? ⟨gb106, 10, none⟩ = some (.int .i64 ix)) (ds := []) #[false, false, false, false, false, false] (by kernel_rfl) rfl rfl (cz11 BK106.out) (fun hHeld => ?_)
 generalize w4.drew = w5 at BK106 HB hHeld ⊢
 refine take_ (i := 0) (N := some 3) (v := ?_) (a' := ?_) #[true, false, false, false, false, false] rfl rfl (by kernel_rfl) (fun _ _ _ h => h) (Or.inl ⟨by rfl, ?_⟩) hHeld ?_ ?_
 rotate_left
 ·rintro w' ⟨s0, s1, s2, s3, s4, s5, s6, s7, s8, s9, s10⟩
  go_simp
  with_reducible rfl
 rotate_left
 ·simp only [pq]
  rfl
 refine take_ (i := 2) (N := some 5) (v := ?_) (a' := ?_) #[true, false, true, false, false, false] rfl rfl (by kernel_rfl) (fun _ _ _ h => h) (Or.inl ⟨by rfl, ?_⟩) hHeld ?_ ?_
 rotate_left
 ·rintro w' ⟨s0, s1, s2, s3, s4, s5, s6, s7, s8, s9, s10⟩
  go_simp
  with_reducible rfl
 rotate_left
 ·simp only [pq]
  rfl
 refine one_ (i := 1) (N := some 4) #[true, true, true, false, false, false] rfl rfl (by kernel_rfl) (by decide) (fun K hK => ?_)
 refine gs Try.func106 #[.agg #[.int .i64 i0, .int .i64 i1, .int .i64 i2, .int .i64 i3, .int .i64 i4, .int .i64 i5, .int .i64 i6, .int .i64 i7, .int .i64 i8, .int .i64 i9, .int .i64 ix]] ?_
 with_reducible refine (conf_Stripes.calls i0 i1 i2 i3 i4 i5 i6 i7 i8 i9 ix t107 _ A2.out).mono ?_
 rintro e w6 ⟨rfl, hb⟩
 refine ⟨_, rfl, ?_⟩
 replace BK106 := bkb BK106 hb
 replace HB := bst HB hb
 try clear hb; try clear hb2; try clear hk; try clear hi
 refine hK.out _ _ sc (fun hHeld => ?_)
 clear hK K
 apply nm 0
 refine one_ (i := 3) (N := some 6) #[true, true, true, true, false, false] rfl rfl (by kernel_rfl) (by decide) (fun K hK => ?_)
 refine gs Try.func107 #[.agg #[.int .i64 i0, .int .i64 i1, .int .i64 i2, .int .i64 i3, .int .i64 i4, .int .i64 i5, .int .i64 i6, .int .i64 i7, .int .i64 i8, .int .i64 i9, .int .i64 ix]] ?_
 with_reducible refine (conf_Row.calls i0 i1 i2 i3 i4 i5 i6 i7 i8 i9 ix t108 _ A3.out).mono ?_
 rintro e w7 ⟨rfl, hb⟩
 refine ⟨_, rfl, ?_⟩
 replace BK106 := bkb BK106 hb
 replace HB := bst HB hb
 try clear hb; try clear hb2; try clear hk; try clear hi
 refine hK.out _ _ sc (fun hHeld => ?_)
 clear hK K
 apply nm 0
 refine pure_ (i := 4) (N := some 7) (v := ?_) (a' := ?_) #[true, true, true, true, true, false] rfl rfl (by kernel_rfl) (fun _ _ _ h => h) (Or.inl ⟨by rfl, ?_⟩) ?_ ?_
 rotate_left
 ·intro w'
  go_simp
  with_reducible rfl
 rotate_left
 ·simp only [pq]
  rfl
 refine pure_ (i := 5) (N := some 2) (v := ?_) (a' := ?_) #[true, true, true, true, true, true] rfl rfl (by kernel_rfl) (fun _ _ _ h => h) (Or.inl ⟨by rfl, ?_⟩) ?_ ?_
 rotate_left
 ·intro w'
  go_simp
  with_reducible rfl
 rotate_left
 ·simp only [pq]
  rfl
 refine kk_ (by kernel_rfl) ?_
 try go_wp2
 go_ret
 exact ⟨by first | rfl | (simp [jq_, jp_] <;> rfl) | (simp [*, jq_, jp_] <;> rfl), bl HB⟩
end Go.Proofs.Ytgckcaoncjhgbaa.PG
