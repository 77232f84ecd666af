/- Printed by the kit's print over stand-ins for some functions (xprint.py), with contracts of my own in their place. -/
/- Printed by the kit's print over stand-ins for some functions (xprint.py), with contracts of my own in their place. -/
/- Printed by the kit's print over stand-ins for some functions (xprint.py), with contracts of my own in their place. -/
/- Printed by the kit's print over stand-ins for some functions (xprint.py), with contracts of my own in their place. -/
import Derived.Test.YtgckcaoncjhgbaaPGx2
import Derived.Test.YtgckcaoncjhgbaaWRepsOne
import Derived.Test.YtgckcaoncjhgbaaFRc
set_option maxHeartbeats 8000000
set_option maxRecDepth 100000
namespace Go.Proofs.Ytgckcaoncjhgbaa.PG
open Go.RowKit Go.Proofs.YtgckcaoncjhgbaaW.PrintWords Go.Proofs.YtgckcaoncjhgbaaW.PrintLast
set_option linter.unusedVariables false
set_option linter.unusedSimpArgs false
def geom_Member.f (i0 i1 i2 i3 i4 i5 i6 i7 i8 i9 ix a1 a2 : Int) : Option (Int) := (geom_right.f i0 i1 i2 i3 i4 i5 i6 i7 i8 i9 ix a1 a2 0).bind fun t119 => (if t119 = true then (if i1 = 0 then (none) else (some (Int.tmod (wrap64 ((wrap64 (a1 + 1)) + a2)) i1))) else (some 0))
theorem geom_Member.calls (i0 i1 i2 i3 i4 i5 i6 i7 i8 i9 ix a1 a2 r : Int) (w : World) (h : geom_Member.f i0 i1 i2 i3 i4 i5 i6 i7 i8 i9 ix a1 a2 = some r) :
  Calls Try.prog 128 #[.agg #[.int .i64 i0, .int .i64 i1, .int .i64 i2, .int .i64 i3, .int .i64 i4, .int .i64 i5, .int .i64 i6, .int .i64 i7, .int .i64 i8, .int .i64 i9, .int .i64 ix], .int .i64 a1, .int .i64 a2] w fun e w' => e = .returned (.int .i64 r) /\ Below w.heap.size w w' := by
 have hu23 := Try.underlying23
 have HB := Aside0.mk (Below.refl w.heap.size w)
 have H : ((geom_right.f i0 i1 i2 i3 i4 i5 i6 i7 i8 i9 ix a1 a2 0).bind fun t119 => (if t119 = true then (if i1 = 0 then (none) else (some (Int.tmod (wrap64 ((wrap64 (a1 + 1)) + a2)) i1))) else (some 0))) = some r := h
 clear h
 replace H := Option.bind_eq_some_iff.mp H
 obtain ⟨t119, A40, H⟩ := H
 replace H : (if t119 = true then (if i1 = 0 then (none) else (some (Int.tmod (wrap64 ((wrap64 (a1 + 1)) + a2)) i1))) else (some 0)) = some r := H
 have A4 := Aside0.mk A40
 clear A40
 by_cases c5 : t119 = true
 ·subst c5
  have H1 : (if i1 = 0 then (none) else (some (Int.tmod (wrap64 ((wrap64 (a1 + 1)) + a2)) i1))) = some r := by rw [if_pos rfl] at H; exact H
  clear H
  have H := H1
  clear H1
  by_cases c6 : i1 = 0
  ·rw [if_pos c6] at H
   exact absurd H (by simp)
  ·rw [if_neg c6] at H
   have c6b0 : (i1 == 0) = false := beq_eq_false_iff_ne.mpr c6
   have c6b1 : (i1 != 0) = true := bne_iff_ne.mpr c6
   obtain rfl := Option.some.inj H
   go_enter Try.func128, Try.ntmps128
   go_wp2_with (first | ((with_reducible refine jD_ (N := 3) rfl ?_); refine jB_ ?hg (N := 3) ?hd (cs := #[.int .i64 i0, .int .i64 i1, .int .i64 i2, .int .i64 i3, .int .i64 i4, .int .i64 i5, .int .i64 i6, .int .i64 i7, .int .i64 i8, .int .i64 i9, .int .i64 ix]) (t := 23) ?hr ?_; (case hd => rfl); (case hg => rfl); (case hr => first | (go_simp; done) | (go_simp; rfl)); intro gb118 hg w7 hbox hb; have BK118 := Aside0.mk (hbox); have GW118 := Aside0.mk ((by rw [hg]; exact (ji_ (bl HB)) : w.heap.size <= gb118)); have GE118 := Aside0.mk ((by rw [hg]; exact (ji_ (bl HB)) : w.heap.size <= gb118)); replace HB := bst HB hb; clear hb hbox hg; obtain ⟨hcz8_0, hcz8_1, hcz8_2, hcz8_3, hcz8_4, hcz8_5, hcz8_6, hcz8_7, hcz8_8, hcz8_9, hcz8_10⟩ := cz11 BK118.out) | ((with_reducible refine jy_ (f := 127) rfl ?_); refine kh_ (some 10) rfl rfl Try.func127 (by kernel_rfl) rfl #[.agg #[.int .i64 i0, .int .i64 i1, .int .i64 i2, .int .i64 i3, .int .i64 i4, .int .i64 i5, .int .i64 i6, .int .i64 i7, .int .i64 i8, .int .i64 i9, .int .i64 ix], .int .i64 a1, .int .i64 a2, .int .i64 0] rfl (by (try simp only [List.map_toArray, List.map_cons, List.map_nil]); first | done | rfl | (simp only [List.length_drop, List.length_take]; rfl)) ?_; (with_reducible refine (geom_right.calls i0 i1 i2 i3 i4 i5 i6 i7 i8 i9 ix a1 a2 0 true _ A4.out).mono ?_); rintro e w9 ⟨rfl, hb⟩; refine ⟨_, rfl, ?_⟩; replace BK118 := bkb BK118 hb; replace HB := bst HB hb; (try clear hb); (try clear hb2); (try clear hk); (try clear hi); obtain ⟨hcz10_0, hcz10_1, hcz10_2, hcz10_3, hcz10_4, hcz10_5, hcz10_6, hcz10_7, hcz10_8, hcz10_9, hcz10_10⟩ := cz11 BK118.out))
   go_ret
   exact ⟨by first | rfl | (simp [jq_, jp_] <;> rfl) | (simp [*, jq_, jp_] <;> rfl), bl HB⟩
 ·replace c5 := Bool.eq_false_iff.mpr c5
  subst c5
  have H1 : (some 0) = some r := by rw [if_neg (show ¬ (false = true) by decide)] at H; exact H
  clear H
  have H := H1
  clear H1
  obtain rfl := Option.some.inj H
  go_enter Try.func128, Try.ntmps128
  go_wp2_with (first | ((with_reducible refine jD_ (N := 3) rfl ?_); refine jB_ ?hg (N := 3) ?hd (cs := #[.int .i64 i0, .int .i64 i1, .int .i64 i2, .int .i64 i3, .int .i64 i4, .int .i64 i5, .int .i64 i6, .int .i64 i7, .int .i64 i8, .int .i64 i9, .int .i64 ix]) (t := 23) ?hr ?_; (case hd => rfl); (case hg => rfl); (case hr => first | (go_simp; done) | (go_simp; rfl)); intro gb118 hg w11 hbox hb; have BK118 := Aside0.mk (hbox); have GW118 := Aside0.mk ((by rw [hg]; exact (ji_ (bl HB)) : w.heap.size <= gb118)); have GE118 := Aside0.mk ((by rw [hg]; exact (ji_ (bl HB)) : w.heap.size <= gb118)); replace HB := bst HB hb; clear hb hbox hg; obtain ⟨hcz12_0, hcz12_1, hcz12_2, hcz12_3, hcz12_4, hcz12_5, hcz12_6, hcz12_7, hcz12_8, hcz12_9, hcz12_10⟩ := cz11 BK118.out) | ((with_reducible refine jy_ (f := 127) rfl ?_); refine kh_ (some 10) rfl rfl Try.func127 (by kernel_rfl) rfl #[.agg #[.int .i64 i0, .int .i64 i1, .int .i64 i2, .int .i64 i3, .int .i64 i4, .int .i64 i5, .int .i64 i6, .int .i64 i7, .int .i64 i8, .int .i64 i9, .int .i64 ix], .int .i64 a1, .int .i64 a2, .int .i64 0] rfl (by (try simp only [List.map_toArray, List.map_cons, List.map_nil]); first | done | rfl | (simp only [List.length_drop, List.length_take]; rfl)) ?_; (with_reducible refine (geom_right.calls i0 i1 i2 i3 i4 i5 i6 i7 i8 i9 ix a1 a2 0 false _ A4.out).mono ?_); rintro e w13 ⟨rfl, hb⟩; refine ⟨_, rfl, ?_⟩; replace BK118 := bkb BK118 hb; replace HB := bst HB hb; (try clear hb); (try clear hb2); (try clear hk); (try clear hi)))
  go_ret
  exact ⟨by first | rfl | (simp [jq_, jp_] <;> rfl) | (simp [*, jq_, jp_] <;> rfl), bl HB⟩
def geom_Parity.f (i0 i1 i2 i3 i4 i5 i6 i7 i8 i9 ix a1 : Int) : Option (Int) := (geom_right.f i0 i1 i2 i3 i4 i5 i6 i7 i8 i9 ix a1 0 0).bind fun t128 => (if t128 = true then (if i1 = 0 then (none) else (some (Int.tmod a1 i1))) else (some 0))
theorem geom_Parity.calls (i0 i1 i2 i3 i4 i5 i6 i7 i8 i9 ix a1 r : Int) (w : World) (h : geom_Parity.f i0 i1 i2 i3 i4 i5 i6 i7 i8 i9 ix a1 = some r) :
  Calls Try.prog 124 #[.agg #[.int .i64 i0, .int .i64 i1, .int .i64 i2, .int .i64 i3, .int .i64 i4, .int .i64 i5, .int .i64 i6, .int .i64 i7, .int .i64 i8, .int .i64 i9, .int .i64 ix], .int .i64 a1] w fun e w' => e = .returned (.int .i64 r) /\ Below w.heap.size w w' := by
 have hu23 := Try.underlying23
 have HB := Aside0.mk (Below.refl w.heap.size w)
 have H : ((geom_right.f i0 i1 i2 i3 i4 i5 i6 i7 i8 i9 ix a1 0 0).bind fun t128 => (if t128 = true then (if i1 = 0 then (none) else (some (Int.tmod a1 i1))) else (some 0))) = some r := h
 clear h
 replace H := Option.bind_eq_some_iff.mp H
 obtain ⟨t128, A30, H⟩ := H
 replace H : (if t128 = true then (if i1 = 0 then (none) else (some (Int.tmod a1 i1))) else (some 0)) = some r := H
 have A3 := Aside0.mk A30
 clear A30
 by_cases c4 : t128 = true
 ·subst c4
  have H1 : (if i1 = 0 then (none) else (some (Int.tmod a1 i1))) = some r := by rw [if_pos rfl] at H; exact H
  clear H
  have H := H1
  clear H1
  by_cases c5 : i1 = 0
  ·rw [if_pos c5] at H
   exact absurd H (by simp)
  ·rw [if_neg c5] at H
   have c5b0 : (i1 == 0) = false := beq_eq_false_iff_ne.mpr c5
   have c5b1 : (i1 != 0) = true := bne_iff_ne.mpr c5
   obtain rfl := Option.some.inj H
   go_enter Try.func124, Try.ntmps124
   go_wp2_with (first | ((with_reducible refine jD_ (N := 2) rfl ?_); refine jB_ ?hg (N := 2) ?hd (cs := #[.int .i64 i0, .int .i64 i1, .int .i64 i2, .int .i64 i3, .int .i64 i4, .int .i64 i5, .int .i64 i6, .int .i64 i7, .int .i64 i8, .int .i64 i9, .int .i64 ix]) (t := 23) ?hr ?_; (case hd => rfl); (case hg => rfl); (case hr => first | (go_simp; done) | (go_simp; rfl)); intro gb127 hg w6 hbox hb; have BK127 := Aside0.mk (hbox); have GW127 := Aside0.mk ((by rw [hg]; exact (ji_ (bl HB)) : w.heap.size <= gb127)); have GE127 := Aside0.mk ((by rw [hg]; exact (ji_ (bl HB)) : w.heap.size <= gb127)); replace HB := bst HB hb; clear hb hbox hg; obtain ⟨hcz7_0, hcz7_1, hcz7_2, hcz7_3, hcz7_4, hcz7_5, hcz7_6, hcz7_7, hcz7_8, hcz7_9, hcz7_10⟩ := cz11 BK127.out) | ((with_reducible refine jy_ (f := 127) rfl ?_); refine kh_ (some 7) rfl rfl Try.func127 (by kernel_rfl) rfl #[.agg #[.int .i64 i0, .int .i64 i1, .int .i64 i2, .int .i64 i3, .int .i64 i4, .int .i64 i5, .int .i64 i6, .int .i64 i7, .int .i64 i8, .int .i64 i9, .int .i64 ix], .int .i64 a1, .int .i64 0, .int .i64 0] rfl (by (try simp only [List.map_toArray, List.map_cons, List.map_nil]); first | done | rfl | (simp only [List.length_drop, List.length_take]; rfl)) ?_; (with_reducible refine (geom_right.calls i0 i1 i2 i3 i4 i5 i6 i7 i8 i9 ix a1 0 0 true _ A3.out).mono ?_); rintro e w8 ⟨rfl, hb⟩; refine ⟨_, rfl, ?_⟩; replace BK127 := bkb BK127 hb; replace HB := bst HB hb; (try clear hb); (try clear hb2); (try clear hk); (try clear hi); obtain ⟨hcz9_0, hcz9_1, hcz9_2, hcz9_3, hcz9_4, hcz9_5, hcz9_6, hcz9_7, hcz9_8, hcz9_9, hcz9_10⟩ := cz11 BK127.out))
   go_ret
   exact ⟨by first | rfl | (simp [jq_, jp_] <;> rfl) | (simp [*, jq_, jp_] <;> rfl), bl HB⟩
 ·replace c4 := Bool.eq_false_iff.mpr c4
  subst c4
  have H1 : (some 0) = some r := by rw [if_neg (show ¬ (false = true) by decide)] at H; exact H
  clear H
  have H := H1
  clear H1
  obtain rfl := Option.some.inj H
  go_enter Try.func124, Try.ntmps124
  go_wp2_with (first | ((with_reducible refine jD_ (N := 2) rfl ?_); refine jB_ ?hg (N := 2) ?hd (cs := #[.int .i64 i0, .int .i64 i1, .int .i64 i2, .int .i64 i3, .int .i64 i4, .int .i64 i5, .int .i64 i6, .int .i64 i7, .int .i64 i8, .int .i64 i9, .int .i64 ix]) (t := 23) ?hr ?_; (case hd => rfl); (case hg => rfl); (case hr => first | (go_simp; done) | (go_simp; rfl)); intro gb127 hg w10 hbox hb; have BK127 := Aside0.mk (hbox); have GW127 := Aside0.mk ((by rw [hg]; exact (ji_ (bl HB)) : w.heap.size <= gb127)); have GE127 := Aside0.mk ((by rw [hg]; exact (ji_ (bl HB)) : w.heap.size <= gb127)); replace HB := bst HB hb; clear hb hbox hg; obtain ⟨hcz11_0, hcz11_1, hcz11_2, hcz11_3, hcz11_4, hcz11_5, hcz11_6, hcz11_7, hcz11_8, hcz11_9, hcz11_10⟩ := cz11 BK127.out) | ((with_reducible refine jy_ (f := 127) rfl ?_); refine kh_ (some 7) rfl rfl Try.func127 (by kernel_rfl) rfl #[.agg #[.int .i64 i0, .int .i64 i1, .int .i64 i2, .int .i64 i3, .int .i64 i4, .int .i64 i5, .int .i64 i6, .int .i64 i7, .int .i64 i8, .int .i64 i9, .int .i64 ix], .int .i64 a1, .int .i64 0, .int .i64 0] rfl (by (try simp only [List.map_toArray, List.map_cons, List.map_nil]); first | done | rfl | (simp only [List.length_drop, List.length_take]; rfl)) ?_; (with_reducible refine (geom_right.calls i0 i1 i2 i3 i4 i5 i6 i7 i8 i9 ix a1 0 0 false _ A3.out).mono ?_); rintro e w12 ⟨rfl, hb⟩; refine ⟨_, rfl, ?_⟩; replace BK127 := bkb BK127 hb; replace HB := bst HB hb; (try clear hb); (try clear hb2); (try clear hk); (try clear hi)))
  go_ret
  exact ⟨by first | rfl | (simp [jq_, jp_] <;> rfl) | (simp [*, jq_, jp_] <;> rfl), bl HB⟩
def revetmentref07_Check.f (i0 i1 i2 i3 i4 i5 i6 i7 i8 i9 ix : Int) : Option (Int) := some (jn_ i0 i1 i2 i3 i4 i5 i6 i7 i8 i9 ix)
theorem revetmentref07_Check.calls (i0 i1 i2 i3 i4 i5 i6 i7 i8 i9 ix r : Int) (w : World) (h : revetmentref07_Check.f i0 i1 i2 i3 i4 i5 i6 i7 i8 i9 ix = some r) :
  Calls Try.prog 13 #[.agg #[.int .i64 i0, .int .i64 i1, .int .i64 i2, .int .i64 i3, .int .i64 i4, .int .i64 i5, .int .i64 i6, .int .i64 i7, .int .i64 i8, .int .i64 i9, .int .i64 ix]] w fun e w' => e = .returned (.int .i64 r) /\ Below w.heap.size w w' := by
 simp only [revetmentref07_Check.f, Option.some.injEq] at h; subst h
 exact rcheck_any i0 i1 i2 i3 i4 i5 i6 i7 i8 i9 ix w
def revetmentref07_Size.f (i0 i1 i2 i3 i4 i5 i6 i7 i8 i9 ix : Int) : Option (Int) := some (kg_ i1 i2 i3 i4 i5 i6 i7 i8 i9 ix)
theorem revetmentref07_Size.calls (i0 i1 i2 i3 i4 i5 i6 i7 i8 i9 ix r : Int) (w : World) (h : revetmentref07_Size.f i0 i1 i2 i3 i4 i5 i6 i7 i8 i9 ix = some r) :
  Calls Try.prog 41 #[.agg #[.int .i64 i0, .int .i64 i1, .int .i64 i2, .int .i64 i3, .int .i64 i4, .int .i64 i5, .int .i64 i6, .int .i64 i7, .int .i64 i8, .int .i64 i9, .int .i64 ix]] w fun e w' => e = .returned (.int .i64 r) /\ Below w.heap.size w w' := by
 simp only [revetmentref07_Size.f, Option.some.injEq] at h; subst h
 exact rsize_any i0 i1 i2 i3 i4 i5 i6 i7 i8 i9 ix w
def revetmentref09_Right.f (i0 i1 i2 i3 i4 i5 i6 i7 i8 i9 ix a1 a2 : Int) : Option (Bool) := (revetmentref07_Check.f i0 i1 i2 i3 i4 i5 i6 i7 i8 i9 ix).bind fun t142 => (if t142 = 0 then (if a1 >= 0 then (if a2 >= 0 then ((revetmentref07_Size.f i0 i1 i2 i3 i4 i5 i6 i7 i8 i9 ix).bind fun t143 => (if a1 <= t143 then ((revetmentref07_Size.f i0 i1 i2 i3 i4 i5 i6 i7 i8 i9 ix).bind fun t144 => (some (decide (a2 <= (wrap64 (t144 - a1)))))) else (some false))) else (some false)) else (some false)) else (some false))
theorem revetmentref09_Right.calls (i0 i1 i2 i3 i4 i5 i6 i7 i8 i9 ix a1 a2 : Int) (r : Bool) (w : World) (h : revetmentref09_Right.f i0 i1 i2 i3 i4 i5 i6 i7 i8 i9 ix a1 a2 = some r) :
  Calls Try.prog 114 #[.agg #[.int .i64 i0, .int .i64 i1, .int .i64 i2, .int .i64 i3, .int .i64 i4, .int .i64 i5, .int .i64 i6, .int .i64 i7, .int .i64 i8, .int .i64 i9, .int .i64 ix], .int .i64 a1, .int .i64 a2] w fun e w' => e = .returned (.bool r) /\ Below w.heap.size w w' := by
 have hu23 := Try.underlying23
 have HB := Aside0.mk (Below.refl w.heap.size w)
 have H : ((revetmentref07_Check.f i0 i1 i2 i3 i4 i5 i6 i7 i8 i9 ix).bind fun t142 => (if t142 = 0 then (if a1 >= 0 then (if a2 >= 0 then ((revetmentref07_Size.f i0 i1 i2 i3 i4 i5 i6 i7 i8 i9 ix).bind fun t143 => (if a1 <= t143 then ((revetmentref07_Size.f i0 i1 i2 i3 i4 i5 i6 i7 i8 i9 ix).bind fun t144 => (some (decide (a2 <= (wrap64 (t144 - a1)))))) else (some false))) else (some false)) else (some false)) else (some false))) = some r := h
 clear h
 replace H := Option.bind_eq_some_iff.mp H
 obtain ⟨t142, A40, H⟩ := H
 replace H : (if t142 = 0 then (if a1 >= 0 then (if a2 >= 0 then ((revetmentref07_Size.f i0 i1 i2 i3 i4 i5 i6 i7 i8 i9 ix).bind fun t143 => (if a1 <= t143 then ((revetmentref07_Size.f i0 i1 i2 i3 i4 i5 i6 i7 i8 i9 ix).bind fun t144 => (some (decide (a2 <= (wrap64 (t144 - a1)))))) else (some false))) else (some false)) else (some false)) else (some false)) = some r := H
 have A4 := Aside0.mk A40
 clear A40
 by_cases c5 : t142 = 0
 ·rw [if_pos c5] at H
  have c5b0 : (t142 == 0) = true := beq_iff_eq.mpr c5
  have c5b1 : (t142 != 0) = false := bne_eq_false_iff_eq.mpr c5
  clear c5
  by_cases c6 : a1 >= 0
  ·rw [if_pos c6] at H
   have c6b0 : decide (0 <= a1) = true := decide_eq_true c6
   clear c6
   by_cases c7 : a2 >= 0
   ·rw [if_pos c7] at H
    have c7b0 : decide (0 <= a2) = true := decide_eq_true c7
    clear c7
    replace H := Option.bind_eq_some_iff.mp H
    obtain ⟨t143, A80, H⟩ := H
    replace H : (if a1 <= t143 then ((revetmentref07_Size.f i0 i1 i2 i3 i4 i5 i6 i7 i8 i9 ix).bind fun t144 => (some (decide (a2 <= (wrap64 (t144 - a1)))))) else (some false)) = some r := H
    have A8 := Aside0.mk A80
    clear A80
    by_cases c9 : a1 <= t143
    ·rw [if_pos c9] at H
     have c9b0 : decide (a1 <= t143) = true := decide_eq_true c9
     clear c9
     replace H := Option.bind_eq_some_iff.mp H
     obtain ⟨t144, A100, H⟩ := H
     replace H : (some (decide (a2 <= (wrap64 (t144 - a1))))) = some r := H
     have A10 := Aside0.mk A100
     clear A100
     obtain rfl := Option.some.inj H
     go_enter Try.func114, Try.ntmps114
     obtain rfl : t143 = t144 := Option.some.inj (A8.out.symm.trans A10.out)
     go_wp2_with (first | ((with_reducible refine jD_ (N := 3) rfl ?_); refine jB_ ?hg (N := 3) ?hd (cs := #[.int .i64 i0, .int .i64 i1, .int .i64 i2, .int .i64 i3, .int .i64 i4, .int .i64 i5, .int .i64 i6, .int .i64 i7, .int .i64 i8, .int .i64 i9, .int .i64 ix]) (t := 23) ?hr ?_; (case hd => rfl); (case hg => rfl); (case hr => first | (go_simp; done) | (go_simp; rfl)); intro gb141 hg w11 hbox hb; have BK141 := Aside0.mk (hbox); have GW141 := Aside0.mk ((by rw [hg]; exact (ji_ (bl HB)) : w.heap.size <= gb141)); have GE141 := Aside0.mk ((by rw [hg]; exact (ji_ (bl HB)) : w.heap.size <= gb141)); replace HB := bst HB hb; clear hb hbox hg; obtain ⟨hcz12_0, hcz12_1, hcz12_2, hcz12_3, hcz12_4, hcz12_5, hcz12_6, hcz12_7, hcz12_8, hcz12_9, hcz12_10⟩ := cz11 BK141.out) | ((with_reducible refine jy_ (f := 13) rfl ?_); refine kh_ (some 8) rfl rfl Try.func13 (by kernel_rfl) rfl #[.agg #[.int .i64 i0, .int .i64 i1, .int .i64 i2, .int .i64 i3, .int .i64 i4, .int .i64 i5, .int .i64 i6, .int .i64 i7, .int .i64 i8, .int .i64 i9, .int .i64 ix]] rfl (by (try simp only [List.map_toArray, List.map_cons, List.map_nil]); first | done | rfl | (simp only [List.length_drop, List.length_take]; rfl)) ?_; (with_reducible refine (revetmentref07_Check.calls i0 i1 i2 i3 i4 i5 i6 i7 i8 i9 ix t142 _ A4.out).mono ?_); rintro e w13 ⟨rfl, hb⟩; refine ⟨_, rfl, ?_⟩; replace BK141 := bkb BK141 hb; replace HB := bst HB hb; (try clear hb); (try clear hb2); (try clear hk); (try clear hi); obtain ⟨hcz14_0, hcz14_1, hcz14_2, hcz14_3, hcz14_4, hcz14_5, hcz14_6, hcz14_7, hcz14_8, hcz14_9, hcz14_10⟩ := cz11 BK141.out) | (go_at_call 41; (with_reducible refine (revetmentref07_Size.calls i0 i1 i2 i3 i4 i5 i6 i7 i8 i9 ix t143 _ A8.out).mono ?_); rintro e w15 ⟨rfl, hb⟩; replace BK141 := bkb BK141 hb; replace HB := bst HB hb; (try clear hb); (try clear hb2); (try clear hk); (try clear hi); obtain ⟨hcz16_0, hcz16_1, hcz16_2, hcz16_3, hcz16_4, hcz16_5, hcz16_6, hcz16_7, hcz16_8, hcz16_9, hcz16_10⟩ := cz11 BK141.out) | (go_at_call 41; (with_reducible refine (revetmentref07_Size.calls i0 i1 i2 i3 i4 i5 i6 i7 i8 i9 ix t144 _ A10.out).mono ?_); rintro e w17 ⟨rfl, hb⟩; replace BK141 := bkb BK141 hb; replace HB := bst HB hb; (try clear hb); (try clear hb2); (try clear hk); (try clear hi)))
     go_ret
     exact ⟨by first | rfl | (simp [jq_, jp_] <;> rfl) | (simp [*, jq_, jp_] <;> rfl), bl HB⟩
    ·rw [if_neg c9] at H
     have c9b0 : decide (a1 <= t143) = false := decide_eq_false c9
     clear c9
     obtain rfl := Option.some.inj H
     go_enter Try.func114, Try.ntmps114
     go_wp2_with (first | ((with_reducible refine jD_ (N := 3) rfl ?_); refine jB_ ?hg (N := 3) ?hd (cs := #[.int .i64 i0, .int .i64 i1, .int .i64 i2, .int .i64 i3, .int .i64 i4, .int .i64 i5, .int .i64 i6, .int .i64 i7, .int .i64 i8, .int .i64 i9, .int .i64 ix]) (t := 23) ?hr ?_; (case hd => rfl); (case hg => rfl); (case hr => first | (go_simp; done) | (go_simp; rfl)); intro gb141 hg w18 hbox hb; have BK141 := Aside0.mk (hbox); have GW141 := Aside0.mk ((by rw [hg]; exact (ji_ (bl HB)) : w.heap.size <= gb141)); have GE141 := Aside0.mk ((by rw [hg]; exact (ji_ (bl HB)) : w.heap.size <= gb141)); replace HB := bst HB hb; clear hb hbox hg; obtain ⟨hcz19_0, hcz19_1, hcz19_2, hcz19_3, hcz19_4, hcz19_5, hcz19_6, hcz19_7, hcz19_8, hcz19_9, hcz19_10⟩ := cz11 BK141.out) | ((with_reducible refine jy_ (f := 13) rfl ?_); refine kh_ (some 8) rfl rfl Try.func13 (by kernel_rfl) rfl #[.agg #[.int .i64 i0, .int .i64 i1, .int .i64 i2, .int .i64 i3, .int .i64 i4, .int .i64 i5, .int .i64 i6, .int .i64 i7, .int .i64 i8, .int .i64 i9, .int .i64 ix]] rfl (by (try simp only [List.map_toArray, List.map_cons, List.map_nil]); first | done | rfl | (simp only [List.length_drop, List.length_take]; rfl)) ?_; (with_reducible refine (revetmentref07_Check.calls i0 i1 i2 i3 i4 i5 i6 i7 i8 i9 ix t142 _ A4.out).mono ?_); rintro e w20 ⟨rfl, hb⟩; refine ⟨_, rfl, ?_⟩; replace BK141 := bkb BK141 hb; replace HB := bst HB hb; (try clear hb); (try clear hb2); (try clear hk); (try clear hi); obtain ⟨hcz21_0, hcz21_1, hcz21_2, hcz21_3, hcz21_4, hcz21_5, hcz21_6, hcz21_7, hcz21_8, hcz21_9, hcz21_10⟩ := cz11 BK141.out) | (go_at_call 41; (with_reducible refine (revetmentref07_Size.calls i0 i1 i2 i3 i4 i5 i6 i7 i8 i9 ix t143 _ A8.out).mono ?_); rintro e w22 ⟨rfl, hb⟩; replace BK141 := bkb BK141 hb; replace HB := bst HB hb; (try clear hb); (try clear hb2); (try clear hk); (try clear hi)))
     go_ret
     exact ⟨by first | rfl | (simp [jq_, jp_] <;> rfl) | (simp [*, jq_, jp_] <;> rfl), bl HB⟩
   ·rw [if_neg c7] at H
    have c7b0 : decide (0 <= a2) = false := decide_eq_false c7
    clear c7
    obtain rfl := Option.some.inj H
    go_enter Try.func114, Try.ntmps114
    go_wp2_with (first | ((with_reducible refine jD_ (N := 3) rfl ?_); refine jB_ ?hg (N := 3) ?hd (cs := #[.int .i64 i0, .int .i64 i1, .int .i64 i2, .int .i64 i3, .int .i64 i4, .int .i64 i5, .int .i64 i6, .int .i64 i7, .int .i64 i8, .int .i64 i9, .int .i64 ix]) (t := 23) ?hr ?_; (case hd => rfl); (case hg => rfl); (case hr => first | (go_simp; done) | (go_simp; rfl)); intro gb141 hg w23 hbox hb; have BK141 := Aside0.mk (hbox); have GW141 := Aside0.mk ((by rw [hg]; exact (ji_ (bl HB)) : w.heap.size <= gb141)); have GE141 := Aside0.mk ((by rw [hg]; exact (ji_ (bl HB)) : w.heap.size <= gb141)); replace HB := bst HB hb; clear hb hbox hg; obtain ⟨hcz24_0, hcz24_1, hcz24_2, hcz24_3, hcz24_4, hcz24_5, hcz24_6, hcz24_7, hcz24_8, hcz24_9, hcz24_10⟩ := cz11 BK141.out) | ((with_reducible refine jy_ (f := 13) rfl ?_); refine kh_ (some 8) rfl rfl Try.func13 (by kernel_rfl) rfl #[.agg #[.int .i64 i0, .int .i64 i1, .int .i64 i2, .int .i64 i3, .int .i64 i4, .int .i64 i5, .int .i64 i6, .int .i64 i7, .int .i64 i8, .int .i64 i9, .int .i64 ix]] rfl (by (try simp only [List.map_toArray, List.map_cons, List.map_nil]); first | done | rfl | (simp only [List.length_drop, List.length_take]; rfl)) ?_; (with_reducible refine (revetmentref07_Check.calls i0 i1 i2 i3 i4 i5 i6 i7 i8 i9 ix t142 _ A4.out).mono ?_); rintro e w25 ⟨rfl, hb⟩; refine ⟨_, rfl, ?_⟩; replace BK141 := bkb BK141 hb; replace HB := bst HB hb; (try clear hb); (try clear hb2); (try clear hk); (try clear hi)))
    go_ret
    exact ⟨by first | rfl | (simp [jq_, jp_] <;> rfl) | (simp [*, jq_, jp_] <;> rfl), bl HB⟩
  ·rw [if_neg c6] at H
   have c6b0 : decide (0 <= a1) = false := decide_eq_false c6
   clear c6
   obtain rfl := Option.some.inj H
   go_enter Try.func114, Try.ntmps114
   go_wp2_with (first | ((with_reducible refine jD_ (N := 3) rfl ?_); refine jB_ ?hg (N := 3) ?hd (cs := #[.int .i64 i0, .int .i64 i1, .int .i64 i2, .int .i64 i3, .int .i64 i4, .int .i64 i5, .int .i64 i6, .int .i64 i7, .int .i64 i8, .int .i64 i9, .int .i64 ix]) (t := 23) ?hr ?_; (case hd => rfl); (case hg => rfl); (case hr => first | (go_simp; done) | (go_simp; rfl)); intro gb141 hg w26 hbox hb; have BK141 := Aside0.mk (hbox); have GW141 := Aside0.mk ((by rw [hg]; exact (ji_ (bl HB)) : w.heap.size <= gb141)); have GE141 := Aside0.mk ((by rw [hg]; exact (ji_ (bl HB)) : w.heap.size <= gb141)); replace HB := bst HB hb; clear hb hbox hg; obtain ⟨hcz27_0, hcz27_1, hcz27_2, hcz27_3, hcz27_4, hcz27_5, hcz27_6, hcz27_7, hcz27_8, hcz27_9, hcz27_10⟩ := cz11 BK141.out) | ((with_reducible refine jy_ (f := 13) rfl ?_); refine kh_ (some 8) rfl rfl Try.func13 (by kernel_rfl) rfl #[.agg #[.int .i64 i0, .int .i64 i1, .int .i64 i2, .int .i64 i3, .int .i64 i4, .int .i64 i5, .int .i64 i6, .int .i64 i7, .int .i64 i8, .int .i64 i9, .int .i64 ix]] rfl (by (try simp only [List.map_toArray, List.map_cons, List.map_nil]); first | done | rfl | (simp only [List.length_drop, List.length_take]; rfl)) ?_; (with_reducible refine (revetmentref07_Check.calls i0 i1 i2 i3 i4 i5 i6 i7 i8 i9 ix t142 _ A4.out).mono ?_); rintro e w28 ⟨rfl, hb⟩; refine ⟨_, rfl, ?_⟩; replace BK141 := bkb BK141 hb; replace HB := bst HB hb; (try clear hb); (try clear hb2); (try clear hk); (try clear hi)))
   go_ret
   exact ⟨by first | rfl | (simp [jq_, jp_] <;> rfl) | (simp [*, jq_, jp_] <;> rfl), bl HB⟩
 ·rw [if_neg c5] at H
  have c5b0 : (t142 == 0) = false := beq_eq_false_iff_ne.mpr c5
  have c5b1 : (t142 != 0) = true := bne_iff_ne.mpr c5
  obtain rfl := Option.some.inj H
  go_enter Try.func114, Try.ntmps114
  go_wp2_with (first | ((with_reducible refine jD_ (N := 3) rfl ?_); refine jB_ ?hg (N := 3) ?hd (cs := #[.int .i64 i0, .int .i64 i1, .int .i64 i2, .int .i64 i3, .int .i64 i4, .int .i64 i5, .int .i64 i6, .int .i64 i7, .int .i64 i8, .int .i64 i9, .int .i64 ix]) (t := 23) ?hr ?_; (case hd => rfl); (case hg => rfl); (case hr => first | (go_simp; done) | (go_simp; rfl)); intro gb141 hg w29 hbox hb; have BK141 := Aside0.mk (hbox); have GW141 := Aside0.mk ((by rw [hg]; exact (ji_ (bl HB)) : w.heap.size <= gb141)); have GE141 := Aside0.mk ((by rw [hg]; exact (ji_ (bl HB)) : w.heap.size <= gb141)); replace HB := bst HB hb; clear hb hbox hg; obtain ⟨hcz30_0, hcz30_1, hcz30_2, hcz30_3, hcz30_4, hcz30_5, hcz30_6, hcz30_7, hcz30_8, hcz30_9, hcz30_10⟩ := cz11 BK141.out) | ((with_reducible refine jy_ (f := 13) rfl ?_); refine kh_ (some 8) rfl rfl Try.func13 (by kernel_rfl) rfl #[.agg #[.int .i64 i0, .int .i64 i1, .int .i64 i2, .int .i64 i3, .int .i64 i4, .int .i64 i5, .int .i64 i6, .int .i64 i7, .int .i64 i8, .int .i64 i9, .int .i64 ix]] rfl (by (try simp only [List.map_toArray, List.map_cons, List.map_nil]); first | done | rfl | (simp only [List.length_drop, List.length_take]; rfl)) ?_; (with_reducible refine (revetmentref07_Check.calls i0 i1 i2 i3 i4 i5 i6 i7 i8 i9 ix t142 _ A4.out).mono ?_); rintro e w31 ⟨rfl, hb⟩; refine ⟨_, rfl, ?_⟩; replace BK141 := bkb BK141 hb; replace HB := bst HB hb; (try clear hb); (try clear hb2); (try clear hk); (try clear hi)))
  go_ret
  exact ⟨by first | rfl | (simp [jq_, jp_] <;> rfl) | (simp [*, jq_, jp_] <;> rfl), bl HB⟩
def revetmentref07_Row.f (i0 i1 i2 i3 i4 i5 i6 i7 i8 i9 ix : Int) : Option (Int) := some (rowC i1 i2 i3 i4 i5 i6 i7 i8 i9 ix)
theorem revetmentref07_Row.calls (i0 i1 i2 i3 i4 i5 i6 i7 i8 i9 ix r : Int) (w : World) (h : revetmentref07_Row.f i0 i1 i2 i3 i4 i5 i6 i7 i8 i9 ix = some r) :
  Calls Try.prog 116 #[.agg #[.int .i64 i0, .int .i64 i1, .int .i64 i2, .int .i64 i3, .int .i64 i4, .int .i64 i5, .int .i64 i6, .int .i64 i7, .int .i64 i8, .int .i64 i9, .int .i64 ix]] w fun e w' => e = .returned (.int .i64 r) /\ Below w.heap.size w w' := by
 simp only [revetmentref07_Row.f, Option.some.injEq] at h; subst h
 exact rrow_any i0 i1 i2 i3 i4 i5 i6 i7 i8 i9 ix w
end Go.Proofs.Ytgckcaoncjhgbaa.PG
