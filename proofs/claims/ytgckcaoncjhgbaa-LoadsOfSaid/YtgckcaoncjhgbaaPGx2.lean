/- Printed by the kit's print over stand-ins for some functions (xprint.py), with contracts of my own in their place. -/
import Derived.Test.YtgckcaoncjhgbaaPGx1
set_option maxHeartbeats 8000000
set_option maxRecDepth 100000
namespace Go.Proofs.Ytgckcaoncjhgbaa.PG
open Go.RowKit Go.Proofs.YtgckcaoncjhgbaaW.PrintWords Go.Proofs.YtgckcaoncjhgbaaW.PrintLast
set_option linter.unusedVariables false
set_option linter.unusedSimpArgs false
def plan_right.f (i0 i1 i2 i3 i4 i5 i6 i7 i8 i9 ix a1 a2 : Int) : Option (Bool) := (conf_Check.f i0 i1 i2 i3 i4 i5 i6 i7 i8 i9 ix).bind fun t110 => (if t110 = 0 then (if a1 >= 0 then (if a2 >= 0 then ((conf_Size.f i0 i1 i2 i3 i4 i5 i6 i7 i8 i9 ix).bind fun t111 => (if a1 <= t111 then ((conf_Size.f i0 i1 i2 i3 i4 i5 i6 i7 i8 i9 ix).bind fun t112 => (some (decide (a2 <= (wrap64 (t112 - a1)))))) else (some false))) else (some false)) else (some false)) else (some false))
theorem plan_right.calls (i0 i1 i2 i3 i4 i5 i6 i7 i8 i9 ix a1 a2 : Int) (r : Bool) (w : World) (h : plan_right.f i0 i1 i2 i3 i4 i5 i6 i7 i8 i9 ix a1 a2 = some r) :
  Calls Try.prog 112 #[.agg #[.int .i64 i0, .int .i64 i1, .int .i64 i2, .int .i64 i3, .int .i64 i4, .int .i64 i5, .int .i64 i6, .int .i64 i7, .int .i64 i8, .int .i64 i9, .int .i64 ix], .int .i64 a1, .int .i64 a2] w fun e w' => e = .returned (.bool r) /\ Below w.heap.size w w' := by
 have hu23 := Try.underlying23
 have HB := Aside0.mk (Below.refl w.heap.size w)
 have H : ((conf_Check.f i0 i1 i2 i3 i4 i5 i6 i7 i8 i9 ix).bind fun t110 => (if t110 = 0 then (if a1 >= 0 then (if a2 >= 0 then ((conf_Size.f i0 i1 i2 i3 i4 i5 i6 i7 i8 i9 ix).bind fun t111 => (if a1 <= t111 then ((conf_Size.f i0 i1 i2 i3 i4 i5 i6 i7 i8 i9 ix).bind fun t112 => (some (decide (a2 <= (wrap64 (t112 - a1)))))) else (some false))) else (some false)) else (some false)) else (some false))) = some r := h
 clear h
 replace H := Option.bind_eq_some_iff.mp H
 obtain ⟨t110, A40, H⟩ := H
 replace H : (if t110 = 0 then (if a1 >= 0 then (if a2 >= 0 then ((conf_Size.f i0 i1 i2 i3 i4 i5 i6 i7 i8 i9 ix).bind fun t111 => (if a1 <= t111 then ((conf_Size.f i0 i1 i2 i3 i4 i5 i6 i7 i8 i9 ix).bind fun t112 => (some (decide (a2 <= (wrap64 (t112 - a1)))))) else (some false))) else (some false)) else (some false)) else (some false)) = some r := H
 have A4 := Aside0.mk A40
 clear A40
 by_cases c5 : t110 = 0
 ·rw [if_pos c5] at H
  have c5b0 : (t110 == 0) = true := beq_iff_eq.mpr c5
  have c5b1 : (t110 != 0) = false := bne_eq_false_iff_eq.mpr c5
  clear c5
  by_cases c6 : a1 >= 0
  ·rw [if_pos c6] at H
   have c6b0 : decide (0 <= a1) = true := decide_eq_true c6
   clear c6
   by_cases c7 : a2 >= 0
   ·rw [if_pos c7] at H
    have c7b0 : decide (0 <= a2) = true := decide_eq_true c7
    clear c7
    replace H := Option.bind_eq_some_iff.mp H
    obtain ⟨t111, A80, H⟩ := H
    replace H : (if a1 <= t111 then ((conf_Size.f i0 i1 i2 i3 i4 i5 i6 i7 i8 i9 ix).bind fun t112 => (some (decide (a2 <= (wrap64 (t112 - a1)))))) else (some false)) = some r := H
    have A8 := Aside0.mk A80
    clear A80
    by_cases c9 : a1 <= t111
    ·rw [if_pos c9] at H
     have c9b0 : decide (a1 <= t111) = true := decide_eq_true c9
     clear c9
     replace H := Option.bind_eq_some_iff.mp H
     obtain ⟨t112, A100, H⟩ := H
     replace H : (some (decide (a2 <= (wrap64 (t112 - a1))))) = some r := H
     have A10 := Aside0.mk A100
     clear A100
     obtain rfl := Option.some.inj H
     go_enter Try.func112, Try.ntmps112
     obtain rfl : t111 = t112 := Option.some.inj (A8.out.symm.trans A10.out)
     go_wp2_with (first | ((with_reducible refine jD_ (N := 3) rfl ?_); refine jB_ ?hg (N := 3) ?hd (cs := #[.int .i64 i0, .int .i64 i1, .int .i64 i2, .int .i64 i3, .int .i64 i4, .int .i64 i5, .int .i64 i6, .int .i64 i7, .int .i64 i8, .int .i64 i9, .int .i64 ix]) (t := 23) ?hr ?_; (case hd => rfl); (case hg => rfl); (case hr => first | (go_simp; done) | (go_simp; rfl)); intro gb109 hg w11 hbox hb; have BK109 := Aside0.mk (hbox); have GW109 := Aside0.mk ((by rw [hg]; exact (ji_ (bl HB)) : w.heap.size <= gb109)); have GE109 := Aside0.mk ((by rw [hg]; exact (ji_ (bl HB)) : w.heap.size <= gb109)); replace HB := bst HB hb; clear hb hbox hg; obtain ⟨hcz12_0, hcz12_1, hcz12_2, hcz12_3, hcz12_4, hcz12_5, hcz12_6, hcz12_7, hcz12_8, hcz12_9, hcz12_10⟩ := cz11 BK109.out) | ((with_reducible refine jy_ (f := 52) rfl ?_); refine kh_ (some 8) rfl rfl Try.func52 (by kernel_rfl) rfl #[.agg #[.int .i64 i0, .int .i64 i1, .int .i64 i2, .int .i64 i3, .int .i64 i4, .int .i64 i5, .int .i64 i6, .int .i64 i7, .int .i64 i8, .int .i64 i9, .int .i64 ix]] rfl (by (try simp only [List.map_toArray, List.map_cons, List.map_nil]); first | done | rfl | (simp only [List.length_drop, List.length_take]; rfl)) ?_; (with_reducible refine (conf_Check.calls i0 i1 i2 i3 i4 i5 i6 i7 i8 i9 ix t110 _ A4.out).mono ?_); rintro e w13 ⟨rfl, hb⟩; refine ⟨_, rfl, ?_⟩; replace BK109 := bkb BK109 hb; replace HB := bst HB hb; (try clear hb); (try clear hb2); (try clear hk); (try clear hi); obtain ⟨hcz14_0, hcz14_1, hcz14_2, hcz14_3, hcz14_4, hcz14_5, hcz14_6, hcz14_7, hcz14_8, hcz14_9, hcz14_10⟩ := cz11 BK109.out) | (go_at_call 68; (with_reducible refine (conf_Size.calls i0 i1 i2 i3 i4 i5 i6 i7 i8 i9 ix t111 _ A8.out).mono ?_); rintro e w15 ⟨rfl, hb⟩; replace BK109 := bkb BK109 hb; replace HB := bst HB hb; (try clear hb); (try clear hb2); (try clear hk); (try clear hi); obtain ⟨hcz16_0, hcz16_1, hcz16_2, hcz16_3, hcz16_4, hcz16_5, hcz16_6, hcz16_7, hcz16_8, hcz16_9, hcz16_10⟩ := cz11 BK109.out) | (go_at_call 68; (with_reducible refine (conf_Size.calls i0 i1 i2 i3 i4 i5 i6 i7 i8 i9 ix t112 _ A10.out).mono ?_); rintro e w17 ⟨rfl, hb⟩; replace BK109 := bkb BK109 hb; replace HB := bst HB hb; (try clear hb); (try clear hb2); (try clear hk); (try clear hi)))
     go_ret
     exact ⟨by first | rfl | (simp [jq_, jp_] <;> rfl) | (simp [*, jq_, jp_] <;> rfl), bl HB⟩
    ·rw [if_neg c9] at H
     have c9b0 : decide (a1 <= t111) = false := decide_eq_false c9
     clear c9
     obtain rfl := Option.some.inj H
     go_enter Try.func112, Try.ntmps112
     go_wp2_with (first | ((with_reducible refine jD_ (N := 3) rfl ?_); refine jB_ ?hg (N := 3) ?hd (cs := #[.int .i64 i0, .int .i64 i1, .int .i64 i2, .int .i64 i3, .int .i64 i4, .int .i64 i5, .int .i64 i6, .int .i64 i7, .int .i64 i8, .int .i64 i9, .int .i64 ix]) (t := 23) ?hr ?_; (case hd => rfl); (case hg => rfl); (case hr => first | (go_simp; done) | (go_simp; rfl)); intro gb109 hg w18 hbox hb; have BK109 := Aside0.mk (hbox); have GW109 := Aside0.mk ((by rw [hg]; exact (ji_ (bl HB)) : w.heap.size <= gb109)); have GE109 := Aside0.mk ((by rw [hg]; exact (ji_ (bl HB)) : w.heap.size <= gb109)); replace HB := bst HB hb; clear hb hbox hg; obtain ⟨hcz19_0, hcz19_1, hcz19_2, hcz19_3, hcz19_4, hcz19_5, hcz19_6, hcz19_7, hcz19_8, hcz19_9, hcz19_10⟩ := cz11 BK109.out) | ((with_reducible refine jy_ (f := 52) rfl ?_); refine kh_ (some 8) rfl rfl Try.func52 (by kernel_rfl) rfl #[.agg #[.int .i64 i0, .int .i64 i1, .int .i64 i2, .int .i64 i3, .int .i64 i4, .int .i64 i5, .int .i64 i6, .int .i64 i7, .int .i64 i8, .int .i64 i9, .int .i64 ix]] rfl (by (try simp only [List.map_toArray, List.map_cons, List.map_nil]); first | done | rfl | (simp only [List.length_drop, List.length_take]; rfl)) ?_; (with_reducible refine (conf_Check.calls i0 i1 i2 i3 i4 i5 i6 i7 i8 i9 ix t110 _ A4.out).mono ?_); rintro e w20 ⟨rfl, hb⟩; refine ⟨_, rfl, ?_⟩; replace BK109 := bkb BK109 hb; replace HB := bst HB hb; (try clear hb); (try clear hb2); (try clear hk); (try clear hi); obtain ⟨hcz21_0, hcz21_1, hcz21_2, hcz21_3, hcz21_4, hcz21_5, hcz21_6, hcz21_7, hcz21_8, hcz21_9, hcz21_10⟩ := cz11 BK109.out) | (go_at_call 68; (with_reducible refine (conf_Size.calls i0 i1 i2 i3 i4 i5 i6 i7 i8 i9 ix t111 _ A8.out).mono ?_); rintro e w22 ⟨rfl, hb⟩; replace BK109 := bkb BK109 hb; replace HB := bst HB hb; (try clear hb); (try clear hb2); (try clear hk); (try clear hi)))
     go_ret
     exact ⟨by first | rfl | (simp [jq_, jp_] <;> rfl) | (simp [*, jq_, jp_] <;> rfl), bl HB⟩
   ·rw [if_neg c7] at H
    have c7b0 : decide (0 <= a2) = false := decide_eq_false c7
    clear c7
    obtain rfl := Option.some.inj H
    go_enter Try.func112, Try.ntmps112
    go_wp2_with (first | ((with_reducible refine jD_ (N := 3) rfl ?_); refine jB_ ?hg (N := 3) ?hd (cs := #[.int .i64 i0, .int .i64 i1, .int .i64 i2, .int .i64 i3, .int .i64 i4, .int .i64 i5, .int .i64 i6, .int .i64 i7, .int .i64 i8, .int .i64 i9, .int .i64 ix]) (t := 23) ?hr ?_; (case hd => rfl); (case hg => rfl); (case hr => first | (go_simp; done) | (go_simp; rfl)); intro gb109 hg w23 hbox hb; have BK109 := Aside0.mk (hbox); have GW109 := Aside0.mk ((by rw [hg]; exact (ji_ (bl HB)) : w.heap.size <= gb109)); have GE109 := Aside0.mk ((by rw [hg]; exact (ji_ (bl HB)) : w.heap.size <= gb109)); replace HB := bst HB hb; clear hb hbox hg; obtain ⟨hcz24_0, hcz24_1, hcz24_2, hcz24_3, hcz24_4, hcz24_5, hcz24_6, hcz24_7, hcz24_8, hcz24_9, hcz24_10⟩ := cz11 BK109.out) | ((with_reducible refine jy_ (f := 52) rfl ?_); refine kh_ (some 8) rfl rfl Try.func52 (by kernel_rfl) rfl #[.agg #[.int .i64 i0, .int .i64 i1, .int .i64 i2, .int .i64 i3, .int .i64 i4, .int .i64 i5, .int .i64 i6, .int .i64 i7, .int .i64 i8, .int .i64 i9, .int .i64 ix]] rfl (by (try simp only [List.map_toArray, List.map_cons, List.map_nil]); first | done | rfl | (simp only [List.length_drop, List.length_take]; rfl)) ?_; (with_reducible refine (conf_Check.calls i0 i1 i2 i3 i4 i5 i6 i7 i8 i9 ix t110 _ A4.out).mono ?_); rintro e w25 ⟨rfl, hb⟩; refine ⟨_, rfl, ?_⟩; replace BK109 := bkb BK109 hb; replace HB := bst HB hb; (try clear hb); (try clear hb2); (try clear hk); (try clear hi)))
    go_ret
    exact ⟨by first | rfl | (simp [jq_, jp_] <;> rfl) | (simp [*, jq_, jp_] <;> rfl), bl HB⟩
  ·rw [if_neg c6] at H
   have c6b0 : decide (0 <= a1) = false := decide_eq_false c6
   clear c6
   obtain rfl := Option.some.inj H
   go_enter Try.func112, Try.ntmps112
   go_wp2_with (first | ((with_reducible refine jD_ (N := 3) rfl ?_); refine jB_ ?hg (N := 3) ?hd (cs := #[.int .i64 i0, .int .i64 i1, .int .i64 i2, .int .i64 i3, .int .i64 i4, .int .i64 i5, .int .i64 i6, .int .i64 i7, .int .i64 i8, .int .i64 i9, .int .i64 ix]) (t := 23) ?hr ?_; (case hd => rfl); (case hg => rfl); (case hr => first | (go_simp; done) | (go_simp; rfl)); intro gb109 hg w26 hbox hb; have BK109 := Aside0.mk (hbox); have GW109 := Aside0.mk ((by rw [hg]; exact (ji_ (bl HB)) : w.heap.size <= gb109)); have GE109 := Aside0.mk ((by rw [hg]; exact (ji_ (bl HB)) : w.heap.size <= gb109)); replace HB := bst HB hb; clear hb hbox hg; obtain ⟨hcz27_0, hcz27_1, hcz27_2, hcz27_3, hcz27_4, hcz27_5, hcz27_6, hcz27_7, hcz27_8, hcz27_9, hcz27_10⟩ := cz11 BK109.out) | ((with_reducible refine jy_ (f := 52) rfl ?_); refine kh_ (some 8) rfl rfl Try.func52 (by kernel_rfl) rfl #[.agg #[.int .i64 i0, .int .i64 i1, .int .i64 i2, .int .i64 i3, .int .i64 i4, .int .i64 i5, .int .i64 i6, .int .i64 i7, .int .i64 i8, .int .i64 i9, .int .i64 ix]] rfl (by (try simp only [List.map_toArray, List.map_cons, List.map_nil]); first | done | rfl | (simp only [List.length_drop, List.length_take]; rfl)) ?_; (with_reducible refine (conf_Check.calls i0 i1 i2 i3 i4 i5 i6 i7 i8 i9 ix t110 _ A4.out).mono ?_); rintro e w28 ⟨rfl, hb⟩; refine ⟨_, rfl, ?_⟩; replace BK109 := bkb BK109 hb; replace HB := bst HB hb; (try clear hb); (try clear hb2); (try clear hk); (try clear hi)))
   go_ret
   exact ⟨by first | rfl | (simp [jq_, jp_] <;> rfl) | (simp [*, jq_, jp_] <;> rfl), bl HB⟩
 ·rw [if_neg c5] at H
  have c5b0 : (t110 == 0) = false := beq_eq_false_iff_ne.mpr c5
  have c5b1 : (t110 != 0) = true := bne_iff_ne.mpr c5
  obtain rfl := Option.some.inj H
  go_enter Try.func112, Try.ntmps112
  go_wp2_with (first | ((with_reducible refine jD_ (N := 3) rfl ?_); refine jB_ ?hg (N := 3) ?hd (cs := #[.int .i64 i0, .int .i64 i1, .int .i64 i2, .int .i64 i3, .int .i64 i4, .int .i64 i5, .int .i64 i6, .int .i64 i7, .int .i64 i8, .int .i64 i9, .int .i64 ix]) (t := 23) ?hr ?_; (case hd => rfl); (case hg => rfl); (case hr => first | (go_simp; done) | (go_simp; rfl)); intro gb109 hg w29 hbox hb; have BK109 := Aside0.mk (hbox); have GW109 := Aside0.mk ((by rw [hg]; exact (ji_ (bl HB)) : w.heap.size <= gb109)); have GE109 := Aside0.mk ((by rw [hg]; exact (ji_ (bl HB)) : w.heap.size <= gb109)); replace HB := bst HB hb; clear hb hbox hg; obtain ⟨hcz30_0, hcz30_1, hcz30_2, hcz30_3, hcz30_4, hcz30_5, hcz30_6, hcz30_7, hcz30_8, hcz30_9, hcz30_10⟩ := cz11 BK109.out) | ((with_reducible refine jy_ (f := 52) rfl ?_); refine kh_ (some 8) rfl rfl Try.func52 (by kernel_rfl) rfl #[.agg #[.int .i64 i0, .int .i64 i1, .int .i64 i2, .int .i64 i3, .int .i64 i4, .int .i64 i5, .int .i64 i6, .int .i64 i7, .int .i64 i8, .int .i64 i9, .int .i64 ix]] rfl (by (try simp only [List.map_toArray, List.map_cons, List.map_nil]); first | done | rfl | (simp only [List.length_drop, List.length_take]; rfl)) ?_; (with_reducible refine (conf_Check.calls i0 i1 i2 i3 i4 i5 i6 i7 i8 i9 ix t110 _ A4.out).mono ?_); rintro e w31 ⟨rfl, hb⟩; refine ⟨_, rfl, ?_⟩; replace BK109 := bkb BK109 hb; replace HB := bst HB hb; (try clear hb); (try clear hb2); (try clear hk); (try clear hi)))
  go_ret
  exact ⟨by first | rfl | (simp [jq_, jp_] <;> rfl) | (simp [*, jq_, jp_] <;> rfl), bl HB⟩
def conf_Data.f (i0 i1 i2 i3 i4 i5 i6 i7 i8 i9 ix : Int) : Option (Int) := some (dataC i1 i2 i3 i4 i5 i6 i7 i8 i9 ix)
theorem conf_Data.calls (i0 i1 i2 i3 i4 i5 i6 i7 i8 i9 ix r : Int) (w : World) (h : conf_Data.f i0 i1 i2 i3 i4 i5 i6 i7 i8 i9 ix = some r) :
  Calls Try.prog 129 #[.agg #[.int .i64 i0, .int .i64 i1, .int .i64 i2, .int .i64 i3, .int .i64 i4, .int .i64 i5, .int .i64 i6, .int .i64 i7, .int .i64 i8, .int .i64 i9, .int .i64 ix]] w fun e w' => e = .returned (.int .i64 r) /\ Below w.heap.size w w' := by
 simp only [conf_Data.f, Option.some.injEq] at h; subst h
 exact data_any i0 i1 i2 i3 i4 i5 i6 i7 i8 i9 ix w
def geom_right.f (i0 i1 i2 i3 i4 i5 i6 i7 i8 i9 ix a1 a2 a3 : Int) : Option (Bool) := (conf_Check.f i0 i1 i2 i3 i4 i5 i6 i7 i8 i9 ix).bind fun t115 => (if t115 = 0 then (if a1 >= 0 then ((conf_Stripes.f i0 i1 i2 i3 i4 i5 i6 i7 i8 i9 ix).bind fun t116 => (if a1 < t116 then (if a2 >= 0 then ((conf_Data.f i0 i1 i2 i3 i4 i5 i6 i7 i8 i9 ix).bind fun t117 => (if a2 < t117 then (if a3 >= 0 then (some (decide (a3 < i1))) else (some false)) else (some false))) else (some false)) else (some false))) else (some false)) else (some false))
theorem geom_right.calls (i0 i1 i2 i3 i4 i5 i6 i7 i8 i9 ix a1 a2 a3 : Int) (r : Bool) (w : World) (h : geom_right.f i0 i1 i2 i3 i4 i5 i6 i7 i8 i9 ix a1 a2 a3 = some r) :
  Calls Try.prog 127 #[.agg #[.int .i64 i0, .int .i64 i1, .int .i64 i2, .int .i64 i3, .int .i64 i4, .int .i64 i5, .int .i64 i6, .int .i64 i7, .int .i64 i8, .int .i64 i9, .int .i64 ix], .int .i64 a1, .int .i64 a2, .int .i64 a3] w fun e w' => e = .returned (.bool r) /\ Below w.heap.size w w' := by
 have hu23 := Try.underlying23
 have HB := Aside0.mk (Below.refl w.heap.size w)
 have H : ((conf_Check.f i0 i1 i2 i3 i4 i5 i6 i7 i8 i9 ix).bind fun t115 => (if t115 = 0 then (if a1 >= 0 then ((conf_Stripes.f i0 i1 i2 i3 i4 i5 i6 i7 i8 i9 ix).bind fun t116 => (if a1 < t116 then (if a2 >= 0 then ((conf_Data.f i0 i1 i2 i3 i4 i5 i6 i7 i8 i9 ix).bind fun t117 => (if a2 < t117 then (if a3 >= 0 then (some (decide (a3 < i1))) else (some false)) else (some false))) else (some false)) else (some false))) else (some false)) else (some false))) = some r := h
 clear h
 replace H := Option.bind_eq_some_iff.mp H
 obtain ⟨t115, A50, H⟩ := H
 replace H : (if t115 = 0 then (if a1 >= 0 then ((conf_Stripes.f i0 i1 i2 i3 i4 i5 i6 i7 i8 i9 ix).bind fun t116 => (if a1 < t116 then (if a2 >= 0 then ((conf_Data.f i0 i1 i2 i3 i4 i5 i6 i7 i8 i9 ix).bind fun t117 => (if a2 < t117 then (if a3 >= 0 then (some (decide (a3 < i1))) else (some false)) else (some false))) else (some false)) else (some false))) else (some false)) else (some false)) = some r := H
 have A5 := Aside0.mk A50
 clear A50
 by_cases c6 : t115 = 0
 ·rw [if_pos c6] at H
  have c6b0 : (t115 == 0) = true := beq_iff_eq.mpr c6
  have c6b1 : (t115 != 0) = false := bne_eq_false_iff_eq.mpr c6
  clear c6
  by_cases c7 : a1 >= 0
  ·rw [if_pos c7] at H
   have c7b0 : decide (0 <= a1) = true := decide_eq_true c7
   clear c7
   replace H := Option.bind_eq_some_iff.mp H
   obtain ⟨t116, A80, H⟩ := H
   replace H : (if a1 < t116 then (if a2 >= 0 then ((conf_Data.f i0 i1 i2 i3 i4 i5 i6 i7 i8 i9 ix).bind fun t117 => (if a2 < t117 then (if a3 >= 0 then (some (decide (a3 < i1))) else (some false)) else (some false))) else (some false)) else (some false)) = some r := H
   have A8 := Aside0.mk A80
   clear A80
   by_cases c9 : a1 < t116
   ·rw [if_pos c9] at H
    have c9b0 : decide (a1 < t116) = true := decide_eq_true c9
    clear c9
    by_cases c10 : a2 >= 0
    ·rw [if_pos c10] at H
     have c10b0 : decide (0 <= a2) = true := decide_eq_true c10
     clear c10
     replace H := Option.bind_eq_some_iff.mp H
     obtain ⟨t117, A110, H⟩ := H
     replace H : (if a2 < t117 then (if a3 >= 0 then (some (decide (a3 < i1))) else (some false)) else (some false)) = some r := H
     have A11 := Aside0.mk A110
     clear A110
     by_cases c12 : a2 < t117
     ·rw [if_pos c12] at H
      have c12b0 : decide (a2 < t117) = true := decide_eq_true c12
      clear c12
      by_cases c13 : a3 >= 0
      ·rw [if_pos c13] at H
       have c13b0 : decide (0 <= a3) = true := decide_eq_true c13
       clear c13
       obtain rfl := Option.some.inj H
       go_enter Try.func127, Try.ntmps127
       go_wp2_with (first | ((with_reducible refine jD_ (N := 4) rfl ?_); refine jB_ ?hg (N := 4) ?hd (cs := #[.int .i64 i0, .int .i64 i1, .int .i64 i2, .int .i64 i3, .int .i64 i4, .int .i64 i5, .int .i64 i6, .int .i64 i7, .int .i64 i8, .int .i64 i9, .int .i64 ix]) (t := 23) ?hr ?_; (case hd => rfl); (case hg => rfl); (case hr => first | (go_simp; done) | (go_simp; rfl)); intro gb114 hg w14 hbox hb; have BK114 := Aside0.mk (hbox); have GW114 := Aside0.mk ((by rw [hg]; exact (ji_ (bl HB)) : w.heap.size <= gb114)); have GE114 := Aside0.mk ((by rw [hg]; exact (ji_ (bl HB)) : w.heap.size <= gb114)); replace HB := bst HB hb; clear hb hbox hg; obtain ⟨hcz15_0, hcz15_1, hcz15_2, hcz15_3, hcz15_4, hcz15_5, hcz15_6, hcz15_7, hcz15_8, hcz15_9, hcz15_10⟩ := cz11 BK114.out) | ((with_reducible refine jy_ (f := 52) rfl ?_); refine kh_ (some 10) rfl rfl Try.func52 (by kernel_rfl) rfl #[.agg #[.int .i64 i0, .int .i64 i1, .int .i64 i2, .int .i64 i3, .int .i64 i4, .int .i64 i5, .int .i64 i6, .int .i64 i7, .int .i64 i8, .int .i64 i9, .int .i64 ix]] rfl (by (try simp only [List.map_toArray, List.map_cons, List.map_nil]); first | done | rfl | (simp only [List.length_drop, List.length_take]; rfl)) ?_; (with_reducible refine (conf_Check.calls i0 i1 i2 i3 i4 i5 i6 i7 i8 i9 ix t115 _ A5.out).mono ?_); rintro e w16 ⟨rfl, hb⟩; refine ⟨_, rfl, ?_⟩; replace BK114 := bkb BK114 hb; replace HB := bst HB hb; (try clear hb); (try clear hb2); (try clear hk); (try clear hi); obtain ⟨hcz17_0, hcz17_1, hcz17_2, hcz17_3, hcz17_4, hcz17_5, hcz17_6, hcz17_7, hcz17_8, hcz17_9, hcz17_10⟩ := cz11 BK114.out) | (go_at_call 106; (with_reducible refine (conf_Stripes.calls i0 i1 i2 i3 i4 i5 i6 i7 i8 i9 ix t116 _ A8.out).mono ?_); rintro e w18 ⟨rfl, hb⟩; replace BK114 := bkb BK114 hb; replace HB := bst HB hb; (try clear hb); (try clear hb2); (try clear hk); (try clear hi); obtain ⟨hcz19_0, hcz19_1, hcz19_2, hcz19_3, hcz19_4, hcz19_5, hcz19_6, hcz19_7, hcz19_8, hcz19_9, hcz19_10⟩ := cz11 BK114.out) | (go_at_call 129; (with_reducible refine (conf_Data.calls i0 i1 i2 i3 i4 i5 i6 i7 i8 i9 ix t117 _ A11.out).mono ?_); rintro e w20 ⟨rfl, hb⟩; replace BK114 := bkb BK114 hb; replace HB := bst HB hb; (try clear hb); (try clear hb2); (try clear hk); (try clear hi); obtain ⟨hcz21_0, hcz21_1, hcz21_2, hcz21_3, hcz21_4, hcz21_5, hcz21_6, hcz21_7, hcz21_8, hcz21_9, hcz21_10⟩ := cz11 BK114.out))
       go_ret
       exact ⟨by first | rfl | (simp [jq_, jp_] <;> rfl) | (simp [*, jq_, jp_] <;> rfl), bl HB⟩
      ·rw [if_neg c13] at H
       have c13b0 : decide (0 <= a3) = false := decide_eq_false c13
       clear c13
       obtain rfl := Option.some.inj H
       go_enter Try.func127, Try.ntmps127
       go_wp2_with (first | ((with_reducible refine jD_ (N := 4) rfl ?_); refine jB_ ?hg (N := 4) ?hd (cs := #[.int .i64 i0, .int .i64 i1, .int .i64 i2, .int .i64 i3, .int .i64 i4, .int .i64 i5, .int .i64 i6, .int .i64 i7, .int .i64 i8, .int .i64 i9, .int .i64 ix]) (t := 23) ?hr ?_; (case hd => rfl); (case hg => rfl); (case hr => first | (go_simp; done) | (go_simp; rfl)); intro gb114 hg w22 hbox hb; have BK114 := Aside0.mk (hbox); have GW114 := Aside0.mk ((by rw [hg]; exact (ji_ (bl HB)) : w.heap.size <= gb114)); have GE114 := Aside0.mk ((by rw [hg]; exact (ji_ (bl HB)) : w.heap.size <= gb114)); replace HB := bst HB hb; clear hb hbox hg; obtain ⟨hcz23_0, hcz23_1, hcz23_2, hcz23_3, hcz23_4, hcz23_5, hcz23_6, hcz23_7, hcz23_8, hcz23_9, hcz23_10⟩ := cz11 BK114.out) | ((with_reducible refine jy_ (f := 52) rfl ?_); refine kh_ (some 10) rfl rfl Try.func52 (by kernel_rfl) rfl #[.agg #[.int .i64 i0, .int .i64 i1, .int .i64 i2, .int .i64 i3, .int .i64 i4, .int .i64 i5, .int .i64 i6, .int .i64 i7, .int .i64 i8, .int .i64 i9, .int .i64 ix]] rfl (by (try simp only [List.map_toArray, List.map_cons, List.map_nil]); first | done | rfl | (simp only [List.length_drop, List.length_take]; rfl)) ?_; (with_reducible refine (conf_Check.calls i0 i1 i2 i3 i4 i5 i6 i7 i8 i9 ix t115 _ A5.out).mono ?_); rintro e w24 ⟨rfl, hb⟩; refine ⟨_, rfl, ?_⟩; replace BK114 := bkb BK114 hb; replace HB := bst HB hb; (try clear hb); (try clear hb2); (try clear hk); (try clear hi); obtain ⟨hcz25_0, hcz25_1, hcz25_2, hcz25_3, hcz25_4, hcz25_5, hcz25_6, hcz25_7, hcz25_8, hcz25_9, hcz25_10⟩ := cz11 BK114.out) | (go_at_call 106; (with_reducible refine (conf_Stripes.calls i0 i1 i2 i3 i4 i5 i6 i7 i8 i9 ix t116 _ A8.out).mono ?_); rintro e w26 ⟨rfl, hb⟩; replace BK114 := bkb BK114 hb; replace HB := bst HB hb; (try clear hb); (try clear hb2); (try clear hk); (try clear hi); obtain ⟨hcz27_0, hcz27_1, hcz27_2, hcz27_3, hcz27_4, hcz27_5, hcz27_6, hcz27_7, hcz27_8, hcz27_9, hcz27_10⟩ := cz11 BK114.out) | (go_at_call 129; (with_reducible refine (conf_Data.calls i0 i1 i2 i3 i4 i5 i6 i7 i8 i9 ix t117 _ A11.out).mono ?_); rintro e w28 ⟨rfl, hb⟩; replace BK114 := bkb BK114 hb; replace HB := bst HB hb; (try clear hb); (try clear hb2); (try clear hk); (try clear hi)))
       go_ret
       exact ⟨by first | rfl | (simp [jq_, jp_] <;> rfl) | (simp [*, jq_, jp_] <;> rfl), bl HB⟩
     ·rw [if_neg c12] at H
      have c12b0 : decide (a2 < t117) = false := decide_eq_false c12
      clear c12
      obtain rfl := Option.some.inj H
      go_enter Try.func127, Try.ntmps127
      go_wp2_with (first | ((with_reducible refine jD_ (N := 4) rfl ?_); refine jB_ ?hg (N := 4) ?hd (cs := #[.int .i64 i0, .int .i64 i1, .int .i64 i2, .int .i64 i3, .int .i64 i4, .int .i64 i5, .int .i64 i6, .int .i64 i7, .int .i64 i8, .int .i64 i9, .int .i64 ix]) (t := 23) ?hr ?_; (case hd => rfl); (case hg => rfl); (case hr => first | (go_simp; done) | (go_simp; rfl)); intro gb114 hg w29 hbox hb; have BK114 := Aside0.mk (hbox); have GW114 := Aside0.mk ((by rw [hg]; exact (ji_ (bl HB)) : w.heap.size <= gb114)); have GE114 := Aside0.mk ((by rw [hg]; exact (ji_ (bl HB)) : w.heap.size <= gb114)); replace HB := bst HB hb; clear hb hbox hg; obtain ⟨hcz30_0, hcz30_1, hcz30_2, hcz30_3, hcz30_4, hcz30_5, hcz30_6, hcz30_7, hcz30_8, hcz30_9, hcz30_10⟩ := cz11 BK114.out) | ((with_reducible refine jy_ (f := 52) rfl ?_); refine kh_ (some 10) rfl rfl Try.func52 (by kernel_rfl) rfl #[.agg #[.int .i64 i0, .int .i64 i1, .int .i64 i2, .int .i64 i3, .int .i64 i4, .int .i64 i5, .int .i64 i6, .int .i64 i7, .int .i64 i8, .int .i64 i9, .int .i64 ix]] rfl (by (try simp only [List.map_toArray, List.map_cons, List.map_nil]); first | done | rfl | (simp only [List.length_drop, List.length_take]; rfl)) ?_; (with_reducible refine (conf_Check.calls i0 i1 i2 i3 i4 i5 i6 i7 i8 i9 ix t115 _ A5.out).mono ?_); rintro e w31 ⟨rfl, hb⟩; refine ⟨_, rfl, ?_⟩; replace BK114 := bkb BK114 hb; replace HB := bst HB hb; (try clear hb); (try clear hb2); (try clear hk); (try clear hi); obtain ⟨hcz32_0, hcz32_1, hcz32_2, hcz32_3, hcz32_4, hcz32_5, hcz32_6, hcz32_7, hcz32_8, hcz32_9, hcz32_10⟩ := cz11 BK114.out) | (go_at_call 106; (with_reducible refine (conf_Stripes.calls i0 i1 i2 i3 i4 i5 i6 i7 i8 i9 ix t116 _ A8.out).mono ?_); rintro e w33 ⟨rfl, hb⟩; replace BK114 := bkb BK114 hb; replace HB := bst HB hb; (try clear hb); (try clear hb2); (try clear hk); (try clear hi); obtain ⟨hcz34_0, hcz34_1, hcz34_2, hcz34_3, hcz34_4, hcz34_5, hcz34_6, hcz34_7, hcz34_8, hcz34_9, hcz34_10⟩ := cz11 BK114.out) | (go_at_call 129; (with_reducible refine (conf_Data.calls i0 i1 i2 i3 i4 i5 i6 i7 i8 i9 ix t117 _ A11.out).mono ?_); rintro e w35 ⟨rfl, hb⟩; replace BK114 := bkb BK114 hb; replace HB := bst HB hb; (try clear hb); (try clear hb2); (try clear hk); (try clear hi)))
      go_ret
      exact ⟨by first | rfl | (simp [jq_, jp_] <;> rfl) | (simp [*, jq_, jp_] <;> rfl), bl HB⟩
    ·rw [if_neg c10] at H
     have c10b0 : decide (0 <= a2) = false := decide_eq_false c10
     clear c10
     obtain rfl := Option.some.inj H
     go_enter Try.func127, Try.ntmps127
     go_wp2_with (first | ((with_reducible refine jD_ (N := 4) rfl ?_); refine jB_ ?hg (N := 4) ?hd (cs := #[.int .i64 i0, .int .i64 i1, .int .i64 i2, .int .i64 i3, .int .i64 i4, .int .i64 i5, .int .i64 i6, .int .i64 i7, .int .i64 i8, .int .i64 i9, .int .i64 ix]) (t := 23) ?hr ?_; (case hd => rfl); (case hg => rfl); (case hr => first | (go_simp; done) | (go_simp; rfl)); intro gb114 hg w36 hbox hb; have BK114 := Aside0.mk (hbox); have GW114 := Aside0.mk ((by rw [hg]; exact (ji_ (bl HB)) : w.heap.size <= gb114)); have GE114 := Aside0.mk ((by rw [hg]; exact (ji_ (bl HB)) : w.heap.size <= gb114)); replace HB := bst HB hb; clear hb hbox hg; obtain ⟨hcz37_0, hcz37_1, hcz37_2, hcz37_3, hcz37_4, hcz37_5, hcz37_6, hcz37_7, hcz37_8, hcz37_9, hcz37_10⟩ := cz11 BK114.out) | ((with_reducible refine jy_ (f := 52) rfl ?_); refine kh_ (some 10) rfl rfl Try.func52 (by kernel_rfl) rfl #[.agg #[.int .i64 i0, .int .i64 i1, .int .i64 i2, .int .i64 i3, .int .i64 i4, .int .i64 i5, .int .i64 i6, .int .i64 i7, .int .i64 i8, .int .i64 i9, .int .i64 ix]] rfl (by (try simp only [List.map_toArray, List.map_cons, List.map_nil]); first | done | rfl | (simp only [List.length_drop, List.length_take]; rfl)) ?_; (with_reducible refine (conf_Check.calls i0 i1 i2 i3 i4 i5 i6 i7 i8 i9 ix t115 _ A5.out).mono ?_); rintro e w38 ⟨rfl, hb⟩; refine ⟨_, rfl, ?_⟩; replace BK114 := bkb BK114 hb; replace HB := bst HB hb; (try clear hb); (try clear hb2); (try clear hk); (try clear hi); obtain ⟨hcz39_0, hcz39_1, hcz39_2, hcz39_3, hcz39_4, hcz39_5, hcz39_6, hcz39_7, hcz39_8, hcz39_9, hcz39_10⟩ := cz11 BK114.out) | (go_at_call 106; (with_reducible refine (conf_Stripes.calls i0 i1 i2 i3 i4 i5 i6 i7 i8 i9 ix t116 _ A8.out).mono ?_); rintro e w40 ⟨rfl, hb⟩; replace BK114 := bkb BK114 hb; replace HB := bst HB hb; (try clear hb); (try clear hb2); (try clear hk); (try clear hi)))
     go_ret
     exact ⟨by first | rfl | (simp [jq_, jp_] <;> rfl) | (simp [*, jq_, jp_] <;> rfl), bl HB⟩
   ·rw [if_neg c9] at H
    have c9b0 : decide (a1 < t116) = false := decide_eq_false c9
    clear c9
    obtain rfl := Option.some.inj H
    go_enter Try.func127, Try.ntmps127
    go_wp2_with (first | ((with_reducible refine jD_ (N := 4) rfl ?_); refine jB_ ?hg (N := 4) ?hd (cs := #[.int .i64 i0, .int .i64 i1, .int .i64 i2, .int .i64 i3, .int .i64 i4, .int .i64 i5, .int .i64 i6, .int .i64 i7, .int .i64 i8, .int .i64 i9, .int .i64 ix]) (t := 23) ?hr ?_; (case hd => rfl); (case hg => rfl); (case hr => first | (go_simp; done) | (go_simp; rfl)); intro gb114 hg w41 hbox hb; have BK114 := Aside0.mk (hbox); have GW114 := Aside0.mk ((by rw [hg]; exact (ji_ (bl HB)) : w.heap.size <= gb114)); have GE114 := Aside0.mk ((by rw [hg]; exact (ji_ (bl HB)) : w.heap.size <= gb114)); replace HB := bst HB hb; clear hb hbox hg; obtain ⟨hcz42_0, hcz42_1, hcz42_2, hcz42_3, hcz42_4, hcz42_5, hcz42_6, hcz42_7, hcz42_8, hcz42_9, hcz42_10⟩ := cz11 BK114.out) | ((with_reducible refine jy_ (f := 52) rfl ?_); refine kh_ (some 10) rfl rfl Try.func52 (by kernel_rfl) rfl #[.agg #[.int .i64 i0, .int .i64 i1, .int .i64 i2, .int .i64 i3, .int .i64 i4, .int .i64 i5, .int .i64 i6, .int .i64 i7, .int .i64 i8, .int .i64 i9, .int .i64 ix]] rfl (by (try simp only [List.map_toArray, List.map_cons, List.map_nil]); first | done | rfl | (simp only [List.length_drop, List.length_take]; rfl)) ?_; (with_reducible refine (conf_Check.calls i0 i1 i2 i3 i4 i5 i6 i7 i8 i9 ix t115 _ A5.out).mono ?_); rintro e w43 ⟨rfl, hb⟩; refine ⟨_, rfl, ?_⟩; replace BK114 := bkb BK114 hb; replace HB := bst HB hb; (try clear hb); (try clear hb2); (try clear hk); (try clear hi); obtain ⟨hcz44_0, hcz44_1, hcz44_2, hcz44_3, hcz44_4, hcz44_5, hcz44_6, hcz44_7, hcz44_8, hcz44_9, hcz44_10⟩ := cz11 BK114.out) | (go_at_call 106; (with_reducible refine (conf_Stripes.calls i0 i1 i2 i3 i4 i5 i6 i7 i8 i9 ix t116 _ A8.out).mono ?_); rintro e w45 ⟨rfl, hb⟩; replace BK114 := bkb BK114 hb; replace HB := bst HB hb; (try clear hb); (try clear hb2); (try clear hk); (try clear hi)))
    go_ret
    exact ⟨by first | rfl | (simp [jq_, jp_] <;> rfl) | (simp [*, jq_, jp_] <;> rfl), bl HB⟩
  ·rw [if_neg c7] at H
   have c7b0 : decide (0 <= a1) = false := decide_eq_false c7
   clear c7
   obtain rfl := Option.some.inj H
   go_enter Try.func127, Try.ntmps127
   go_wp2_with (first | ((with_reducible refine jD_ (N := 4) rfl ?_); refine jB_ ?hg (N := 4) ?hd (cs := #[.int .i64 i0, .int .i64 i1, .int .i64 i2, .int .i64 i3, .int .i64 i4, .int .i64 i5, .int .i64 i6, .int .i64 i7, .int .i64 i8, .int .i64 i9, .int .i64 ix]) (t := 23) ?hr ?_; (case hd => rfl); (case hg => rfl); (case hr => first | (go_simp; done) | (go_simp; rfl)); intro gb114 hg w46 hbox hb; have BK114 := Aside0.mk (hbox); have GW114 := Aside0.mk ((by rw [hg]; exact (ji_ (bl HB)) : w.heap.size <= gb114)); have GE114 := Aside0.mk ((by rw [hg]; exact (ji_ (bl HB)) : w.heap.size <= gb114)); replace HB := bst HB hb; clear hb hbox hg; obtain ⟨hcz47_0, hcz47_1, hcz47_2, hcz47_3, hcz47_4, hcz47_5, hcz47_6, hcz47_7, hcz47_8, hcz47_9, hcz47_10⟩ := cz11 BK114.out) | ((with_reducible refine jy_ (f := 52) rfl ?_); refine kh_ (some 10) rfl rfl Try.func52 (by kernel_rfl) rfl #[.agg #[.int .i64 i0, .int .i64 i1, .int .i64 i2, .int .i64 i3, .int .i64 i4, .int .i64 i5, .int .i64 i6, .int .i64 i7, .int .i64 i8, .int .i64 i9, .int .i64 ix]] rfl (by (try simp only [List.map_toArray, List.map_cons, List.map_nil]); first | done | rfl | (simp only [List.length_drop, List.length_take]; rfl)) ?_; (with_reducible refine (conf_Check.calls i0 i1 i2 i3 i4 i5 i6 i7 i8 i9 ix t115 _ A5.out).mono ?_); rintro e w48 ⟨rfl, hb⟩; refine ⟨_, rfl, ?_⟩; replace BK114 := bkb BK114 hb; replace HB := bst HB hb; (try clear hb); (try clear hb2); (try clear hk); (try clear hi)))
   go_ret
   exact ⟨by first | rfl | (simp [jq_, jp_] <;> rfl) | (simp [*, jq_, jp_] <;> rfl), bl HB⟩
 ·rw [if_neg c6] at H
  have c6b0 : (t115 == 0) = false := beq_eq_false_iff_ne.mpr c6
  have c6b1 : (t115 != 0) = true := bne_iff_ne.mpr c6
  obtain rfl := Option.some.inj H
  go_enter Try.func127, Try.ntmps127
  go_wp2_with (first | ((with_reducible refine jD_ (N := 4) rfl ?_); refine jB_ ?hg (N := 4) ?hd (cs := #[.int .i64 i0, .int .i64 i1, .int .i64 i2, .int .i64 i3, .int .i64 i4, .int .i64 i5, .int .i64 i6, .int .i64 i7, .int .i64 i8, .int .i64 i9, .int .i64 ix]) (t := 23) ?hr ?_; (case hd => rfl); (case hg => rfl); (case hr => first | (go_simp; done) | (go_simp; rfl)); intro gb114 hg w49 hbox hb; have BK114 := Aside0.mk (hbox); have GW114 := Aside0.mk ((by rw [hg]; exact (ji_ (bl HB)) : w.heap.size <= gb114)); have GE114 := Aside0.mk ((by rw [hg]; exact (ji_ (bl HB)) : w.heap.size <= gb114)); replace HB := bst HB hb; clear hb hbox hg; obtain ⟨hcz50_0, hcz50_1, hcz50_2, hcz50_3, hcz50_4, hcz50_5, hcz50_6, hcz50_7, hcz50_8, hcz50_9, hcz50_10⟩ := cz11 BK114.out) | ((with_reducible refine jy_ (f := 52) rfl ?_); refine kh_ (some 10) rfl rfl Try.func52 (by kernel_rfl) rfl #[.agg #[.int .i64 i0, .int .i64 i1, .int .i64 i2, .int .i64 i3, .int .i64 i4, .int .i64 i5, .int .i64 i6, .int .i64 i7, .int .i64 i8, .int .i64 i9, .int .i64 ix]] rfl (by (try simp only [List.map_toArray, List.map_cons, List.map_nil]); first | done | rfl | (simp only [List.length_drop, List.length_take]; rfl)) ?_; (with_reducible refine (conf_Check.calls i0 i1 i2 i3 i4 i5 i6 i7 i8 i9 ix t115 _ A5.out).mono ?_); rintro e w51 ⟨rfl, hb⟩; refine ⟨_, rfl, ?_⟩; replace BK114 := bkb BK114 hb; replace HB := bst HB hb; (try clear hb); (try clear hb2); (try clear hk); (try clear hi)))
  go_ret
  exact ⟨by first | rfl | (simp [jq_, jp_] <;> rfl) | (simp [*, jq_, jp_] <;> rfl), bl HB⟩
end Go.Proofs.Ytgckcaoncjhgbaa.PG
