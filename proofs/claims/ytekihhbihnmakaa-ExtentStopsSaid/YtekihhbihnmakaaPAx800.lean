/- Printed by the kit's print over stand-ins for some functions (xprint.py), with contracts of my own in their place. -/
import Derived.Test.YtekihhbihnmakaaPAx0
import Derived.Test.YtekihhbihnmakaaPAx2
import Derived.Test.YtekihhbihnmakaaPAx9
import Derived.Test.YtekihhbihnmakaaPAx16
import Derived.Test.YtekihhbihnmakaaPAx22
import Derived.Test.YtekihhbihnmakaaPAx900
import Derived.Test.YtekihhbihnmakaaPAx23
namespace Go.Proofs.Ytekihhbihnmakaa.PA
open Go.RowKit Go.Proofs.YtekihhbihnmakaaW.PrintWords Go.Proofs.YtekihhbihnmakaaW.PrintLast
set_option linter.unusedVariables false
set_option linter.unusedSimpArgs false

attribute [local go_sem high] eqA45
/-! ### revetmentlaw41_live: function 34 -/
def revetmentlaw41_live.f  : Option (Bool) := (conf_Plain.f).bind fun bt260 => ((extent_Runs.f bt260.1 bt260.2.1 bt260.2.2.1 bt260.2.2.2.1 bt260.2.2.2.2.1 bt260.2.2.2.2.2.1 bt260.2.2.2.2.2.2.1 bt260.2.2.2.2.2.2.2.1 bt260.2.2.2.2.2.2.2.2.1 bt260.2.2.2.2.2.2.2.2.2.1 bt260.2.2.2.2.2.2.2.2.2.2 1 4).bind fun t271 => (if (t271.length : Int) = 3 then (if 0 < (t271.length : Int) then (if (((rd_T45 t271 0).f0) == 1 && (((rd_T45 t271 0).f1) == 1 && (((rd_T45 t271 0).f2) == 1 && (((rd_T45 t271 0).f3) == 1)))) = true then (if 1 < (t271.length : Int) then (if ((rd_T45 t271 1).f2) = 2 then (if 2 < (t271.length : Int) then (some (((rd_T45 t271 2).f0) == 3)) else (none)) else (some false)) else (none)) else (some false)) else (none)) else (some false)))
set_option maxHeartbeats 8000000 in
set_option maxRecDepth 100000 in
theorem revetmentlaw41_live.calls  (r : Bool) (w : World) (h : revetmentlaw41_live.f  = some r) :
  Calls Try.prog 34 #[] w fun e w' => e = .returned (.bool r) ∧ Below w.heap.size w w' := by
 have hu45 := Try.underlying45
 have HB := Aside0.mk (Below.refl w.heap.size w)
 have H : ((conf_Plain.f).bind fun bt260 => ((extent_Runs.f bt260.1 bt260.2.1 bt260.2.2.1 bt260.2.2.2.1 bt260.2.2.2.2.1 bt260.2.2.2.2.2.1 bt260.2.2.2.2.2.2.1 bt260.2.2.2.2.2.2.2.1 bt260.2.2.2.2.2.2.2.2.1 bt260.2.2.2.2.2.2.2.2.2.1 bt260.2.2.2.2.2.2.2.2.2.2 1 4).bind fun t271 => (if (t271.length : Int) = 3 then (if 0 < (t271.length : Int) then (if (((rd_T45 t271 0).f0) == 1 && (((rd_T45 t271 0).f1) == 1 && (((rd_T45 t271 0).f2) == 1 && (((rd_T45 t271 0).f3) == 1)))) = true then (if 1 < (t271.length : Int) then (if ((rd_T45 t271 1).f2) = 2 then (if 2 < (t271.length : Int) then (some (((rd_T45 t271 2).f0) == 3)) else (none)) else (some false)) else (none)) else (some false)) else (none)) else (some false)))) = some r := h
 clear h
 replace H := Option.bind_eq_some_iff.mp H
 obtain ⟨⟨t260, t261, t262, t263, t264, t265, t266, t267, t268, t269, t270⟩, A10, H⟩ := H
 replace H : ((extent_Runs.f t260 t261 t262 t263 t264 t265 t266 t267 t268 t269 t270 1 4).bind fun t271 => (if (t271.length : Int) = 3 then (if 0 < (t271.length : Int) then (if (((rd_T45 t271 0).f0) == 1 && (((rd_T45 t271 0).f1) == 1 && (((rd_T45 t271 0).f2) == 1 && (((rd_T45 t271 0).f3) == 1)))) = true then (if 1 < (t271.length : Int) then (if ((rd_T45 t271 1).f2) = 2 then (if 2 < (t271.length : Int) then (some (((rd_T45 t271 2).f0) == 3)) else (none)) else (some false)) else (none)) else (some false)) else (none)) else (some false))) = some r := H
 have A1 := Aside0.mk A10
 clear A10
 replace H := Option.bind_eq_some_iff.mp H
 obtain ⟨t271, A20, H⟩ := H
 replace H : (if (t271.length : Int) = 3 then (if 0 < (t271.length : Int) then (if (((rd_T45 t271 0).f0) == 1 && (((rd_T45 t271 0).f1) == 1 && (((rd_T45 t271 0).f2) == 1 && (((rd_T45 t271 0).f3) == 1)))) = true then (if 1 < (t271.length : Int) then (if ((rd_T45 t271 1).f2) = 2 then (if 2 < (t271.length : Int) then (some (((rd_T45 t271 2).f0) == 3)) else (none)) else (some false)) else (none)) else (some false)) else (none)) else (some false)) = some r := H
 have A2 := Aside0.mk A20
 clear A20
 by_cases c3 : (t271.length : Int) = 3
 ·rw [if_pos c3] at H
  have c3b0 : ((t271.length : Int) == 3) = true := beq_iff_eq.mpr c3
  have c3b1 : ((t271.length : Int) != 3) = false := bne_eq_false_iff_eq.mpr c3
  clear c3
  by_cases c4 : 0 < (t271.length : Int)
  ·rw [if_pos c4] at H
   have c4b0 : decide (0 < (t271.length : Int)) = true := decide_eq_true c4
   have c4b1 : decide (0 < t271.length) = true := decide_eq_true (by omega)
   clear c4
   by_cases c5 : (((rd_T45 t271 0).f0) == 1 && (((rd_T45 t271 0).f1) == 1 && (((rd_T45 t271 0).f2) == 1 && (((rd_T45 t271 0).f3) == 1)))) = true
   ·rw [if_pos c5] at H
    have c5b0 : (((rd_T45 t271 0).f0) == 1 && (((rd_T45 t271 0).f1) == 1 && (((rd_T45 t271 0).f2) == 1 && (((rd_T45 t271 0).f3) == 1)))) = true := c5
    (try (have c5b1 : decide (((rd_T45 t271 0).f0) = 1 && (((rd_T45 t271 0).f1) == 1 && (((rd_T45 t271 0).f2) == 1 && (((rd_T45 t271 0).f3) == 1)))) = true := by simpa using c5))
    (try (have c5b2 : (((rd_T45 t271 0).f0) == 1 && (((rd_T45 t271 0).f1) == 1 && (((rd_T45 t271 0).f2) == 1 && (((rd_T45 t271 0).f3) == 1)))) = true := by simpa using c5))
    clear c5
    by_cases c6 : 1 < (t271.length : Int)
    ·rw [if_pos c6] at H
     have c6b0 : decide (1 < (t271.length : Int)) = true := decide_eq_true c6
     have c6b1 : decide (1 < t271.length) = true := decide_eq_true (by omega)
     clear c6
     by_cases c7 : ((rd_T45 t271 1).f2) = 2
     ·rw [if_pos c7] at H
      have c7b0 : (((rd_T45 t271 1).f2) == 2) = true := beq_iff_eq.mpr c7
      have c7b1 : (((rd_T45 t271 1).f2) != 2) = false := bne_eq_false_iff_eq.mpr c7
      clear c7
      by_cases c8 : 2 < (t271.length : Int)
      ·rw [if_pos c8] at H
       have c8b0 : decide (2 < (t271.length : Int)) = true := decide_eq_true c8
       have c8b1 : decide (2 < t271.length) = true := decide_eq_true (by omega)
       clear c8
       obtain rfl := Option.some.inj H
       go_enter Try.func34, Try.ntmps34
       go_wp2_with (first | ((with_reducible refine gate_callee (f := 72) rfl ?_); refine goesL_ (some 2) rfl rfl Try.func72 (by kernel_rfl) rfl #[] rfl (by (try simp only [List.map_toArray, List.map_cons, List.map_nil]); first | done | rfl | (simp only [List.length_drop, List.length_take]; rfl)) ?_; (with_reducible refine (conf_Plain.calls  t260 t261 t262 t263 t264 t265 t266 t267 t268 t269 t270 _ A1.out).mono ?_); rintro e w9 ⟨rfl, hb⟩; refine ⟨_, rfl, ?_⟩; have n0_ := bst HB hb; clear HB; have HB := n0_; clear n0_; (try clear hb); (try clear hb2); (try clear hk); (try clear hi)) | ((with_reducible refine gate_callee (f := 75) rfl ?_); refine goesL_ (some 3) rfl rfl Try.func75 (by kernel_rfl) rfl #[.agg #[.int .i64 t260, .int .i64 t261, .int .i64 t262, .int .i64 t263, .int .i64 t264, .int .i64 t265, .int .i64 t266, .int .i64 t267, .int .i64 t268, .int .i64 t269, .int .i64 t270], .int .i64 1, .int .i64 4] rfl (by (try simp only [List.map_toArray, List.map_cons, List.map_nil]); first | done | rfl | (simp only [List.length_drop, List.length_take]; rfl)) ?_; (with_reducible refine (extent_Runs.calls t260 t261 t262 t263 t264 t265 t266 t267 t268 t269 t270 1 4 t271 _ A2.out).mono ?_); rintro e w10 ⟨v272, rfl, ho0, hb⟩; refine ⟨_, rfl, ?_⟩; have n0_ := Aside0.mk (Kd.R_lower ho0 (below_size (bl HB))); have n1_ := bst HB hb; clear HB; have HO273 := n0_; have HB := n1_; clear n0_ n1_; (try clear hb); (try clear hb2); (try clear hk); (try clear hi); (try clear ho0); obtain ⟨Ao11, co11, eo11⟩ := Kd.R_slice HO273.out; subst eo11; have p274 : 0 ≤ (0 : Int) := (by omega); have q274 : 0 < (t271.length : Int) := of_decide_eq_true (by first | (with_reducible assumption) | assumption); obtain ⟨ad274, e274, hx274_0, hx274_1, hx274_2, hx274_3⟩ := at_T45 (Kd.R_reads' HO273.out).2.2 0 p274 q274; cases e274; have qi274 : (0 < t271.length) = True := eq_true (by omega); (try rw [show ((0 : Int)).toNat = 0 from rfl] at hx274_0); (try rw [show 0 * 4 = 0 from rfl] at hx274_0); (try rw [Addr.add_zero'] at hx274_0); (try rw [show ((0 : Int)).toNat = 0 from rfl] at hx274_1); (try rw [show 0 * 4 = 0 from rfl] at hx274_1); (try rw [Addr.add_zero'] at hx274_1); (try rw [show ((0 : Int)).toNat = 0 from rfl] at hx274_2); (try rw [show 0 * 4 = 0 from rfl] at hx274_2); (try rw [Addr.add_zero'] at hx274_2); (try rw [show ((0 : Int)).toNat = 0 from rfl] at hx274_3); (try rw [show 0 * 4 = 0 from rfl] at hx274_3); (try rw [Addr.add_zero'] at hx274_3); replace p274 := eq_true p274; replace q274 := eq_true q274; have p275 : 0 ≤ (1 : Int) := (by omega); have q275 : 1 < (t271.length : Int) := of_decide_eq_true (by first | (with_reducible assumption) | assumption); obtain ⟨ad275, e275, hx275_0, hx275_1, hx275_2, hx275_3⟩ := at_T45 (Kd.R_reads' HO273.out).2.2 1 p275 q275; obtain rfl : ad274 = ad275 := (by injection e275); (try simp only [show (1 : Int).toNat = 1 from rfl, Nat.reduceMul, Nat.reduceEqDiff, Go.Addr.add, ↓reduceIte] at hx275_0); (try simp only [show (1 : Int).toNat = 1 from rfl, Nat.reduceMul, Nat.reduceEqDiff, Go.Addr.add, ↓reduceIte] at hx275_1); (try simp only [show (1 : Int).toNat = 1 from rfl, Nat.reduceMul, Nat.reduceEqDiff, Go.Addr.add, ↓reduceIte] at hx275_2); (try simp only [show (1 : Int).toNat = 1 from rfl, Nat.reduceMul, Nat.reduceEqDiff, Go.Addr.add, ↓reduceIte] at hx275_3); have qi275 : (1 < t271.length) = True := eq_true (by omega); (try rw [show ((1 : Int)).toNat = 1 from rfl] at hx275_0); (try rw [show 1 * 4 = 4 from rfl] at hx275_0); (try rw [show ((1 : Int)).toNat = 1 from rfl] at hx275_1); (try rw [show 1 * 4 = 4 from rfl] at hx275_1); (try rw [show ((1 : Int)).toNat = 1 from rfl] at hx275_2); (try rw [show 1 * 4 = 4 from rfl] at hx275_2); (try rw [show ((1 : Int)).toNat = 1 from rfl] at hx275_3); (try rw [show 1 * 4 = 4 from rfl] at hx275_3); replace p275 := eq_true p275; replace q275 := eq_true q275; have p276 : 0 ≤ (2 : Int) := (by omega); have q276 : 2 < (t271.length : Int) := of_decide_eq_true (by first | (with_reducible assumption) | assumption); obtain ⟨ad276, e276, hx276_0, hx276_1, hx276_2, hx276_3⟩ := at_T45 (Kd.R_reads' HO273.out).2.2 2 p276 q276; obtain rfl : ad274 = ad276 := (by injection e276); (try simp only [show (2 : Int).toNat = 2 from rfl, Nat.reduceMul, Nat.reduceEqDiff, Go.Addr.add, ↓reduceIte] at hx276_0); (try simp only [show (2 : Int).toNat = 2 from rfl, Nat.reduceMul, Nat.reduceEqDiff, Go.Addr.add, ↓reduceIte] at hx276_1); (try simp only [show (2 : Int).toNat = 2 from rfl, Nat.reduceMul, Nat.reduceEqDiff, Go.Addr.add, ↓reduceIte] at hx276_2); (try simp only [show (2 : Int).toNat = 2 from rfl, Nat.reduceMul, Nat.reduceEqDiff, Go.Addr.add, ↓reduceIte] at hx276_3); have qi276 : (2 < t271.length) = True := eq_true (by omega); (try rw [show ((2 : Int)).toNat = 2 from rfl] at hx276_0); (try rw [show 2 * 4 = 8 from rfl] at hx276_0); (try rw [show ((2 : Int)).toNat = 2 from rfl] at hx276_1); (try rw [show 2 * 4 = 8 from rfl] at hx276_1); (try rw [show ((2 : Int)).toNat = 2 from rfl] at hx276_2); (try rw [show 2 * 4 = 8 from rfl] at hx276_2); (try rw [show ((2 : Int)).toNat = 2 from rfl] at hx276_3); (try rw [show 2 * 4 = 8 from rfl] at hx276_3); replace p276 := eq_true p276; replace q276 := eq_true q276))
       go_ret
       exact ⟨by first | rfl | (simp [errW_none, errW_some] <;> rfl) | (simp [*, errW_none, errW_some] <;> rfl), bl HB⟩
      ·rw [if_neg c8] at H
       exact absurd H (by simp)
     ·rw [if_neg c7] at H
      have c7b0 : (((rd_T45 t271 1).f2) == 2) = false := beq_eq_false_iff_ne.mpr c7
      have c7b1 : (((rd_T45 t271 1).f2) != 2) = true := bne_iff_ne.mpr c7
      obtain rfl := Option.some.inj H
      go_enter Try.func34, Try.ntmps34
      go_wp2_with (first | ((with_reducible refine gate_callee (f := 72) rfl ?_); refine goesL_ (some 2) rfl rfl Try.func72 (by kernel_rfl) rfl #[] rfl (by (try simp only [List.map_toArray, List.map_cons, List.map_nil]); first | done | rfl | (simp only [List.length_drop, List.length_take]; rfl)) ?_; (with_reducible refine (conf_Plain.calls  t260 t261 t262 t263 t264 t265 t266 t267 t268 t269 t270 _ A1.out).mono ?_); rintro e w12 ⟨rfl, hb⟩; refine ⟨_, rfl, ?_⟩; have n0_ := bst HB hb; clear HB; have HB := n0_; clear n0_; (try clear hb); (try clear hb2); (try clear hk); (try clear hi)) | ((with_reducible refine gate_callee (f := 75) rfl ?_); refine goesL_ (some 3) rfl rfl Try.func75 (by kernel_rfl) rfl #[.agg #[.int .i64 t260, .int .i64 t261, .int .i64 t262, .int .i64 t263, .int .i64 t264, .int .i64 t265, .int .i64 t266, .int .i64 t267, .int .i64 t268, .int .i64 t269, .int .i64 t270], .int .i64 1, .int .i64 4] rfl (by (try simp only [List.map_toArray, List.map_cons, List.map_nil]); first | done | rfl | (simp only [List.length_drop, List.length_take]; rfl)) ?_; (with_reducible refine (extent_Runs.calls t260 t261 t262 t263 t264 t265 t266 t267 t268 t269 t270 1 4 t271 _ A2.out).mono ?_); rintro e w13 ⟨v272, rfl, ho0, hb⟩; refine ⟨_, rfl, ?_⟩; have n0_ := Aside0.mk (Kd.R_lower ho0 (below_size (bl HB))); have n1_ := bst HB hb; clear HB; have HO273 := n0_; have HB := n1_; clear n0_ n1_; (try clear hb); (try clear hb2); (try clear hk); (try clear hi); (try clear ho0); obtain ⟨Ao14, co14, eo14⟩ := Kd.R_slice HO273.out; subst eo14; have p274 : 0 ≤ (0 : Int) := (by omega); have q274 : 0 < (t271.length : Int) := of_decide_eq_true (by first | (with_reducible assumption) | assumption); obtain ⟨ad274, e274, hx274_0, hx274_1, hx274_2, hx274_3⟩ := at_T45 (Kd.R_reads' HO273.out).2.2 0 p274 q274; cases e274; have qi274 : (0 < t271.length) = True := eq_true (by omega); (try rw [show ((0 : Int)).toNat = 0 from rfl] at hx274_0); (try rw [show 0 * 4 = 0 from rfl] at hx274_0); (try rw [Addr.add_zero'] at hx274_0); (try rw [show ((0 : Int)).toNat = 0 from rfl] at hx274_1); (try rw [show 0 * 4 = 0 from rfl] at hx274_1); (try rw [Addr.add_zero'] at hx274_1); (try rw [show ((0 : Int)).toNat = 0 from rfl] at hx274_2); (try rw [show 0 * 4 = 0 from rfl] at hx274_2); (try rw [Addr.add_zero'] at hx274_2); (try rw [show ((0 : Int)).toNat = 0 from rfl] at hx274_3); (try rw [show 0 * 4 = 0 from rfl] at hx274_3); (try rw [Addr.add_zero'] at hx274_3); replace p274 := eq_true p274; replace q274 := eq_true q274; have p275 : 0 ≤ (1 : Int) := (by omega); have q275 : 1 < (t271.length : Int) := of_decide_eq_true (by first | (with_reducible assumption) | assumption); obtain ⟨ad275, e275, hx275_0, hx275_1, hx275_2, hx275_3⟩ := at_T45 (Kd.R_reads' HO273.out).2.2 1 p275 q275; obtain rfl : ad274 = ad275 := (by injection e275); (try simp only [show (1 : Int).toNat = 1 from rfl, Nat.reduceMul, Nat.reduceEqDiff, Go.Addr.add, ↓reduceIte] at hx275_0); (try simp only [show (1 : Int).toNat = 1 from rfl, Nat.reduceMul, Nat.reduceEqDiff, Go.Addr.add, ↓reduceIte] at hx275_1); (try simp only [show (1 : Int).toNat = 1 from rfl, Nat.reduceMul, Nat.reduceEqDiff, Go.Addr.add, ↓reduceIte] at hx275_2); (try simp only [show (1 : Int).toNat = 1 from rfl, Nat.reduceMul, Nat.reduceEqDiff, Go.Addr.add, ↓reduceIte] at hx275_3); have qi275 : (1 < t271.length) = True := eq_true (by omega); (try rw [show ((1 : Int)).toNat = 1 from rfl] at hx275_0); (try rw [show 1 * 4 = 4 from rfl] at hx275_0); (try rw [show ((1 : Int)).toNat = 1 from rfl] at hx275_1); (try rw [show 1 * 4 = 4 from rfl] at hx275_1); (try rw [show ((1 : Int)).toNat = 1 from rfl] at hx275_2); (try rw [show 1 * 4 = 4 from rfl] at hx275_2); (try rw [show ((1 : Int)).toNat = 1 from rfl] at hx275_3); (try rw [show 1 * 4 = 4 from rfl] at hx275_3); replace p275 := eq_true p275; replace q275 := eq_true q275))
      go_ret
      exact ⟨by first | rfl | (simp [errW_none, errW_some] <;> rfl) | (simp [*, errW_none, errW_some] <;> rfl), bl HB⟩
    ·rw [if_neg c6] at H
     exact absurd H (by simp)
   ·rw [if_neg c5] at H
    have c5b0 : (((rd_T45 t271 0).f0) == 1 && (((rd_T45 t271 0).f1) == 1 && (((rd_T45 t271 0).f2) == 1 && (((rd_T45 t271 0).f3) == 1)))) = false := by simpa using c5
    (try (have c5b1 : decide (((rd_T45 t271 0).f0) = 1 && (((rd_T45 t271 0).f1) == 1 && (((rd_T45 t271 0).f2) == 1 && (((rd_T45 t271 0).f3) == 1)))) = false := by simpa using c5))
    (try (have c5b2 : (((rd_T45 t271 0).f0) == 1 && (((rd_T45 t271 0).f1) == 1 && (((rd_T45 t271 0).f2) == 1 && (((rd_T45 t271 0).f3) == 1)))) = false := by simpa using c5))
    (try (have c5b3 : ¬ (((rd_T45 t271 0).f0) = 1 && (((rd_T45 t271 0).f1) == 1 && (((rd_T45 t271 0).f2) == 1 && (((rd_T45 t271 0).f3) == 1)))) := by simpa using c5))
    clear c5
    obtain rfl := Option.some.inj H
    go_enter Try.func34, Try.ntmps34
    go_wp2_with (first | ((with_reducible refine gate_callee (f := 72) rfl ?_); refine goesL_ (some 2) rfl rfl Try.func72 (by kernel_rfl) rfl #[] rfl (by (try simp only [List.map_toArray, List.map_cons, List.map_nil]); first | done | rfl | (simp only [List.length_drop, List.length_take]; rfl)) ?_; (with_reducible refine (conf_Plain.calls  t260 t261 t262 t263 t264 t265 t266 t267 t268 t269 t270 _ A1.out).mono ?_); rintro e w15 ⟨rfl, hb⟩; refine ⟨_, rfl, ?_⟩; have n0_ := bst HB hb; clear HB; have HB := n0_; clear n0_; (try clear hb); (try clear hb2); (try clear hk); (try clear hi)) | ((with_reducible refine gate_callee (f := 75) rfl ?_); refine goesL_ (some 3) rfl rfl Try.func75 (by kernel_rfl) rfl #[.agg #[.int .i64 t260, .int .i64 t261, .int .i64 t262, .int .i64 t263, .int .i64 t264, .int .i64 t265, .int .i64 t266, .int .i64 t267, .int .i64 t268, .int .i64 t269, .int .i64 t270], .int .i64 1, .int .i64 4] rfl (by (try simp only [List.map_toArray, List.map_cons, List.map_nil]); first | done | rfl | (simp only [List.length_drop, List.length_take]; rfl)) ?_; (with_reducible refine (extent_Runs.calls t260 t261 t262 t263 t264 t265 t266 t267 t268 t269 t270 1 4 t271 _ A2.out).mono ?_); rintro e w16 ⟨v272, rfl, ho0, hb⟩; refine ⟨_, rfl, ?_⟩; have n0_ := Aside0.mk (Kd.R_lower ho0 (below_size (bl HB))); have n1_ := bst HB hb; clear HB; have HO273 := n0_; have HB := n1_; clear n0_ n1_; (try clear hb); (try clear hb2); (try clear hk); (try clear hi); (try clear ho0); obtain ⟨Ao17, co17, eo17⟩ := Kd.R_slice HO273.out; subst eo17; have p274 : 0 ≤ (0 : Int) := (by omega); have q274 : 0 < (t271.length : Int) := of_decide_eq_true (by first | (with_reducible assumption) | assumption); obtain ⟨ad274, e274, hx274_0, hx274_1, hx274_2, hx274_3⟩ := at_T45 (Kd.R_reads' HO273.out).2.2 0 p274 q274; cases e274; have qi274 : (0 < t271.length) = True := eq_true (by omega); (try rw [show ((0 : Int)).toNat = 0 from rfl] at hx274_0); (try rw [show 0 * 4 = 0 from rfl] at hx274_0); (try rw [Addr.add_zero'] at hx274_0); (try rw [show ((0 : Int)).toNat = 0 from rfl] at hx274_1); (try rw [show 0 * 4 = 0 from rfl] at hx274_1); (try rw [Addr.add_zero'] at hx274_1); (try rw [show ((0 : Int)).toNat = 0 from rfl] at hx274_2); (try rw [show 0 * 4 = 0 from rfl] at hx274_2); (try rw [Addr.add_zero'] at hx274_2); (try rw [show ((0 : Int)).toNat = 0 from rfl] at hx274_3); (try rw [show 0 * 4 = 0 from rfl] at hx274_3); (try rw [Addr.add_zero'] at hx274_3); replace p274 := eq_true p274; replace q274 := eq_true q274))
    go_ret
    exact ⟨by first | rfl | (simp [errW_none, errW_some] <;> rfl) | (simp [*, errW_none, errW_some] <;> rfl), bl HB⟩
  ·rw [if_neg c4] at H
   exact absurd H (by simp)
 ·rw [if_neg c3] at H
  have c3b0 : ((t271.length : Int) == 3) = false := beq_eq_false_iff_ne.mpr c3
  have c3b1 : ((t271.length : Int) != 3) = true := bne_iff_ne.mpr c3
  obtain rfl := Option.some.inj H
  go_enter Try.func34, Try.ntmps34
  go_wp2_with (first | ((with_reducible refine gate_callee (f := 72) rfl ?_); refine goesL_ (some 2) rfl rfl Try.func72 (by kernel_rfl) rfl #[] rfl (by (try simp only [List.map_toArray, List.map_cons, List.map_nil]); first | done | rfl | (simp only [List.length_drop, List.length_take]; rfl)) ?_; (with_reducible refine (conf_Plain.calls  t260 t261 t262 t263 t264 t265 t266 t267 t268 t269 t270 _ A1.out).mono ?_); rintro e w18 ⟨rfl, hb⟩; refine ⟨_, rfl, ?_⟩; have n0_ := bst HB hb; clear HB; have HB := n0_; clear n0_; (try clear hb); (try clear hb2); (try clear hk); (try clear hi)) | ((with_reducible refine gate_callee (f := 75) rfl ?_); refine goesL_ (some 3) rfl rfl Try.func75 (by kernel_rfl) rfl #[.agg #[.int .i64 t260, .int .i64 t261, .int .i64 t262, .int .i64 t263, .int .i64 t264, .int .i64 t265, .int .i64 t266, .int .i64 t267, .int .i64 t268, .int .i64 t269, .int .i64 t270], .int .i64 1, .int .i64 4] rfl (by (try simp only [List.map_toArray, List.map_cons, List.map_nil]); first | done | rfl | (simp only [List.length_drop, List.length_take]; rfl)) ?_; (with_reducible refine (extent_Runs.calls t260 t261 t262 t263 t264 t265 t266 t267 t268 t269 t270 1 4 t271 _ A2.out).mono ?_); rintro e w19 ⟨v272, rfl, ho0, hb⟩; refine ⟨_, rfl, ?_⟩; have n0_ := Aside0.mk (Kd.R_lower ho0 (below_size (bl HB))); have n1_ := bst HB hb; clear HB; have HO273 := n0_; have HB := n1_; clear n0_ n1_; (try clear hb); (try clear hb2); (try clear hk); (try clear hi); (try clear ho0); obtain ⟨Ao20, co20, eo20⟩ := Kd.R_slice HO273.out; subst eo20))
  go_ret
  exact ⟨by first | rfl | (simp [errW_none, errW_some] <;> rfl) | (simp [*, errW_none, errW_some] <;> rfl), bl HB⟩

end Go.Proofs.Ytekihhbihnmakaa.PA
