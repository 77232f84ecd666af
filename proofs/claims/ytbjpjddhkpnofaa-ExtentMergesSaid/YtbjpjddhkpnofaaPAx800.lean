/- Printed by the kit's print over stand-ins for some functions (xprint.py), with contracts of my own in their place. -/
import Derived.Test.YtbjpjddhkpnofaaPAx0
import Derived.Test.YtbjpjddhkpnofaaPAx1
import Derived.Test.YtbjpjddhkpnofaaPAx901
import Derived.Test.YtbjpjddhkpnofaaPAx2
namespace Go.Proofs.Ytbjpjddhkpnofaa.PA
open Go.RowKit Go.Proofs.YtbjpjddhkpnofaaW.PrintWords Go.Proofs.YtbjpjddhkpnofaaW.PrintLast
set_option linter.unusedVariables false
set_option linter.unusedSimpArgs false

attribute [local go_sem high] eqA27
-- NOT PRINTED: function 25 (extent_All)

/-! ### revetmentlaw41_live: function 4 -/
def revetmentlaw41_live.f  : Option (Bool) := (conf_Plain.f).bind fun bt106 => ((extent_Runs.f bt106.1 bt106.2.1 bt106.2.2.1 bt106.2.2.2.1 bt106.2.2.2.2.1 bt106.2.2.2.2.2.1 bt106.2.2.2.2.2.2.1 bt106.2.2.2.2.2.2.2.1 bt106.2.2.2.2.2.2.2.2.1 bt106.2.2.2.2.2.2.2.2.2.1 bt106.2.2.2.2.2.2.2.2.2.2 1 4).bind fun t117 => (if (t117.length : Int) = 3 then (if 0 < (t117.length : Int) then (if (((rd_T27 t117 0).f0) == 1 && (((rd_T27 t117 0).f1) == 1 && (((rd_T27 t117 0).f2) == 1 && (((rd_T27 t117 0).f3) == 1)))) = true then (if 1 < (t117.length : Int) then (if ((rd_T27 t117 1).f2) = 2 then (if 2 < (t117.length : Int) then (some (((rd_T27 t117 2).f0) == 3)) else (none)) else (some false)) else (none)) else (some false)) else (none)) else (some false)))
set_option maxHeartbeats 8000000 in
set_option maxRecDepth 100000 in
theorem revetmentlaw41_live.calls  (r : Bool) (w : World) (h : revetmentlaw41_live.f  = some r) :
  Calls Try.prog 4 #[] w fun e w' => e = .returned (.bool r) ∧ Below w.heap.size w w' := by
 have hu27 := Try.underlying27
 have HB := Aside0.mk (Below.refl w.heap.size w)
 have H : ((conf_Plain.f).bind fun bt106 => ((extent_Runs.f bt106.1 bt106.2.1 bt106.2.2.1 bt106.2.2.2.1 bt106.2.2.2.2.1 bt106.2.2.2.2.2.1 bt106.2.2.2.2.2.2.1 bt106.2.2.2.2.2.2.2.1 bt106.2.2.2.2.2.2.2.2.1 bt106.2.2.2.2.2.2.2.2.2.1 bt106.2.2.2.2.2.2.2.2.2.2 1 4).bind fun t117 => (if (t117.length : Int) = 3 then (if 0 < (t117.length : Int) then (if (((rd_T27 t117 0).f0) == 1 && (((rd_T27 t117 0).f1) == 1 && (((rd_T27 t117 0).f2) == 1 && (((rd_T27 t117 0).f3) == 1)))) = true then (if 1 < (t117.length : Int) then (if ((rd_T27 t117 1).f2) = 2 then (if 2 < (t117.length : Int) then (some (((rd_T27 t117 2).f0) == 3)) else (none)) else (some false)) else (none)) else (some false)) else (none)) else (some false)))) = some r := h
 clear h
 replace H := Option.bind_eq_some_iff.mp H
 obtain ⟨⟨t106, t107, t108, t109, t110, t111, t112, t113, t114, t115, t116⟩, A10, H⟩ := H
 replace H : ((extent_Runs.f t106 t107 t108 t109 t110 t111 t112 t113 t114 t115 t116 1 4).bind fun t117 => (if (t117.length : Int) = 3 then (if 0 < (t117.length : Int) then (if (((rd_T27 t117 0).f0) == 1 && (((rd_T27 t117 0).f1) == 1 && (((rd_T27 t117 0).f2) == 1 && (((rd_T27 t117 0).f3) == 1)))) = true then (if 1 < (t117.length : Int) then (if ((rd_T27 t117 1).f2) = 2 then (if 2 < (t117.length : Int) then (some (((rd_T27 t117 2).f0) == 3)) else (none)) else (some false)) else (none)) else (some false)) else (none)) else (some false))) = some r := H
 have A1 := Aside0.mk A10
 clear A10
 replace H := Option.bind_eq_some_iff.mp H
 obtain ⟨t117, A20, H⟩ := H
 replace H : (if (t117.length : Int) = 3 then (if 0 < (t117.length : Int) then (if (((rd_T27 t117 0).f0) == 1 && (((rd_T27 t117 0).f1) == 1 && (((rd_T27 t117 0).f2) == 1 && (((rd_T27 t117 0).f3) == 1)))) = true then (if 1 < (t117.length : Int) then (if ((rd_T27 t117 1).f2) = 2 then (if 2 < (t117.length : Int) then (some (((rd_T27 t117 2).f0) == 3)) else (none)) else (some false)) else (none)) else (some false)) else (none)) else (some false)) = some r := H
 have A2 := Aside0.mk A20
 clear A20
 by_cases c3 : (t117.length : Int) = 3
 ·rw [if_pos c3] at H
  have c3b0 : ((t117.length : Int) == 3) = true := beq_iff_eq.mpr c3
  have c3b1 : ((t117.length : Int) != 3) = false := bne_eq_false_iff_eq.mpr c3
  clear c3
  by_cases c4 : 0 < (t117.length : Int)
  ·rw [if_pos c4] at H
   have c4b0 : decide (0 < (t117.length : Int)) = true := decide_eq_true c4
   have c4b1 : decide (0 < t117.length) = true := decide_eq_true (by omega)
   clear c4
   by_cases c5 : (((rd_T27 t117 0).f0) == 1 && (((rd_T27 t117 0).f1) == 1 && (((rd_T27 t117 0).f2) == 1 && (((rd_T27 t117 0).f3) == 1)))) = true
   ·rw [if_pos c5] at H
    have c5b0 : (((rd_T27 t117 0).f0) == 1 && (((rd_T27 t117 0).f1) == 1 && (((rd_T27 t117 0).f2) == 1 && (((rd_T27 t117 0).f3) == 1)))) = true := c5
    (try (have c5b1 : decide (((rd_T27 t117 0).f0) = 1 && (((rd_T27 t117 0).f1) == 1 && (((rd_T27 t117 0).f2) == 1 && (((rd_T27 t117 0).f3) == 1)))) = true := by simpa using c5))
    (try (have c5b2 : (((rd_T27 t117 0).f0) == 1 && (((rd_T27 t117 0).f1) == 1 && (((rd_T27 t117 0).f2) == 1 && (((rd_T27 t117 0).f3) == 1)))) = true := by simpa using c5))
    clear c5
    by_cases c6 : 1 < (t117.length : Int)
    ·rw [if_pos c6] at H
     have c6b0 : decide (1 < (t117.length : Int)) = true := decide_eq_true c6
     have c6b1 : decide (1 < t117.length) = true := decide_eq_true (by omega)
     clear c6
     by_cases c7 : ((rd_T27 t117 1).f2) = 2
     ·rw [if_pos c7] at H
      have c7b0 : (((rd_T27 t117 1).f2) == 2) = true := beq_iff_eq.mpr c7
      have c7b1 : (((rd_T27 t117 1).f2) != 2) = false := bne_eq_false_iff_eq.mpr c7
      clear c7
      by_cases c8 : 2 < (t117.length : Int)
      ·rw [if_pos c8] at H
       have c8b0 : decide (2 < (t117.length : Int)) = true := decide_eq_true c8
       have c8b1 : decide (2 < t117.length) = true := decide_eq_true (by omega)
       clear c8
       obtain rfl := Option.some.inj H
       go_enter Try.func4, Try.ntmps4
       go_wp2_with (first | ((with_reducible refine gate_callee (f := 13) rfl ?_); refine goesL_ (some 2) rfl rfl Try.func13 (by kernel_rfl) rfl #[] rfl (by (try simp only [List.map_toArray, List.map_cons, List.map_nil]); first | done | rfl | (simp only [List.length_drop, List.length_take]; rfl)) ?_; (with_reducible refine (conf_Plain.calls  t106 t107 t108 t109 t110 t111 t112 t113 t114 t115 t116 _ A1.out).mono ?_); rintro e w9 ⟨rfl, hb⟩; refine ⟨_, rfl, ?_⟩; have n0_ := bst HB hb; clear HB; have HB := n0_; clear n0_; (try clear hb); (try clear hb2); (try clear hk); (try clear hi)) | ((with_reducible refine gate_callee (f := 12) rfl ?_); refine goesL_ (some 3) rfl rfl Try.func12 (by kernel_rfl) rfl #[.agg #[.int .i64 t106, .int .i64 t107, .int .i64 t108, .int .i64 t109, .int .i64 t110, .int .i64 t111, .int .i64 t112, .int .i64 t113, .int .i64 t114, .int .i64 t115, .int .i64 t116], .int .i64 1, .int .i64 4] rfl (by (try simp only [List.map_toArray, List.map_cons, List.map_nil]); first | done | rfl | (simp only [List.length_drop, List.length_take]; rfl)) ?_; (with_reducible refine (extent_Runs.calls t106 t107 t108 t109 t110 t111 t112 t113 t114 t115 t116 1 4 t117 _ A2.out).mono ?_); rintro e w10 ⟨v118, rfl, ho0, hb⟩; refine ⟨_, rfl, ?_⟩; have n0_ := Aside0.mk (Kd.R_lower ho0 (below_size (bl HB))); have n1_ := bst HB hb; clear HB; have HO119 := n0_; have HB := n1_; clear n0_ n1_; (try clear hb); (try clear hb2); (try clear hk); (try clear hi); (try clear ho0); obtain ⟨Ao11, co11, eo11⟩ := Kd.R_slice HO119.out; subst eo11; have p120 : 0 ≤ (0 : Int) := (by omega); have q120 : 0 < (t117.length : Int) := of_decide_eq_true (by first | (with_reducible assumption) | assumption); obtain ⟨ad120, e120, hx120_0, hx120_1, hx120_2, hx120_3⟩ := at_T27 (Kd.R_reads' HO119.out).2.2 0 p120 q120; cases e120; have qi120 : (0 < t117.length) = True := eq_true (by omega); (try rw [show ((0 : Int)).toNat = 0 from rfl] at hx120_0); (try rw [show 0 * 4 = 0 from rfl] at hx120_0); (try rw [Addr.add_zero'] at hx120_0); (try rw [show ((0 : Int)).toNat = 0 from rfl] at hx120_1); (try rw [show 0 * 4 = 0 from rfl] at hx120_1); (try rw [Addr.add_zero'] at hx120_1); (try rw [show ((0 : Int)).toNat = 0 from rfl] at hx120_2); (try rw [show 0 * 4 = 0 from rfl] at hx120_2); (try rw [Addr.add_zero'] at hx120_2); (try rw [show ((0 : Int)).toNat = 0 from rfl] at hx120_3); (try rw [show 0 * 4 = 0 from rfl] at hx120_3); (try rw [Addr.add_zero'] at hx120_3); replace p120 := eq_true p120; replace q120 := eq_true q120; have p121 : 0 ≤ (1 : Int) := (by omega); have q121 : 1 < (t117.length : Int) := of_decide_eq_true (by first | (with_reducible assumption) | assumption); obtain ⟨ad121, e121, hx121_0, hx121_1, hx121_2, hx121_3⟩ := at_T27 (Kd.R_reads' HO119.out).2.2 1 p121 q121; obtain rfl : ad120 = ad121 := (by injection e121); (try simp only [show (1 : Int).toNat = 1 from rfl, Nat.reduceMul, Nat.reduceEqDiff, Go.Addr.add, ↓reduceIte] at hx121_0); (try simp only [show (1 : Int).toNat = 1 from rfl, Nat.reduceMul, Nat.reduceEqDiff, Go.Addr.add, ↓reduceIte] at hx121_1); (try simp only [show (1 : Int).toNat = 1 from rfl, Nat.reduceMul, Nat.reduceEqDiff, Go.Addr.add, ↓reduceIte] at hx121_2); (try simp only [show (1 : Int).toNat = 1 from rfl, Nat.reduceMul, Nat.reduceEqDiff, Go.Addr.add, ↓reduceIte] at hx121_3); have qi121 : (1 < t117.length) = True := eq_true (by omega); (try rw [show ((1 : Int)).toNat = 1 from rfl] at hx121_0); (try rw [show 1 * 4 = 4 from rfl] at hx121_0); (try rw [show ((1 : Int)).toNat = 1 from rfl] at hx121_1); (try rw [show 1 * 4 = 4 from rfl] at hx121_1); (try rw [show ((1 : Int)).toNat = 1 from rfl] at hx121_2); (try rw [show 1 * 4 = 4 from rfl] at hx121_2); (try rw [show ((1 : Int)).toNat = 1 from rfl] at hx121_3); (try rw [show 1 * 4 = 4 from rfl] at hx121_3); replace p121 := eq_true p121; replace q121 := eq_true q121; have p122 : 0 ≤ (2 : Int) := (by omega); have q122 : 2 < (t117.length : Int) := of_decide_eq_true (by first | (with_reducible assumption) | assumption); obtain ⟨ad122, e122, hx122_0, hx122_1, hx122_2, hx122_3⟩ := at_T27 (Kd.R_reads' HO119.out).2.2 2 p122 q122; obtain rfl : ad120 = ad122 := (by injection e122); (try simp only [show (2 : Int).toNat = 2 from rfl, Nat.reduceMul, Nat.reduceEqDiff, Go.Addr.add, ↓reduceIte] at hx122_0); (try simp only [show (2 : Int).toNat = 2 from rfl, Nat.reduceMul, Nat.reduceEqDiff, Go.Addr.add, ↓reduceIte] at hx122_1); (try simp only [show (2 : Int).toNat = 2 from rfl, Nat.reduceMul, Nat.reduceEqDiff, Go.Addr.add, ↓reduceIte] at hx122_2); (try simp only [show (2 : Int).toNat = 2 from rfl, Nat.reduceMul, Nat.reduceEqDiff, Go.Addr.add, ↓reduceIte] at hx122_3); have qi122 : (2 < t117.length) = True := eq_true (by omega); (try rw [show ((2 : Int)).toNat = 2 from rfl] at hx122_0); (try rw [show 2 * 4 = 8 from rfl] at hx122_0); (try rw [show ((2 : Int)).toNat = 2 from rfl] at hx122_1); (try rw [show 2 * 4 = 8 from rfl] at hx122_1); (try rw [show ((2 : Int)).toNat = 2 from rfl] at hx122_2); (try rw [show 2 * 4 = 8 from rfl] at hx122_2); (try rw [show ((2 : Int)).toNat = 2 from rfl] at hx122_3); (try rw [show 2 * 4 = 8 from rfl] at hx122_3); replace p122 := eq_true p122; replace q122 := eq_true q122))
       go_ret
       exact ⟨by first | rfl | (simp [errW_none, errW_some] <;> rfl) | (simp [*, errW_none, errW_some] <;> rfl), bl HB⟩
      ·rw [if_neg c8] at H
       exact absurd H (by simp)
     ·rw [if_neg c7] at H
      have c7b0 : (((rd_T27 t117 1).f2) == 2) = false := beq_eq_false_iff_ne.mpr c7
      have c7b1 : (((rd_T27 t117 1).f2) != 2) = true := bne_iff_ne.mpr c7
      obtain rfl := Option.some.inj H
      go_enter Try.func4, Try.ntmps4
      go_wp2_with (first | ((with_reducible refine gate_callee (f := 13) rfl ?_); refine goesL_ (some 2) rfl rfl Try.func13 (by kernel_rfl) rfl #[] rfl (by (try simp only [List.map_toArray, List.map_cons, List.map_nil]); first | done | rfl | (simp only [List.length_drop, List.length_take]; rfl)) ?_; (with_reducible refine (conf_Plain.calls  t106 t107 t108 t109 t110 t111 t112 t113 t114 t115 t116 _ A1.out).mono ?_); rintro e w12 ⟨rfl, hb⟩; refine ⟨_, rfl, ?_⟩; have n0_ := bst HB hb; clear HB; have HB := n0_; clear n0_; (try clear hb); (try clear hb2); (try clear hk); (try clear hi)) | ((with_reducible refine gate_callee (f := 12) rfl ?_); refine goesL_ (some 3) rfl rfl Try.func12 (by kernel_rfl) rfl #[.agg #[.int .i64 t106, .int .i64 t107, .int .i64 t108, .int .i64 t109, .int .i64 t110, .int .i64 t111, .int .i64 t112, .int .i64 t113, .int .i64 t114, .int .i64 t115, .int .i64 t116], .int .i64 1, .int .i64 4] rfl (by (try simp only [List.map_toArray, List.map_cons, List.map_nil]); first | done | rfl | (simp only [List.length_drop, List.length_take]; rfl)) ?_; (with_reducible refine (extent_Runs.calls t106 t107 t108 t109 t110 t111 t112 t113 t114 t115 t116 1 4 t117 _ A2.out).mono ?_); rintro e w13 ⟨v118, rfl, ho0, hb⟩; refine ⟨_, rfl, ?_⟩; have n0_ := Aside0.mk (Kd.R_lower ho0 (below_size (bl HB))); have n1_ := bst HB hb; clear HB; have HO119 := n0_; have HB := n1_; clear n0_ n1_; (try clear hb); (try clear hb2); (try clear hk); (try clear hi); (try clear ho0); obtain ⟨Ao14, co14, eo14⟩ := Kd.R_slice HO119.out; subst eo14; have p120 : 0 ≤ (0 : Int) := (by omega); have q120 : 0 < (t117.length : Int) := of_decide_eq_true (by first | (with_reducible assumption) | assumption); obtain ⟨ad120, e120, hx120_0, hx120_1, hx120_2, hx120_3⟩ := at_T27 (Kd.R_reads' HO119.out).2.2 0 p120 q120; cases e120; have qi120 : (0 < t117.length) = True := eq_true (by omega); (try rw [show ((0 : Int)).toNat = 0 from rfl] at hx120_0); (try rw [show 0 * 4 = 0 from rfl] at hx120_0); (try rw [Addr.add_zero'] at hx120_0); (try rw [show ((0 : Int)).toNat = 0 from rfl] at hx120_1); (try rw [show 0 * 4 = 0 from rfl] at hx120_1); (try rw [Addr.add_zero'] at hx120_1); (try rw [show ((0 : Int)).toNat = 0 from rfl] at hx120_2); (try rw [show 0 * 4 = 0 from rfl] at hx120_2); (try rw [Addr.add_zero'] at hx120_2); (try rw [show ((0 : Int)).toNat = 0 from rfl] at hx120_3); (try rw [show 0 * 4 = 0 from rfl] at hx120_3); (try rw [Addr.add_zero'] at hx120_3); replace p120 := eq_true p120; replace q120 := eq_true q120; have p121 : 0 ≤ (1 : Int) := (by omega); have q121 : 1 < (t117.length : Int) := of_decide_eq_true (by first | (with_reducible assumption) | assumption); obtain ⟨ad121, e121, hx121_0, hx121_1, hx121_2, hx121_3⟩ := at_T27 (Kd.R_reads' HO119.out).2.2 1 p121 q121; obtain rfl : ad120 = ad121 := (by injection e121); (try simp only [show (1 : Int).toNat = 1 from rfl, Nat.reduceMul, Nat.reduceEqDiff, Go.Addr.add, ↓reduceIte] at hx121_0); (try simp only [show (1 : Int).toNat = 1 from rfl, Nat.reduceMul, Nat.reduceEqDiff, Go.Addr.add, ↓reduceIte] at hx121_1); (try simp only [show (1 : Int).toNat = 1 from rfl, Nat.reduceMul, Nat.reduceEqDiff, Go.Addr.add, ↓reduceIte] at hx121_2); (try simp only [show (1 : Int).toNat = 1 from rfl, Nat.reduceMul, Nat.reduceEqDiff, Go.Addr.add, ↓reduceIte] at hx121_3); have qi121 : (1 < t117.length) = True := eq_true (by omega); (try rw [show ((1 : Int)).toNat = 1 from rfl] at hx121_0); (try rw [show 1 * 4 = 4 from rfl] at hx121_0); (try rw [show ((1 : Int)).toNat = 1 from rfl] at hx121_1); (try rw [show 1 * 4 = 4 from rfl] at hx121_1); (try rw [show ((1 : Int)).toNat = 1 from rfl] at hx121_2); (try rw [show 1 * 4 = 4 from rfl] at hx121_2); (try rw [show ((1 : Int)).toNat = 1 from rfl] at hx121_3); (try rw [show 1 * 4 = 4 from rfl] at hx121_3); replace p121 := eq_true p121; replace q121 := eq_true q121))
      go_ret
      exact ⟨by first | rfl | (simp [errW_none, errW_some] <;> rfl) | (simp [*, errW_none, errW_some] <;> rfl), bl HB⟩
    ·rw [if_neg c6] at H
     exact absurd H (by simp)
   ·rw [if_neg c5] at H
    have c5b0 : (((rd_T27 t117 0).f0) == 1 && (((rd_T27 t117 0).f1) == 1 && (((rd_T27 t117 0).f2) == 1 && (((rd_T27 t117 0).f3) == 1)))) = false := by simpa using c5
    (try (have c5b1 : decide (((rd_T27 t117 0).f0) = 1 && (((rd_T27 t117 0).f1) == 1 && (((rd_T27 t117 0).f2) == 1 && (((rd_T27 t117 0).f3) == 1)))) = false := by simpa using c5))
    (try (have c5b2 : (((rd_T27 t117 0).f0) == 1 && (((rd_T27 t117 0).f1) == 1 && (((rd_T27 t117 0).f2) == 1 && (((rd_T27 t117 0).f3) == 1)))) = false := by simpa using c5))
    (try (have c5b3 : ¬ (((rd_T27 t117 0).f0) = 1 && (((rd_T27 t117 0).f1) == 1 && (((rd_T27 t117 0).f2) == 1 && (((rd_T27 t117 0).f3) == 1)))) := by simpa using c5))
    clear c5
    obtain rfl := Option.some.inj H
    go_enter Try.func4, Try.ntmps4
    go_wp2_with (first | ((with_reducible refine gate_callee (f := 13) rfl ?_); refine goesL_ (some 2) rfl rfl Try.func13 (by kernel_rfl) rfl #[] rfl (by (try simp only [List.map_toArray, List.map_cons, List.map_nil]); first | done | rfl | (simp only [List.length_drop, List.length_take]; rfl)) ?_; (with_reducible refine (conf_Plain.calls  t106 t107 t108 t109 t110 t111 t112 t113 t114 t115 t116 _ A1.out).mono ?_); rintro e w15 ⟨rfl, hb⟩; refine ⟨_, rfl, ?_⟩; have n0_ := bst HB hb; clear HB; have HB := n0_; clear n0_; (try clear hb); (try clear hb2); (try clear hk); (try clear hi)) | ((with_reducible refine gate_callee (f := 12) rfl ?_); refine goesL_ (some 3) rfl rfl Try.func12 (by kernel_rfl) rfl #[.agg #[.int .i64 t106, .int .i64 t107, .int .i64 t108, .int .i64 t109, .int .i64 t110, .int .i64 t111, .int .i64 t112, .int .i64 t113, .int .i64 t114, .int .i64 t115, .int .i64 t116], .int .i64 1, .int .i64 4] rfl (by (try simp only [List.map_toArray, List.map_cons, List.map_nil]); first | done | rfl | (simp only [List.length_drop, List.length_take]; rfl)) ?_; (with_reducible refine (extent_Runs.calls t106 t107 t108 t109 t110 t111 t112 t113 t114 t115 t116 1 4 t117 _ A2.out).mono ?_); rintro e w16 ⟨v118, rfl, ho0, hb⟩; refine ⟨_, rfl, ?_⟩; have n0_ := Aside0.mk (Kd.R_lower ho0 (below_size (bl HB))); have n1_ := bst HB hb; clear HB; have HO119 := n0_; have HB := n1_; clear n0_ n1_; (try clear hb); (try clear hb2); (try clear hk); (try clear hi); (try clear ho0); obtain ⟨Ao17, co17, eo17⟩ := Kd.R_slice HO119.out; subst eo17; have p120 : 0 ≤ (0 : Int) := (by omega); have q120 : 0 < (t117.length : Int) := of_decide_eq_true (by first | (with_reducible assumption) | assumption); obtain ⟨ad120, e120, hx120_0, hx120_1, hx120_2, hx120_3⟩ := at_T27 (Kd.R_reads' HO119.out).2.2 0 p120 q120; cases e120; have qi120 : (0 < t117.length) = True := eq_true (by omega); (try rw [show ((0 : Int)).toNat = 0 from rfl] at hx120_0); (try rw [show 0 * 4 = 0 from rfl] at hx120_0); (try rw [Addr.add_zero'] at hx120_0); (try rw [show ((0 : Int)).toNat = 0 from rfl] at hx120_1); (try rw [show 0 * 4 = 0 from rfl] at hx120_1); (try rw [Addr.add_zero'] at hx120_1); (try rw [show ((0 : Int)).toNat = 0 from rfl] at hx120_2); (try rw [show 0 * 4 = 0 from rfl] at hx120_2); (try rw [Addr.add_zero'] at hx120_2); (try rw [show ((0 : Int)).toNat = 0 from rfl] at hx120_3); (try rw [show 0 * 4 = 0 from rfl] at hx120_3); (try rw [Addr.add_zero'] at hx120_3); replace p120 := eq_true p120; replace q120 := eq_true q120))
    go_ret
    exact ⟨by first | rfl | (simp [errW_none, errW_some] <;> rfl) | (simp [*, errW_none, errW_some] <;> rfl), bl HB⟩
  ·rw [if_neg c4] at H
   exact absurd H (by simp)
 ·rw [if_neg c3] at H
  have c3b0 : ((t117.length : Int) == 3) = false := beq_eq_false_iff_ne.mpr c3
  have c3b1 : ((t117.length : Int) != 3) = true := bne_iff_ne.mpr c3
  obtain rfl := Option.some.inj H
  go_enter Try.func4, Try.ntmps4
  go_wp2_with (first | ((with_reducible refine gate_callee (f := 13) rfl ?_); refine goesL_ (some 2) rfl rfl Try.func13 (by kernel_rfl) rfl #[] rfl (by (try simp only [List.map_toArray, List.map_cons, List.map_nil]); first | done | rfl | (simp only [List.length_drop, List.length_take]; rfl)) ?_; (with_reducible refine (conf_Plain.calls  t106 t107 t108 t109 t110 t111 t112 t113 t114 t115 t116 _ A1.out).mono ?_); rintro e w18 ⟨rfl, hb⟩; refine ⟨_, rfl, ?_⟩; have n0_ := bst HB hb; clear HB; have HB := n0_; clear n0_; (try clear hb); (try clear hb2); (try clear hk); (try clear hi)) | ((with_reducible refine gate_callee (f := 12) rfl ?_); refine goesL_ (some 3) rfl rfl Try.func12 (by kernel_rfl) rfl #[.agg #[.int .i64 t106, .int .i64 t107, .int .i64 t108, .int .i64 t109, .int .i64 t110, .int .i64 t111, .int .i64 t112, .int .i64 t113, .int .i64 t114, .int .i64 t115, .int .i64 t116], .int .i64 1, .int .i64 4] rfl (by (try simp only [List.map_toArray, List.map_cons, List.map_nil]); first | done | rfl | (simp only [List.length_drop, List.length_take]; rfl)) ?_; (with_reducible refine (extent_Runs.calls t106 t107 t108 t109 t110 t111 t112 t113 t114 t115 t116 1 4 t117 _ A2.out).mono ?_); rintro e w19 ⟨v118, rfl, ho0, hb⟩; refine ⟨_, rfl, ?_⟩; have n0_ := Aside0.mk (Kd.R_lower ho0 (below_size (bl HB))); have n1_ := bst HB hb; clear HB; have HO119 := n0_; have HB := n1_; clear n0_ n1_; (try clear hb); (try clear hb2); (try clear hk); (try clear hi); (try clear ho0); obtain ⟨Ao20, co20, eo20⟩ := Kd.R_slice HO119.out; subst eo20))
  go_ret
  exact ⟨by first | rfl | (simp [errW_none, errW_some] <;> rfl) | (simp [*, errW_none, errW_some] <;> rfl), bl HB⟩

-- NOT PRINTED: function 52 (conf_sane)

-- NOT PRINTED: function 53 (conf_numbers)

-- NOT PRINTED: function 41 (conf_of)

-- NOT PRINTED: function 27 (conf_All)

-- NOT PRINTED: function 28 (conf_Room)

end Go.Proofs.Ytbjpjddhkpnofaa.PA
