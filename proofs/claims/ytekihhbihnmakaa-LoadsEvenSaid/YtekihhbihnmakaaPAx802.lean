/- Printed by the kit's print over stand-ins for some functions (xprint.py), with contracts of my own in their place. -/
import Derived.Test.YtekihhbihnmakaaPAx0
import Derived.Test.YtekihhbihnmakaaPAx4
import Derived.Test.YtekihhbihnmakaaPAx16
import Derived.Test.YtekihhbihnmakaaPAx903
import Derived.Test.YtekihhbihnmakaaPAx54
namespace Go.Proofs.Ytekihhbihnmakaa.PA
open Go.RowKit Go.Proofs.YtekihhbihnmakaaW.PrintWords Go.Proofs.YtekihhbihnmakaaW.PrintLast
set_option linter.unusedVariables false
set_option linter.unusedSimpArgs false

attribute [local go_sem high] eqA75
-- NOT PRINTED: function 88 (loads_start)

/-! ### revetmentlaw44_live: function 60 -/
def revetmentlaw44_live.f  : Option (Bool) := (conf_Plain.f).bind fun bt659 => ((loads_Of.f bt659.1 bt659.2.1 bt659.2.2.1 bt659.2.2.2.1 bt659.2.2.2.2.1 bt659.2.2.2.2.2.1 bt659.2.2.2.2.2.2.1 bt659.2.2.2.2.2.2.2.1 bt659.2.2.2.2.2.2.2.2.1 bt659.2.2.2.2.2.2.2.2.2.1 bt659.2.2.2.2.2.2.2.2.2.2 0 6).bind fun t670 => (if (t670.length : Int) = 4 then (if 0 < (t670.length : Int) then (if (((rd_T75 t670 0).f0) == 0 && (((rd_T75 t670 0).f1) == 2)) = true then (if 3 < (t670.length : Int) then (some (((rd_T75 t670 3).f0) == 2 && (((rd_T75 t670 3).f1) == 0))) else (none)) else (some false)) else (none)) else (some false)))
set_option maxHeartbeats 8000000 in
set_option maxRecDepth 100000 in
theorem revetmentlaw44_live.calls  (r : Bool) (w : World) (h : revetmentlaw44_live.f  = some r) :
  Calls Try.prog 60 #[] w fun e w' => e = .returned (.bool r) ∧ Below w.heap.size w w' := by
 have hu75 := Try.underlying75
 have HB := Aside0.mk (Below.refl w.heap.size w)
 have H : ((conf_Plain.f).bind fun bt659 => ((loads_Of.f bt659.1 bt659.2.1 bt659.2.2.1 bt659.2.2.2.1 bt659.2.2.2.2.1 bt659.2.2.2.2.2.1 bt659.2.2.2.2.2.2.1 bt659.2.2.2.2.2.2.2.1 bt659.2.2.2.2.2.2.2.2.1 bt659.2.2.2.2.2.2.2.2.2.1 bt659.2.2.2.2.2.2.2.2.2.2 0 6).bind fun t670 => (if (t670.length : Int) = 4 then (if 0 < (t670.length : Int) then (if (((rd_T75 t670 0).f0) == 0 && (((rd_T75 t670 0).f1) == 2)) = true then (if 3 < (t670.length : Int) then (some (((rd_T75 t670 3).f0) == 2 && (((rd_T75 t670 3).f1) == 0))) else (none)) else (some false)) else (none)) else (some false)))) = some r := h
 clear h
 replace H := Option.bind_eq_some_iff.mp H
 obtain ⟨⟨t659, t660, t661, t662, t663, t664, t665, t666, t667, t668, t669⟩, A10, H⟩ := H
 replace H : ((loads_Of.f t659 t660 t661 t662 t663 t664 t665 t666 t667 t668 t669 0 6).bind fun t670 => (if (t670.length : Int) = 4 then (if 0 < (t670.length : Int) then (if (((rd_T75 t670 0).f0) == 0 && (((rd_T75 t670 0).f1) == 2)) = true then (if 3 < (t670.length : Int) then (some (((rd_T75 t670 3).f0) == 2 && (((rd_T75 t670 3).f1) == 0))) else (none)) else (some false)) else (none)) else (some false))) = some r := H
 have A1 := Aside0.mk A10
 clear A10
 replace H := Option.bind_eq_some_iff.mp H
 obtain ⟨t670, A20, H⟩ := H
 replace H : (if (t670.length : Int) = 4 then (if 0 < (t670.length : Int) then (if (((rd_T75 t670 0).f0) == 0 && (((rd_T75 t670 0).f1) == 2)) = true then (if 3 < (t670.length : Int) then (some (((rd_T75 t670 3).f0) == 2 && (((rd_T75 t670 3).f1) == 0))) else (none)) else (some false)) else (none)) else (some false)) = some r := H
 have A2 := Aside0.mk A20
 clear A20
 by_cases c3 : (t670.length : Int) = 4
 ·rw [if_pos c3] at H
  have c3b0 : ((t670.length : Int) == 4) = true := beq_iff_eq.mpr c3
  have c3b1 : ((t670.length : Int) != 4) = false := bne_eq_false_iff_eq.mpr c3
  clear c3
  by_cases c4 : 0 < (t670.length : Int)
  ·rw [if_pos c4] at H
   have c4b0 : decide (0 < (t670.length : Int)) = true := decide_eq_true c4
   have c4b1 : decide (0 < t670.length) = true := decide_eq_true (by omega)
   clear c4
   by_cases c5 : (((rd_T75 t670 0).f0) == 0 && (((rd_T75 t670 0).f1) == 2)) = true
   ·rw [if_pos c5] at H
    have c5b0 : (((rd_T75 t670 0).f0) == 0 && (((rd_T75 t670 0).f1) == 2)) = true := c5
    (try (have c5b1 : decide (((rd_T75 t670 0).f0) = 0 && (((rd_T75 t670 0).f1) == 2)) = true := by simpa using c5))
    (try (have c5b2 : (((rd_T75 t670 0).f0) == 0 && (((rd_T75 t670 0).f1) == 2)) = true := by simpa using c5))
    clear c5
    by_cases c6 : 3 < (t670.length : Int)
    ·rw [if_pos c6] at H
     have c6b0 : decide (3 < (t670.length : Int)) = true := decide_eq_true c6
     have c6b1 : decide (3 < t670.length) = true := decide_eq_true (by omega)
     clear c6
     obtain rfl := Option.some.inj H
     go_enter Try.func60, Try.ntmps60
     go_wp2_with (first | ((with_reducible refine gate_callee (f := 72) rfl ?_); refine goesL_ (some 2) rfl rfl Try.func72 (by kernel_rfl) rfl #[] rfl (by (try simp only [List.map_toArray, List.map_cons, List.map_nil]); first | done | rfl | (simp only [List.length_drop, List.length_take]; rfl)) ?_; (with_reducible refine (conf_Plain.calls  t659 t660 t661 t662 t663 t664 t665 t666 t667 t668 t669 _ A1.out).mono ?_); rintro e w7 ⟨rfl, hb⟩; refine ⟨_, rfl, ?_⟩; have n0_ := bst HB hb; clear HB; have HB := n0_; clear n0_; (try clear hb); (try clear hb2); (try clear hk); (try clear hi)) | ((with_reducible refine gate_callee (f := 61) rfl ?_); refine goesL_ (some 3) rfl rfl Try.func61 (by kernel_rfl) rfl #[.agg #[.int .i64 t659, .int .i64 t660, .int .i64 t661, .int .i64 t662, .int .i64 t663, .int .i64 t664, .int .i64 t665, .int .i64 t666, .int .i64 t667, .int .i64 t668, .int .i64 t669], .int .i64 0, .int .i64 6] rfl (by (try simp only [List.map_toArray, List.map_cons, List.map_nil]); first | done | rfl | (simp only [List.length_drop, List.length_take]; rfl)) ?_; (with_reducible refine (loads_Of.calls t659 t660 t661 t662 t663 t664 t665 t666 t667 t668 t669 0 6 t670 _ A2.out).mono ?_); rintro e w8 ⟨v671, rfl, ho0, hb⟩; refine ⟨_, rfl, ?_⟩; have n0_ := Aside0.mk (Kd.R_lower ho0 (below_size (bl HB))); have n1_ := bst HB hb; clear HB; have HO672 := n0_; have HB := n1_; clear n0_ n1_; (try clear hb); (try clear hb2); (try clear hk); (try clear hi); (try clear ho0); obtain ⟨Ao9, co9, eo9⟩ := Kd.R_slice HO672.out; subst eo9; have p673 : 0 ≤ (0 : Int) := (by omega); have q673 : 0 < (t670.length : Int) := of_decide_eq_true (by first | (with_reducible assumption) | assumption); obtain ⟨ad673, e673, hx673_0, hx673_1⟩ := at_T75 (Kd.R_reads' HO672.out).2.2 0 p673 q673; cases e673; have qi673 : (0 < t670.length) = True := eq_true (by omega); (try rw [show ((0 : Int)).toNat = 0 from rfl] at hx673_0); (try rw [show 0 * 2 = 0 from rfl] at hx673_0); (try rw [Addr.add_zero'] at hx673_0); (try rw [show ((0 : Int)).toNat = 0 from rfl] at hx673_1); (try rw [show 0 * 2 = 0 from rfl] at hx673_1); (try rw [Addr.add_zero'] at hx673_1); replace p673 := eq_true p673; replace q673 := eq_true q673; have p674 : 0 ≤ (3 : Int) := (by omega); have q674 : 3 < (t670.length : Int) := of_decide_eq_true (by first | (with_reducible assumption) | assumption); obtain ⟨ad674, e674, hx674_0, hx674_1⟩ := at_T75 (Kd.R_reads' HO672.out).2.2 3 p674 q674; obtain rfl : ad673 = ad674 := (by injection e674); (try simp only [show (3 : Int).toNat = 3 from rfl, Nat.reduceMul, Nat.reduceEqDiff, Go.Addr.add, ↓reduceIte] at hx674_0); (try simp only [show (3 : Int).toNat = 3 from rfl, Nat.reduceMul, Nat.reduceEqDiff, Go.Addr.add, ↓reduceIte] at hx674_1); have qi674 : (3 < t670.length) = True := eq_true (by omega); (try rw [show ((3 : Int)).toNat = 3 from rfl] at hx674_0); (try rw [show 3 * 2 = 6 from rfl] at hx674_0); (try rw [show ((3 : Int)).toNat = 3 from rfl] at hx674_1); (try rw [show 3 * 2 = 6 from rfl] at hx674_1); replace p674 := eq_true p674; replace q674 := eq_true q674))
     go_ret
     exact ⟨by first | rfl | (simp [errW_none, errW_some] <;> rfl) | (simp [*, errW_none, errW_some] <;> rfl), bl HB⟩
    ·rw [if_neg c6] at H
     exact absurd H (by simp)
   ·rw [if_neg c5] at H
    have c5b0 : (((rd_T75 t670 0).f0) == 0 && (((rd_T75 t670 0).f1) == 2)) = false := by simpa using c5
    (try (have c5b1 : decide (((rd_T75 t670 0).f0) = 0 && (((rd_T75 t670 0).f1) == 2)) = false := by simpa using c5))
    (try (have c5b2 : (((rd_T75 t670 0).f0) == 0 && (((rd_T75 t670 0).f1) == 2)) = false := by simpa using c5))
    (try (have c5b3 : ¬ (((rd_T75 t670 0).f0) = 0 && (((rd_T75 t670 0).f1) == 2)) := by simpa using c5))
    clear c5
    obtain rfl := Option.some.inj H
    go_enter Try.func60, Try.ntmps60
    go_wp2_with (first | ((with_reducible refine gate_callee (f := 72) rfl ?_); refine goesL_ (some 2) rfl rfl Try.func72 (by kernel_rfl) rfl #[] rfl (by (try simp only [List.map_toArray, List.map_cons, List.map_nil]); first | done | rfl | (simp only [List.length_drop, List.length_take]; rfl)) ?_; (with_reducible refine (conf_Plain.calls  t659 t660 t661 t662 t663 t664 t665 t666 t667 t668 t669 _ A1.out).mono ?_); rintro e w10 ⟨rfl, hb⟩; refine ⟨_, rfl, ?_⟩; have n0_ := bst HB hb; clear HB; have HB := n0_; clear n0_; (try clear hb); (try clear hb2); (try clear hk); (try clear hi)) | ((with_reducible refine gate_callee (f := 61) rfl ?_); refine goesL_ (some 3) rfl rfl Try.func61 (by kernel_rfl) rfl #[.agg #[.int .i64 t659, .int .i64 t660, .int .i64 t661, .int .i64 t662, .int .i64 t663, .int .i64 t664, .int .i64 t665, .int .i64 t666, .int .i64 t667, .int .i64 t668, .int .i64 t669], .int .i64 0, .int .i64 6] rfl (by (try simp only [List.map_toArray, List.map_cons, List.map_nil]); first | done | rfl | (simp only [List.length_drop, List.length_take]; rfl)) ?_; (with_reducible refine (loads_Of.calls t659 t660 t661 t662 t663 t664 t665 t666 t667 t668 t669 0 6 t670 _ A2.out).mono ?_); rintro e w11 ⟨v671, rfl, ho0, hb⟩; refine ⟨_, rfl, ?_⟩; have n0_ := Aside0.mk (Kd.R_lower ho0 (below_size (bl HB))); have n1_ := bst HB hb; clear HB; have HO672 := n0_; have HB := n1_; clear n0_ n1_; (try clear hb); (try clear hb2); (try clear hk); (try clear hi); (try clear ho0); obtain ⟨Ao12, co12, eo12⟩ := Kd.R_slice HO672.out; subst eo12; have p673 : 0 ≤ (0 : Int) := (by omega); have q673 : 0 < (t670.length : Int) := of_decide_eq_true (by first | (with_reducible assumption) | assumption); obtain ⟨ad673, e673, hx673_0, hx673_1⟩ := at_T75 (Kd.R_reads' HO672.out).2.2 0 p673 q673; cases e673; have qi673 : (0 < t670.length) = True := eq_true (by omega); (try rw [show ((0 : Int)).toNat = 0 from rfl] at hx673_0); (try rw [show 0 * 2 = 0 from rfl] at hx673_0); (try rw [Addr.add_zero'] at hx673_0); (try rw [show ((0 : Int)).toNat = 0 from rfl] at hx673_1); (try rw [show 0 * 2 = 0 from rfl] at hx673_1); (try rw [Addr.add_zero'] at hx673_1); replace p673 := eq_true p673; replace q673 := eq_true q673))
    go_ret
    exact ⟨by first | rfl | (simp [errW_none, errW_some] <;> rfl) | (simp [*, errW_none, errW_some] <;> rfl), bl HB⟩
  ·rw [if_neg c4] at H
   exact absurd H (by simp)
 ·rw [if_neg c3] at H
  have c3b0 : ((t670.length : Int) == 4) = false := beq_eq_false_iff_ne.mpr c3
  have c3b1 : ((t670.length : Int) != 4) = true := bne_iff_ne.mpr c3
  obtain rfl := Option.some.inj H
  go_enter Try.func60, Try.ntmps60
  go_wp2_with (first | ((with_reducible refine gate_callee (f := 72) rfl ?_); refine goesL_ (some 2) rfl rfl Try.func72 (by kernel_rfl) rfl #[] rfl (by (try simp only [List.map_toArray, List.map_cons, List.map_nil]); first | done | rfl | (simp only [List.length_drop, List.length_take]; rfl)) ?_; (with_reducible refine (conf_Plain.calls  t659 t660 t661 t662 t663 t664 t665 t666 t667 t668 t669 _ A1.out).mono ?_); rintro e w13 ⟨rfl, hb⟩; refine ⟨_, rfl, ?_⟩; have n0_ := bst HB hb; clear HB; have HB := n0_; clear n0_; (try clear hb); (try clear hb2); (try clear hk); (try clear hi)) | ((with_reducible refine gate_callee (f := 61) rfl ?_); refine goesL_ (some 3) rfl rfl Try.func61 (by kernel_rfl) rfl #[.agg #[.int .i64 t659, .int .i64 t660, .int .i64 t661, .int .i64 t662, .int .i64 t663, .int .i64 t664, .int .i64 t665, .int .i64 t666, .int .i64 t667, .int .i64 t668, .int .i64 t669], .int .i64 0, .int .i64 6] rfl (by (try simp only [List.map_toArray, List.map_cons, List.map_nil]); first | done | rfl | (simp only [List.length_drop, List.length_take]; rfl)) ?_; (with_reducible refine (loads_Of.calls t659 t660 t661 t662 t663 t664 t665 t666 t667 t668 t669 0 6 t670 _ A2.out).mono ?_); rintro e w14 ⟨v671, rfl, ho0, hb⟩; refine ⟨_, rfl, ?_⟩; have n0_ := Aside0.mk (Kd.R_lower ho0 (below_size (bl HB))); have n1_ := bst HB hb; clear HB; have HO672 := n0_; have HB := n1_; clear n0_ n1_; (try clear hb); (try clear hb2); (try clear hk); (try clear hi); (try clear ho0); obtain ⟨Ao15, co15, eo15⟩ := Kd.R_slice HO672.out; subst eo15))
  go_ret
  exact ⟨by first | rfl | (simp [errW_none, errW_some] <;> rfl) | (simp [*, errW_none, errW_some] <;> rfl), bl HB⟩

end Go.Proofs.Ytekihhbihnmakaa.PA
