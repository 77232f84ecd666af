/- Printed by the kit's print over stand-ins for some functions (xprint.py), with contracts of my own in their place. -/
import Derived.Test.YtbjpjddhkpnofaaPZx0
import Derived.Test.YtbjpjddhkpnofaaPZx1
namespace Go.Proofs.Ytbjpjddhkpnofaa.PZ
open Go.RowKit Go.Proofs.YtbjpjddhkpnofaaW.PrintWords Go.Proofs.YtbjpjddhkpnofaaW.PrintLast
set_option linter.unusedVariables false
set_option linter.unusedSimpArgs false

theorem gsf {P : Program} {ops : Array Oper} {Q : Exit → Act → World → Prop} {oi : Oper} {a : Act} {w : World} {N : Option Tmp} {K : Act → World → Prop} {f : FuncId} {fn : Func} {c : Tmp} {xs_ : Array Operand} {ts : Array TypeId} (hf : P.funcs[f]? = some fn) (args : Array Value) (h : Calls P f args w fun e w' => ∃ v, e = .returned v ∧ K (a.put N v) w') (hname : (fn.name == "runtime.NumGoroutine") = false := by kernel_rfl) (hb : fn.body.isSome = true := by rfl)
    (hw : Region.wanted oi (yielded ops a.tmps) = true := by rfl) (hN : oi.dst = N := by rfl) (hop : oi.op = .call { callee := .value (.tmp c), args := xs_, argTypes := ts } := by rfl) (hc : a.eval (.tmp c) = .func (.func f) #[] #[] := by rfl) (hargs : xs_.map a.eval = args := by ((try simp only [List.map_toArray, List.map_cons, List.map_nil]); first | done | rfl | (simp only [List.length_drop, List.length_take]; rfl))) : if Region.wanted oi (yielded ops a.tmps) = true then Oper.wp P oi a w K Q else K (a.put N undef) w := by
  refine call_ f args hw hN ?_ h
  have he := enters_ hf hname hb args w
  unfold execOp
  simp [hop, resolve, Deferred.ofValue, invoke, hc, hargs, he]
/-! ### extent_Right: function 5 -/
def extent_Right.f (a0_0 : Int) (a0_1 : Int) (a0_2 : Int) (a0_3 : Int) (a0_4 : Int) (a0_5 : Int) (a0_6 : Int) (a0_7 : Int) (a0_8 : Int) (a0_9 : Int) (a0_10 : Int) (a1_0 : Int) (a1_1 : Int) (a1_2 : Int) (a1_3 : Int) : Option (Bool) := (conf_Check.f a0_0 a0_1 a0_2 a0_3 a0_4 a0_5 a0_6 a0_7 a0_8 a0_9 a0_10).bind fun t111 => (if t111 = 0 then ((extent_RightIn.f a1_0 a0_1).bind fun t112 => (if t112 = true then ((extent_RightIn.f a1_1 (wrap64 (a0_4 + 1))).bind fun t113 => (if t113 = true then (if a1_2 ≥ 0 then (if a1_2 ≤ (wrap64 (a0_4 - a1_1)) then ((conf_Size.f a0_0 a0_1 a0_2 a0_3 a0_4 a0_5 a0_6 a0_7 a0_8 a0_9 a0_10).bind fun t114 => ((extent_RightIn.f a1_3 t114).bind fun t115 => (some t115))) else (some false)) else (some false)) else (some false))) else (some false))) else (some false))
def extent_Right.T2 : Bool × List (List Nat × List Nat) := (true, [([], []), ([0], [0]), ([1], [1]), ([2, 1], [2]), ([3], [3]), ([3], [3]), ([5, 3], [3, 5]), ([3], [3]), ([7, 3], [3, 7]), ([4, 6, 8, 3, 3], [3, 4, 6, 8]), ([3, 9], [3, 9]), ([10, 9], [10]), ([11], [11]), ([11], [11]), ([13, 11], [11, 13]), ([11], [11]), ([15, 11], [11, 15]), ([16, 11], [11, 16]), ([12, 14, 17, 11, 11], [11, 12, 14, 17]), ([11, 18], [11, 18]), ([19, 18], [19]), ([20], [20]), ([21, 20], [20, 21]), ([22, 20], [20, 22]), ([20, 23], [20, 23]), ([24, 20], [24]), ([25], [25]), ([26, 25], [25, 26]), ([25], [25]), ([28, 25], [25, 28]), ([25], [25]), ([30, 25], [25, 30]), ([29, 31, 25], [25, 29, 31]), ([27, 32, 25], [25, 27, 32]), ([25, 33], [25, 33]), ([34, 25], [34]), ([35], [35]), ([35], [35]), ([37, 35], [35, 37]), ([35], [35]), ([39, 35, 35], [35, 39]), ([36, 38, 40, 40, 35], [35, 36, 38, 40]), ([35, 41], [35, 41]), ([42, 41, 0, 1, 2, 3, 4, 5, 6, 7, 8, 9, 10, 11, 12, 13, 14, 15, 16, 17, 18, 19, 20, 21, 22, 23, 24, 25, 26, 27, 28, 29, 30, 31, 32, 33, 34, 35, 36, 37, 38, 39, 40, 41, 42], [42])])
def extent_Right.B2 : List Nat := [0, 1, 3, 7, 15, 15, 47, 15, 143, 511, 1023, 2047, 4095, 4095, 12287, 4095, 36863, 102399, 262143, 524287, 1048575, 2097151, 4194303, 8388607, 16777215, 33554431, 67108863, 134217727, 67108863, 335544319, 67108863, 1140850687, 4093640703, 8589934591, 17179869183, 34359738367, 68719476735, 68719476735, 206158430207, 68719476735, 618475290623, 2199023255551, 4398046511103, 8796093022207]
theorem extent_Right.tab2 : rtab .any (opsOf Try.f5 2) = extent_Right.T2 := by kernel_rfl
theorem extent_Right.bits2 : waitsOk extent_Right.T2.2 extent_Right.B2 = true := by kernel_rfl
set_option maxHeartbeats 8000000 in
set_option maxRecDepth 100000 in
theorem extent_Right.calls (a0_0 : Int) (a0_1 : Int) (a0_2 : Int) (a0_3 : Int) (a0_4 : Int) (a0_5 : Int) (a0_6 : Int) (a0_7 : Int) (a0_8 : Int) (a0_9 : Int) (a0_10 : Int) (a1_0 : Int) (a1_1 : Int) (a1_2 : Int) (a1_3 : Int) (r : Bool) (w : World) (h : extent_Right.f a0_0 a0_1 a0_2 a0_3 a0_4 a0_5 a0_6 a0_7 a0_8 a0_9 a0_10 a1_0 a1_1 a1_2 a1_3 = some r) :
  Calls Try.prog 5 #[.agg #[.int .i64 a0_0, .int .i64 a0_1, .int .i64 a0_2, .int .i64 a0_3, .int .i64 a0_4, .int .i64 a0_5, .int .i64 a0_6, .int .i64 a0_7, .int .i64 a0_8, .int .i64 a0_9, .int .i64 a0_10], .agg #[.int .i64 a1_0, .int .i64 a1_1, .int .i64 a1_2, .int .i64 a1_3]] w fun e w' => e = .returned (.bool r) ∧ Below w.heap.size w w' := by
 have hu24 := Try.underlying24
 have hu27 := Try.underlying27
 have HB := Aside0.mk (Below.refl w.heap.size w)
 have H : ((conf_Check.f a0_0 a0_1 a0_2 a0_3 a0_4 a0_5 a0_6 a0_7 a0_8 a0_9 a0_10).bind fun t111 => (if t111 = 0 then ((extent_RightIn.f a1_0 a0_1).bind fun t112 => (if t112 = true then ((extent_RightIn.f a1_1 (wrap64 (a0_4 + 1))).bind fun t113 => (if t113 = true then (if a1_2 ≥ 0 then (if a1_2 ≤ (wrap64 (a0_4 - a1_1)) then ((conf_Size.f a0_0 a0_1 a0_2 a0_3 a0_4 a0_5 a0_6 a0_7 a0_8 a0_9 a0_10).bind fun t114 => ((extent_RightIn.f a1_3 t114).bind fun t115 => (some t115))) else (some false)) else (some false)) else (some false))) else (some false))) else (some false))) = some r := h
 clear h
 replace H := Option.bind_eq_some_iff.mp H
 obtain ⟨t111, A30, H⟩ := H
 replace H : (if t111 = 0 then ((extent_RightIn.f a1_0 a0_1).bind fun t112 => (if t112 = true then ((extent_RightIn.f a1_1 (wrap64 (a0_4 + 1))).bind fun t113 => (if t113 = true then (if a1_2 ≥ 0 then (if a1_2 ≤ (wrap64 (a0_4 - a1_1)) then ((conf_Size.f a0_0 a0_1 a0_2 a0_3 a0_4 a0_5 a0_6 a0_7 a0_8 a0_9 a0_10).bind fun t114 => ((extent_RightIn.f a1_3 t114).bind fun t115 => (some t115))) else (some false)) else (some false)) else (some false))) else (some false))) else (some false)) = some r := H
 have A3 := Aside0.mk A30
 clear A30
 by_cases c4 : t111 = 0
 ·rw [if_pos c4] at H
  have c4b0 : (t111 == 0) = true := beq_iff_eq.mpr c4
  have c4b1 : (t111 != 0) = false := bne_eq_false_iff_eq.mpr c4
  clear c4
  replace H := Option.bind_eq_some_iff.mp H
  obtain ⟨t112, A50, H⟩ := H
  replace H : (if t112 = true then ((extent_RightIn.f a1_1 (wrap64 (a0_4 + 1))).bind fun t113 => (if t113 = true then (if a1_2 ≥ 0 then (if a1_2 ≤ (wrap64 (a0_4 - a1_1)) then ((conf_Size.f a0_0 a0_1 a0_2 a0_3 a0_4 a0_5 a0_6 a0_7 a0_8 a0_9 a0_10).bind fun t114 => ((extent_RightIn.f a1_3 t114).bind fun t115 => (some t115))) else (some false)) else (some false)) else (some false))) else (some false)) = some r := H
  have A5 := Aside0.mk A50
  clear A50
  by_cases c6 : t112 = true
  ·subst c6
   have H1 : ((extent_RightIn.f a1_1 (wrap64 (a0_4 + 1))).bind fun t113 => (if t113 = true then (if a1_2 ≥ 0 then (if a1_2 ≤ (wrap64 (a0_4 - a1_1)) then ((conf_Size.f a0_0 a0_1 a0_2 a0_3 a0_4 a0_5 a0_6 a0_7 a0_8 a0_9 a0_10).bind fun t114 => ((extent_RightIn.f a1_3 t114).bind fun t115 => (some t115))) else (some false)) else (some false)) else (some false))) = some r := by rw [if_pos rfl] at H; exact H
   clear H
   have H := H1
   clear H1
   replace H := Option.bind_eq_some_iff.mp H
   obtain ⟨t113, A70, H⟩ := H
   replace H : (if t113 = true then (if a1_2 ≥ 0 then (if a1_2 ≤ (wrap64 (a0_4 - a1_1)) then ((conf_Size.f a0_0 a0_1 a0_2 a0_3 a0_4 a0_5 a0_6 a0_7 a0_8 a0_9 a0_10).bind fun t114 => ((extent_RightIn.f a1_3 t114).bind fun t115 => (some t115))) else (some false)) else (some false)) else (some false)) = some r := H
   have A7 := Aside0.mk A70
   clear A70
   by_cases c8 : t113 = true
   ·subst c8
    have H1 : (if a1_2 ≥ 0 then (if a1_2 ≤ (wrap64 (a0_4 - a1_1)) then ((conf_Size.f a0_0 a0_1 a0_2 a0_3 a0_4 a0_5 a0_6 a0_7 a0_8 a0_9 a0_10).bind fun t114 => ((extent_RightIn.f a1_3 t114).bind fun t115 => (some t115))) else (some false)) else (some false)) = some r := by rw [if_pos rfl] at H; exact H
    clear H
    have H := H1
    clear H1
    by_cases c9 : a1_2 ≥ 0
    ·rw [if_pos c9] at H
     have c9b0 : decide (0 ≤ a1_2) = true := decide_eq_true c9
     clear c9
     by_cases c10 : a1_2 ≤ (wrap64 (a0_4 - a1_1))
     ·rw [if_pos c10] at H
      have c10b0 : decide (a1_2 ≤ (wrap64 (a0_4 - a1_1))) = true := decide_eq_true c10
      clear c10
      replace H := Option.bind_eq_some_iff.mp H
      obtain ⟨t114, A110, H⟩ := H
      replace H : ((extent_RightIn.f a1_3 t114).bind fun t115 => (some t115)) = some r := H
      have A11 := Aside0.mk A110
      clear A110
      replace H := Option.bind_eq_some_iff.mp H
      obtain ⟨t115, A120, H⟩ := H
      replace H : (some t115) = some r := H
      have A12 := Aside0.mk A120
      clear A120
      obtain rfl := Option.some.inj H
      go_enter Try.func5, Try.ntmps5
      try go_wp2_with (first | ((with_reducible refine gate_dst (N := 2) rfl ?_); refine box_event ?hg (N := 2) ?hd (cs := #[.int .i64 a0_0, .int .i64 a0_1, .int .i64 a0_2, .int .i64 a0_3, .int .i64 a0_4, .int .i64 a0_5, .int .i64 a0_6, .int .i64 a0_7, .int .i64 a0_8, .int .i64 a0_9, .int .i64 a0_10]) (t := 24) ?hr ?_; (case hd => rfl); (case hg => rfl); (case hr => first | (go_simp; done) | (go_simp; rfl)); intro gb109 hg w13 hbox hb; have n0_ := bst HB hb; have n1_ := Aside0.mk (hbox); have n2_ := Aside0.mk ((by rw [hg]; exact (below_size (bl HB)) : w.heap.size ≤ gb109)); have n3_ := Aside0.mk ((by rw [hg]; exact (below_size (bl HB)) : w.heap.size ≤ gb109)); clear HB; have HB := n0_; have BK109 := n1_; have GW109 := n2_; have GE109 := n3_; clear n0_ n1_ n2_ n3_; clear hb hbox hg) | ((with_reducible refine gate_dst (N := 3) rfl ?_); refine box_event ?hg (N := 3) ?hd (cs := #[.int .i64 a1_0, .int .i64 a1_1, .int .i64 a1_2, .int .i64 a1_3]) (t := 27) ?hr ?_; (case hd => rfl); (case hg => rfl); (case hr => first | (go_simp; done) | (go_simp; rfl)); intro gb110 hg w14 hbox hb; have n0_ := bkb BK109 hb; have n1_ := bst HB hb; have n2_ := Aside0.mk (hbox); have n3_ := Aside0.mk ((by rw [hg]; exact (below_size (bl HB)) : w.heap.size ≤ gb110)); have n4_ := Aside0.mk ((by rw [hg]; exact (below_size (bl HB)) : w.heap.size ≤ gb110)); have n5_ := Aside0.mk ((by rw [hg]; exact Nat.ne_of_lt (blk_lt (g := gb109) (o := .cells #[.int .i64 a0_0, .int .i64 a0_1, .int .i64 a0_2, .int .i64 a0_3, .int .i64 a0_4, .int .i64 a0_5, .int .i64 a0_6, .int .i64 a0_7, .int .i64 a0_8, .int .i64 a0_9, .int .i64 a0_10] 24 (0, 0)) (by (with_reducible repeat (first | refine blk_drewN ?_ _ | refine blk_drew ?_ | refine blk_alloc ?_ _)); exact BK109.out)) : gb109 ≠ gb110)); have n6_ := Aside0.mk ((by rw [hg]; exact Nat.ne_of_gt (blk_lt (g := gb109) (o := .cells #[.int .i64 a0_0, .int .i64 a0_1, .int .i64 a0_2, .int .i64 a0_3, .int .i64 a0_4, .int .i64 a0_5, .int .i64 a0_6, .int .i64 a0_7, .int .i64 a0_8, .int .i64 a0_9, .int .i64 a0_10] 24 (0, 0)) (by (with_reducible repeat (first | refine blk_drewN ?_ _ | refine blk_drew ?_ | refine blk_alloc ?_ _)); exact BK109.out)) : gb110 ≠ gb109)); clear BK109; clear HB; have BK109 := n0_; have HB := n1_; have BK110 := n2_; have GW110 := n3_; have GE110 := n4_; have NB109_110 := n5_; have NB110_109 := n6_; clear n0_ n1_ n2_ n3_ n4_ n5_ n6_; clear hb hbox hg))
      replace BK109 := Aside0.mk (blk_drew BK109.out)
      replace BK110 := Aside0.mk (blk_drew BK110.out)
      replace HB := Aside0.mk (below_drew1 HB.out)
      refine start_ (n := 44) (S := fun w' => w'.cell? ⟨gb109, 0, none⟩ = some (.int .i64 a0_0) ∧ w'.cell? ⟨gb109, 1, none⟩ = some (.int .i64 a0_1) ∧ w'.cell? ⟨gb109, 2, none⟩ = some (.int .i64 a0_2) ∧ w'.cell? ⟨gb109, 3, none⟩ = some (.int .i64 a0_3) ∧ w'.cell? ⟨gb109, 4, none⟩ = some (.int .i64 a0_4) ∧ w'.cell? ⟨gb109, 5, none⟩ = some (.int .i64 a0_5) ∧ w'.cell? ⟨gb109, 6, none⟩ = some (.int .i64 a0_6) ∧ w'.cell? ⟨gb109, 7, none⟩ = some (.int .i64 a0_7) ∧ w'.cell? ⟨gb109, 8, none⟩ = some (.int .i64 a0_8) ∧ w'.cell? ⟨gb109, 9, none⟩ = some (.int .i64 a0_9) ∧ w'.cell? ⟨gb109, 10, none⟩ = some (.int .i64 a0_10) ∧ w'.cell? ⟨gb110, 0, none⟩ = some (.int .i64 a1_0) ∧ w'.cell? ⟨gb110, 1, none⟩ = some (.int .i64 a1_1) ∧ w'.cell? ⟨gb110, 2, none⟩ = some (.int .i64 a1_2) ∧ w'.cell? ⟨gb110, 3, none⟩ = some (.int .i64 a1_3)) (ds := []) (bq 44 0) (by kernel_rfl) rfl rfl ⟨(blk_cell BK109.out 0).trans rfl, (blk_cell BK109.out 1).trans rfl, (blk_cell BK109.out 2).trans rfl, (blk_cell BK109.out 3).trans rfl, (blk_cell BK109.out 4).trans rfl, (blk_cell BK109.out 5).trans rfl, (blk_cell BK109.out 6).trans rfl, (blk_cell BK109.out 7).trans rfl, (blk_cell BK109.out 8).trans rfl, (blk_cell BK109.out 9).trans rfl, (blk_cell BK109.out 10).trans rfl, (blk_cell BK110.out 0).trans rfl, (blk_cell BK110.out 1).trans rfl, (blk_cell BK110.out 2).trans rfl, (blk_cell BK110.out 3).trans rfl⟩ (fun hHeld => ?_); refine with_tabW extent_Right.tab2 extent_Right.bits2 (fun HT_ HW_ => ?_)
      generalize w14.drew = w15 at BK109 BK110 HB hHeld ⊢
      apply tu 0 6 (bq 44 1) HT_ HW_ hHeld
      refine one_ (i := 1) (N := some 7) (bq 44 3) rfl rfl (one_of HT_.out (by kernel_rfl)) (by decide) (fun K hK => ?_)
      refine gs Try.func15 #[.agg #[.int .i64 a0_0, .int .i64 a0_1, .int .i64 a0_2, .int .i64 a0_3, .int .i64 a0_4, .int .i64 a0_5, .int .i64 a0_6, .int .i64 a0_7, .int .i64 a0_8, .int .i64 a0_9, .int .i64 a0_10]] ?_
      with_reducible refine (conf_Check.calls a0_0 a0_1 a0_2 a0_3 a0_4 a0_5 a0_6 a0_7 a0_8 a0_9 a0_10 t111 _ A3.out).mono ?_
      rintro e w16 ⟨rfl, hb⟩
      refine ⟨_, rfl, ?_⟩
      replace BK109 := bkb BK109 hb
      replace BK110 := bkb BK110 hb
      replace HB := bst HB hb
      try clear hb; try clear hb2; try clear hk; try clear hi
      refine hK.out _ _ sc (fun hHeld => ?_)
      clear hK K
      apply nm 0
      apply pu 2 8 (bq 44 7) HT_
      apply pu 3 9 (bq 44 15) HT_
      apply pu 4 10 (bq 44 31) HT_
      apply pu 5 11 (bq 44 63) HT_
      apply pu 7 13 (bq 44 191) HT_
      apply tu 6 12 (bq 44 255) HT_ HW_ hHeld
      apply tu 8 14 (bq 44 511) HT_ HW_ hHeld
      refine one_ (i := 9) (N := some 15) (bq 44 1023) rfl rfl (one_of HT_.out (by kernel_rfl)) (by decide) (fun K hK => ?_)
      refine gsf Try.func14 #[.int .i64 a1_0, .int .i64 a0_1] ?_
      with_reducible refine (extent_RightIn.calls a1_0 a0_1 true _ A5.out).mono ?_
      rintro e w' ⟨rfl, ⟨nd, rfl⟩⟩
      refine ⟨_, rfl, ?_⟩
      refine hK.out _ _ sc (fun hHeld => ?_)
      clear hK K
      apply nm 0
      apply pu 10 16 (bq 44 2047) HT_
      apply pu 11 17 (bq 44 4095) HT_
      apply pu 12 18 (bq 44 8191) HT_
      apply pu 13 19 (bq 44 16383) HT_
      apply pu 15 21 (bq 44 49151) HT_
      apply tu 14 20 (bq 44 65535) HT_ HW_ hHeld
      apply tu 16 22 (bq 44 131071) HT_ HW_ hHeld
      apply pu 17 23 (bq 44 262143) HT_
      refine one_ (i := 18) (N := some 24) (bq 44 524287) rfl rfl (one_of HT_.out (by kernel_rfl)) (by decide) (fun K hK => ?_)
      refine gsf Try.func14 #[.int .i64 a1_1, .int .i64 (wrap64 (a0_4 + 1))] ?_
      with_reducible refine (extent_RightIn.calls a1_1 (wrap64 (a0_4 + 1)) true _ A7.out).mono ?_
      rintro e w' ⟨rfl, ⟨nd, rfl⟩⟩
      refine ⟨_, rfl, ?_⟩
      refine hK.out _ _ sc (fun hHeld => ?_)
      clear hK K
      apply nm 0
      apply pu 19 25 (bq 44 1048575) HT_
      apply pu 20 26 (bq 44 2097151) HT_
      apply pu 21 27 (bq 44 4194303) HT_
      apply tu 22 28 (bq 44 8388607) HT_ HW_ hHeld
      apply pu 23 29 (bq 44 16777215) HT_
      apply pu 24 30 (bq 44 33554431) HT_
      apply pu 25 31 (bq 44 67108863) HT_
      apply pu 26 32 (bq 44 134217727) HT_
      apply pu 28 34 (bq 44 402653183) HT_
      apply pu 30 36 (bq 44 1476395007) HT_
      apply tu 27 33 (bq 44 1610612735) HT_ HW_ hHeld
      apply tu 29 35 (bq 44 2147483647) HT_ HW_ hHeld
      apply tu 31 37 (bq 44 4294967295) HT_ HW_ hHeld
      apply pu 32 38 (bq 44 8589934591) HT_
      apply pu 33 39 (bq 44 17179869183) HT_
      apply pu 34 40 (bq 44 34359738367) HT_
      apply pu 35 41 (bq 44 68719476735) HT_
      apply pu 36 42 (bq 44 137438953471) HT_
      apply pu 37 43 (bq 44 274877906943) HT_
      apply tu 38 44 (bq 44 549755813887) HT_ HW_ hHeld
      apply tu 39 45 (bq 44 1099511627775) HT_ HW_ hHeld
      refine one_ (i := 40) (N := some 46) (bq 44 2199023255551) rfl rfl (one_of HT_.out (by kernel_rfl)) (by decide) (fun K hK => ?_)
      refine gs Try.func16 #[.agg #[.int .i64 a0_0, .int .i64 a0_1, .int .i64 a0_2, .int .i64 a0_3, .int .i64 a0_4, .int .i64 a0_5, .int .i64 a0_6, .int .i64 a0_7, .int .i64 a0_8, .int .i64 a0_9, .int .i64 a0_10]] ?_
      with_reducible refine (conf_Size.calls a0_0 a0_1 a0_2 a0_3 a0_4 a0_5 a0_6 a0_7 a0_8 a0_9 a0_10 t114 _ A11.out).mono ?_
      rintro e w17 ⟨rfl, hb⟩
      refine ⟨_, rfl, ?_⟩
      replace BK109 := bkb BK109 hb
      replace BK110 := bkb BK110 hb
      replace HB := bst HB hb
      try clear hb; try clear hb2; try clear hk; try clear hi
      refine hK.out _ _ sc (fun hHeld => ?_)
      clear hK K
      apply nm 0
      refine one_ (i := 41) (N := some 47) (bq 44 4398046511103) rfl rfl (one_of HT_.out (by kernel_rfl)) (by decide) (fun K hK => ?_)
      refine gsf Try.func14 #[.int .i64 a1_3, .int .i64 t114] ?_
      with_reducible refine (extent_RightIn.calls a1_3 t114 t115 _ A12.out).mono ?_
      rintro e w' ⟨rfl, ⟨nd, rfl⟩⟩
      refine ⟨_, rfl, ?_⟩
      refine hK.out _ _ sc (fun hHeld => ?_)
      clear hK K
      apply nm 0
      apply pu 42 48 (bq 44 8796093022207) HT_
      apply pu 43 4 (bq 44 17592186044415) HT_
      refine done_ (done_of HT_.out (by kernel_rfl)) ?_
      try go_wp2
      go_ret
      exact ⟨by first | rfl | (simp [errW_none, errW_some] <;> rfl) | (simp [*, errW_none, errW_some] <;> rfl), bl HB⟩
     ·rw [if_neg c10] at H
      have c10b0 : decide (a1_2 ≤ (wrap64 (a0_4 - a1_1))) = false := decide_eq_false c10
      clear c10
      obtain rfl := Option.some.inj H
      go_enter Try.func5, Try.ntmps5
      try go_wp2_with (first | ((with_reducible refine gate_dst (N := 2) rfl ?_); refine box_event ?hg (N := 2) ?hd (cs := #[.int .i64 a0_0, .int .i64 a0_1, .int .i64 a0_2, .int .i64 a0_3, .int .i64 a0_4, .int .i64 a0_5, .int .i64 a0_6, .int .i64 a0_7, .int .i64 a0_8, .int .i64 a0_9, .int .i64 a0_10]) (t := 24) ?hr ?_; (case hd => rfl); (case hg => rfl); (case hr => first | (go_simp; done) | (go_simp; rfl)); intro gb109 hg w18 hbox hb; have n0_ := bst HB hb; have n1_ := Aside0.mk (hbox); have n2_ := Aside0.mk ((by rw [hg]; exact (below_size (bl HB)) : w.heap.size ≤ gb109)); have n3_ := Aside0.mk ((by rw [hg]; exact (below_size (bl HB)) : w.heap.size ≤ gb109)); clear HB; have HB := n0_; have BK109 := n1_; have GW109 := n2_; have GE109 := n3_; clear n0_ n1_ n2_ n3_; clear hb hbox hg) | ((with_reducible refine gate_dst (N := 3) rfl ?_); refine box_event ?hg (N := 3) ?hd (cs := #[.int .i64 a1_0, .int .i64 a1_1, .int .i64 a1_2, .int .i64 a1_3]) (t := 27) ?hr ?_; (case hd => rfl); (case hg => rfl); (case hr => first | (go_simp; done) | (go_simp; rfl)); intro gb110 hg w19 hbox hb; have n0_ := bkb BK109 hb; have n1_ := bst HB hb; have n2_ := Aside0.mk (hbox); have n3_ := Aside0.mk ((by rw [hg]; exact (below_size (bl HB)) : w.heap.size ≤ gb110)); have n4_ := Aside0.mk ((by rw [hg]; exact (below_size (bl HB)) : w.heap.size ≤ gb110)); have n5_ := Aside0.mk ((by rw [hg]; exact Nat.ne_of_lt (blk_lt (g := gb109) (o := .cells #[.int .i64 a0_0, .int .i64 a0_1, .int .i64 a0_2, .int .i64 a0_3, .int .i64 a0_4, .int .i64 a0_5, .int .i64 a0_6, .int .i64 a0_7, .int .i64 a0_8, .int .i64 a0_9, .int .i64 a0_10] 24 (0, 0)) (by (with_reducible repeat (first | refine blk_drewN ?_ _ | refine blk_drew ?_ | refine blk_alloc ?_ _)); exact BK109.out)) : gb109 ≠ gb110)); have n6_ := Aside0.mk ((by rw [hg]; exact Nat.ne_of_gt (blk_lt (g := gb109) (o := .cells #[.int .i64 a0_0, .int .i64 a0_1, .int .i64 a0_2, .int .i64 a0_3, .int .i64 a0_4, .int .i64 a0_5, .int .i64 a0_6, .int .i64 a0_7, .int .i64 a0_8, .int .i64 a0_9, .int .i64 a0_10] 24 (0, 0)) (by (with_reducible repeat (first | refine blk_drewN ?_ _ | refine blk_drew ?_ | refine blk_alloc ?_ _)); exact BK109.out)) : gb110 ≠ gb109)); clear BK109; clear HB; have BK109 := n0_; have HB := n1_; have BK110 := n2_; have GW110 := n3_; have GE110 := n4_; have NB109_110 := n5_; have NB110_109 := n6_; clear n0_ n1_ n2_ n3_ n4_ n5_ n6_; clear hb hbox hg))
      replace BK109 := Aside0.mk (blk_drew BK109.out)
      replace BK110 := Aside0.mk (blk_drew BK110.out)
      replace HB := Aside0.mk (below_drew1 HB.out)
      refine start_ (n := 44) (S := fun w' => w'.cell? ⟨gb109, 0, none⟩ = some (.int .i64 a0_0) ∧ w'.cell? ⟨gb109, 1, none⟩ = some (.int .i64 a0_1) ∧ w'.cell? ⟨gb109, 2, none⟩ = some (.int .i64 a0_2) ∧ w'.cell? ⟨gb109, 3, none⟩ = some (.int .i64 a0_3) ∧ w'.cell? ⟨gb109, 4, none⟩ = some (.int .i64 a0_4) ∧ w'.cell? ⟨gb109, 5, none⟩ = some (.int .i64 a0_5) ∧ w'.cell? ⟨gb109, 6, none⟩ = some (.int .i64 a0_6) ∧ w'.cell? ⟨gb109, 7, none⟩ = some (.int .i64 a0_7) ∧ w'.cell? ⟨gb109, 8, none⟩ = some (.int .i64 a0_8) ∧ w'.cell? ⟨gb109, 9, none⟩ = some (.int .i64 a0_9) ∧ w'.cell? ⟨gb109, 10, none⟩ = some (.int .i64 a0_10) ∧ w'.cell? ⟨gb110, 0, none⟩ = some (.int .i64 a1_0) ∧ w'.cell? ⟨gb110, 1, none⟩ = some (.int .i64 a1_1) ∧ w'.cell? ⟨gb110, 2, none⟩ = some (.int .i64 a1_2) ∧ w'.cell? ⟨gb110, 3, none⟩ = some (.int .i64 a1_3)) (ds := []) (bq 44 0) (by kernel_rfl) rfl rfl ⟨(blk_cell BK109.out 0).trans rfl, (blk_cell BK109.out 1).trans rfl, (blk_cell BK109.out 2).trans rfl, (blk_cell BK109.out 3).trans rfl, (blk_cell BK109.out 4).trans rfl, (blk_cell BK109.out 5).trans rfl, (blk_cell BK109.out 6).trans rfl, (blk_cell BK109.out 7).trans rfl, (blk_cell BK109.out 8).trans rfl, (blk_cell BK109.out 9).trans rfl, (blk_cell BK109.out 10).trans rfl, (blk_cell BK110.out 0).trans rfl, (blk_cell BK110.out 1).trans rfl, (blk_cell BK110.out 2).trans rfl, (blk_cell BK110.out 3).trans rfl⟩ (fun hHeld => ?_); refine with_tabW extent_Right.tab2 extent_Right.bits2 (fun HT_ HW_ => ?_)
      generalize w19.drew = w20 at BK109 BK110 HB hHeld ⊢
      apply tu 0 6 (bq 44 1) HT_ HW_ hHeld
      refine one_ (i := 1) (N := some 7) (bq 44 3) rfl rfl (one_of HT_.out (by kernel_rfl)) (by decide) (fun K hK => ?_)
      refine gs Try.func15 #[.agg #[.int .i64 a0_0, .int .i64 a0_1, .int .i64 a0_2, .int .i64 a0_3, .int .i64 a0_4, .int .i64 a0_5, .int .i64 a0_6, .int .i64 a0_7, .int .i64 a0_8, .int .i64 a0_9, .int .i64 a0_10]] ?_
      with_reducible refine (conf_Check.calls a0_0 a0_1 a0_2 a0_3 a0_4 a0_5 a0_6 a0_7 a0_8 a0_9 a0_10 t111 _ A3.out).mono ?_
      rintro e w21 ⟨rfl, hb⟩
      refine ⟨_, rfl, ?_⟩
      replace BK109 := bkb BK109 hb
      replace BK110 := bkb BK110 hb
      replace HB := bst HB hb
      try clear hb; try clear hb2; try clear hk; try clear hi
      refine hK.out _ _ sc (fun hHeld => ?_)
      clear hK K
      apply nm 0
      apply pu 2 8 (bq 44 7) HT_
      apply pu 3 9 (bq 44 15) HT_
      apply pu 4 10 (bq 44 31) HT_
      apply pu 5 11 (bq 44 63) HT_
      apply pu 7 13 (bq 44 191) HT_
      apply tu 6 12 (bq 44 255) HT_ HW_ hHeld
      apply tu 8 14 (bq 44 511) HT_ HW_ hHeld
      refine one_ (i := 9) (N := some 15) (bq 44 1023) rfl rfl (one_of HT_.out (by kernel_rfl)) (by decide) (fun K hK => ?_)
      refine gsf Try.func14 #[.int .i64 a1_0, .int .i64 a0_1] ?_
      with_reducible refine (extent_RightIn.calls a1_0 a0_1 true _ A5.out).mono ?_
      rintro e w' ⟨rfl, ⟨nd, rfl⟩⟩
      refine ⟨_, rfl, ?_⟩
      refine hK.out _ _ sc (fun hHeld => ?_)
      clear hK K
      apply nm 0
      apply pu 10 16 (bq 44 2047) HT_
      apply pu 11 17 (bq 44 4095) HT_
      apply pu 12 18 (bq 44 8191) HT_
      apply pu 13 19 (bq 44 16383) HT_
      apply pu 15 21 (bq 44 49151) HT_
      apply tu 14 20 (bq 44 65535) HT_ HW_ hHeld
      apply tu 16 22 (bq 44 131071) HT_ HW_ hHeld
      apply pu 17 23 (bq 44 262143) HT_
      refine one_ (i := 18) (N := some 24) (bq 44 524287) rfl rfl (one_of HT_.out (by kernel_rfl)) (by decide) (fun K hK => ?_)
      refine gsf Try.func14 #[.int .i64 a1_1, .int .i64 (wrap64 (a0_4 + 1))] ?_
      with_reducible refine (extent_RightIn.calls a1_1 (wrap64 (a0_4 + 1)) true _ A7.out).mono ?_
      rintro e w' ⟨rfl, ⟨nd, rfl⟩⟩
      refine ⟨_, rfl, ?_⟩
      refine hK.out _ _ sc (fun hHeld => ?_)
      clear hK K
      apply nm 0
      apply pu 19 25 (bq 44 1048575) HT_
      apply pu 20 26 (bq 44 2097151) HT_
      apply pu 21 27 (bq 44 4194303) HT_
      apply tu 22 28 (bq 44 8388607) HT_ HW_ hHeld
      apply pu 23 29 (bq 44 16777215) HT_
      apply pu 24 30 (bq 44 33554431) HT_
      apply pu 25 31 (bq 44 67108863) HT_
      apply pu 26 32 (bq 44 134217727) HT_
      apply pu 28 34 (bq 44 402653183) HT_
      apply pu 30 36 (bq 44 1476395007) HT_
      apply tu 27 33 (bq 44 1610612735) HT_ HW_ hHeld
      apply tu 29 35 (bq 44 2147483647) HT_ HW_ hHeld
      apply tu 31 37 (bq 44 4294967295) HT_ HW_ hHeld
      apply pu 32 38 (bq 44 8589934591) HT_
      apply pu 33 39 (bq 44 17179869183) HT_
      apply pu 34 40 (bq 44 34359738367) HT_
      apply pu 35 41 (bq 44 68719476735) HT_
      apply po 36 42 (bq 44 137438953471) HT_
      apply po 37 43 (bq 44 274877906943) HT_
      apply po 38 44 (bq 44 549755813887) HT_
      apply po 39 45 (bq 44 1099511627775) HT_
      apply po 40 46 (bq 44 2199023255551) HT_
      apply po 41 47 (bq 44 4398046511103) HT_
      apply pu 42 48 (bq 44 8796093022207) HT_
      apply pu 43 4 (bq 44 17592186044415) HT_
      refine done_ (done_of HT_.out (by kernel_rfl)) ?_
      try go_wp2
      go_ret
      exact ⟨by first | rfl | (simp [errW_none, errW_some] <;> rfl) | (simp [*, errW_none, errW_some] <;> rfl), bl HB⟩
    ·rw [if_neg c9] at H
     have c9b0 : decide (0 ≤ a1_2) = false := decide_eq_false c9
     clear c9
     obtain rfl := Option.some.inj H
     go_enter Try.func5, Try.ntmps5
     try go_wp2_with (first | ((with_reducible refine gate_dst (N := 2) rfl ?_); refine box_event ?hg (N := 2) ?hd (cs := #[.int .i64 a0_0, .int .i64 a0_1, .int .i64 a0_2, .int .i64 a0_3, .int .i64 a0_4, .int .i64 a0_5, .int .i64 a0_6, .int .i64 a0_7, .int .i64 a0_8, .int .i64 a0_9, .int .i64 a0_10]) (t := 24) ?hr ?_; (case hd => rfl); (case hg => rfl); (case hr => first | (go_simp; done) | (go_simp; rfl)); intro gb109 hg w22 hbox hb; have n0_ := bst HB hb; have n1_ := Aside0.mk (hbox); have n2_ := Aside0.mk ((by rw [hg]; exact (below_size (bl HB)) : w.heap.size ≤ gb109)); have n3_ := Aside0.mk ((by rw [hg]; exact (below_size (bl HB)) : w.heap.size ≤ gb109)); clear HB; have HB := n0_; have BK109 := n1_; have GW109 := n2_; have GE109 := n3_; clear n0_ n1_ n2_ n3_; clear hb hbox hg) | ((with_reducible refine gate_dst (N := 3) rfl ?_); refine box_event ?hg (N := 3) ?hd (cs := #[.int .i64 a1_0, .int .i64 a1_1, .int .i64 a1_2, .int .i64 a1_3]) (t := 27) ?hr ?_; (case hd => rfl); (case hg => rfl); (case hr => first | (go_simp; done) | (go_simp; rfl)); intro gb110 hg w23 hbox hb; have n0_ := bkb BK109 hb; have n1_ := bst HB hb; have n2_ := Aside0.mk (hbox); have n3_ := Aside0.mk ((by rw [hg]; exact (below_size (bl HB)) : w.heap.size ≤ gb110)); have n4_ := Aside0.mk ((by rw [hg]; exact (below_size (bl HB)) : w.heap.size ≤ gb110)); have n5_ := Aside0.mk ((by rw [hg]; exact Nat.ne_of_lt (blk_lt (g := gb109) (o := .cells #[.int .i64 a0_0, .int .i64 a0_1, .int .i64 a0_2, .int .i64 a0_3, .int .i64 a0_4, .int .i64 a0_5, .int .i64 a0_6, .int .i64 a0_7, .int .i64 a0_8, .int .i64 a0_9, .int .i64 a0_10] 24 (0, 0)) (by (with_reducible repeat (first | refine blk_drewN ?_ _ | refine blk_drew ?_ | refine blk_alloc ?_ _)); exact BK109.out)) : gb109 ≠ gb110)); have n6_ := Aside0.mk ((by rw [hg]; exact Nat.ne_of_gt (blk_lt (g := gb109) (o := .cells #[.int .i64 a0_0, .int .i64 a0_1, .int .i64 a0_2, .int .i64 a0_3, .int .i64 a0_4, .int .i64 a0_5, .int .i64 a0_6, .int .i64 a0_7, .int .i64 a0_8, .int .i64 a0_9, .int .i64 a0_10] 24 (0, 0)) (by (with_reducible repeat (first | refine blk_drewN ?_ _ | refine blk_drew ?_ | refine blk_alloc ?_ _)); exact BK109.out)) : gb110 ≠ gb109)); clear BK109; clear HB; have BK109 := n0_; have HB := n1_; have BK110 := n2_; have GW110 := n3_; have GE110 := n4_; have NB109_110 := n5_; have NB110_109 := n6_; clear n0_ n1_ n2_ n3_ n4_ n5_ n6_; clear hb hbox hg))
     replace BK109 := Aside0.mk (blk_drew BK109.out)
     replace BK110 := Aside0.mk (blk_drew BK110.out)
     replace HB := Aside0.mk (below_drew1 HB.out)
     refine start_ (n := 44) (S := fun w' => w'.cell? ⟨gb109, 0, none⟩ = some (.int .i64 a0_0) ∧ w'.cell? ⟨gb109, 1, none⟩ = some (.int .i64 a0_1) ∧ w'.cell? ⟨gb109, 2, none⟩ = some (.int .i64 a0_2) ∧ w'.cell? ⟨gb109, 3, none⟩ = some (.int .i64 a0_3) ∧ w'.cell? ⟨gb109, 4, none⟩ = some (.int .i64 a0_4) ∧ w'.cell? ⟨gb109, 5, none⟩ = some (.int .i64 a0_5) ∧ w'.cell? ⟨gb109, 6, none⟩ = some (.int .i64 a0_6) ∧ w'.cell? ⟨gb109, 7, none⟩ = some (.int .i64 a0_7) ∧ w'.cell? ⟨gb109, 8, none⟩ = some (.int .i64 a0_8) ∧ w'.cell? ⟨gb109, 9, none⟩ = some (.int .i64 a0_9) ∧ w'.cell? ⟨gb109, 10, none⟩ = some (.int .i64 a0_10) ∧ w'.cell? ⟨gb110, 0, none⟩ = some (.int .i64 a1_0) ∧ w'.cell? ⟨gb110, 1, none⟩ = some (.int .i64 a1_1) ∧ w'.cell? ⟨gb110, 2, none⟩ = some (.int .i64 a1_2) ∧ w'.cell? ⟨gb110, 3, none⟩ = some (.int .i64 a1_3)) (ds := []) (bq 44 0) (by kernel_rfl) rfl rfl ⟨(blk_cell BK109.out 0).trans rfl, (blk_cell BK109.out 1).trans rfl, (blk_cell BK109.out 2).trans rfl, (blk_cell BK109.out 3).trans rfl, (blk_cell BK109.out 4).trans rfl, (blk_cell BK109.out 5).trans rfl, (blk_cell BK109.out 6).trans rfl, (blk_cell BK109.out 7).trans rfl, (blk_cell BK109.out 8).trans rfl, (blk_cell BK109.out 9).trans rfl, (blk_cell BK109.out 10).trans rfl, (blk_cell BK110.out 0).trans rfl, (blk_cell BK110.out 1).trans rfl, (blk_cell BK110.out 2).trans rfl, (blk_cell BK110.out 3).trans rfl⟩ (fun hHeld => ?_); refine with_tabW extent_Right.tab2 extent_Right.bits2 (fun HT_ HW_ => ?_)
     generalize w23.drew = w24 at BK109 BK110 HB hHeld ⊢
     apply tu 0 6 (bq 44 1) HT_ HW_ hHeld
     refine one_ (i := 1) (N := some 7) (bq 44 3) rfl rfl (one_of HT_.out (by kernel_rfl)) (by decide) (fun K hK => ?_)
     refine gs Try.func15 #[.agg #[.int .i64 a0_0, .int .i64 a0_1, .int .i64 a0_2, .int .i64 a0_3, .int .i64 a0_4, .int .i64 a0_5, .int .i64 a0_6, .int .i64 a0_7, .int .i64 a0_8, .int .i64 a0_9, .int .i64 a0_10]] ?_
     with_reducible refine (conf_Check.calls a0_0 a0_1 a0_2 a0_3 a0_4 a0_5 a0_6 a0_7 a0_8 a0_9 a0_10 t111 _ A3.out).mono ?_
     rintro e w25 ⟨rfl, hb⟩
     refine ⟨_, rfl, ?_⟩
     replace BK109 := bkb BK109 hb
     replace BK110 := bkb BK110 hb
     replace HB := bst HB hb
     try clear hb; try clear hb2; try clear hk; try clear hi
     refine hK.out _ _ sc (fun hHeld => ?_)
     clear hK K
     apply nm 0
     apply pu 2 8 (bq 44 7) HT_
     apply pu 3 9 (bq 44 15) HT_
     apply pu 4 10 (bq 44 31) HT_
     apply pu 5 11 (bq 44 63) HT_
     apply pu 7 13 (bq 44 191) HT_
     apply tu 6 12 (bq 44 255) HT_ HW_ hHeld
     apply tu 8 14 (bq 44 511) HT_ HW_ hHeld
     refine one_ (i := 9) (N := some 15) (bq 44 1023) rfl rfl (one_of HT_.out (by kernel_rfl)) (by decide) (fun K hK => ?_)
     refine gsf Try.func14 #[.int .i64 a1_0, .int .i64 a0_1] ?_
     with_reducible refine (extent_RightIn.calls a1_0 a0_1 true _ A5.out).mono ?_
     rintro e w' ⟨rfl, ⟨nd, rfl⟩⟩
     refine ⟨_, rfl, ?_⟩
     refine hK.out _ _ sc (fun hHeld => ?_)
     clear hK K
     apply nm 0
     apply pu 10 16 (bq 44 2047) HT_
     apply pu 11 17 (bq 44 4095) HT_
     apply pu 12 18 (bq 44 8191) HT_
     apply pu 13 19 (bq 44 16383) HT_
     apply pu 15 21 (bq 44 49151) HT_
     apply tu 14 20 (bq 44 65535) HT_ HW_ hHeld
     apply tu 16 22 (bq 44 131071) HT_ HW_ hHeld
     apply pu 17 23 (bq 44 262143) HT_
     refine one_ (i := 18) (N := some 24) (bq 44 524287) rfl rfl (one_of HT_.out (by kernel_rfl)) (by decide) (fun K hK => ?_)
     refine gsf Try.func14 #[.int .i64 a1_1, .int .i64 (wrap64 (a0_4 + 1))] ?_
     with_reducible refine (extent_RightIn.calls a1_1 (wrap64 (a0_4 + 1)) true _ A7.out).mono ?_
     rintro e w' ⟨rfl, ⟨nd, rfl⟩⟩
     refine ⟨_, rfl, ?_⟩
     refine hK.out _ _ sc (fun hHeld => ?_)
     clear hK K
     apply nm 0
     apply pu 19 25 (bq 44 1048575) HT_
     apply pu 20 26 (bq 44 2097151) HT_
     apply pu 21 27 (bq 44 4194303) HT_
     apply tu 22 28 (bq 44 8388607) HT_ HW_ hHeld
     apply pu 23 29 (bq 44 16777215) HT_
     apply pu 24 30 (bq 44 33554431) HT_
     apply pu 25 31 (bq 44 67108863) HT_
     apply po 26 32 (bq 44 134217727) HT_
     apply po 27 33 (bq 44 268435455) HT_
     apply po 28 34 (bq 44 536870911) HT_
     apply po 29 35 (bq 44 1073741823) HT_
     apply po 30 36 (bq 44 2147483647) HT_
     apply po 31 37 (bq 44 4294967295) HT_
     apply po 32 38 (bq 44 8589934591) HT_
     apply po 33 39 (bq 44 17179869183) HT_
     apply pu 34 40 (bq 44 34359738367) HT_
     apply pu 35 41 (bq 44 68719476735) HT_
     apply po 36 42 (bq 44 137438953471) HT_
     apply po 37 43 (bq 44 274877906943) HT_
     apply po 38 44 (bq 44 549755813887) HT_
     apply po 39 45 (bq 44 1099511627775) HT_
     apply po 40 46 (bq 44 2199023255551) HT_
     apply po 41 47 (bq 44 4398046511103) HT_
     apply pu 42 48 (bq 44 8796093022207) HT_
     apply pu 43 4 (bq 44 17592186044415) HT_
     refine done_ (done_of HT_.out (by kernel_rfl)) ?_
     try go_wp2
     go_ret
     exact ⟨by first | rfl | (simp [errW_none, errW_some] <;> rfl) | (simp [*, errW_none, errW_some] <;> rfl), bl HB⟩
   ·replace c8 := Bool.eq_false_iff.mpr c8
    subst c8
    have H1 : (some false) = some r := by rw [if_neg (show ¬ (false = true) by decide)] at H; exact H
    clear H
    have H := H1
    clear H1
    obtain rfl := Option.some.inj H
    go_enter Try.func5, Try.ntmps5
    try go_wp2_with (first | ((with_reducible refine gate_dst (N := 2) rfl ?_); refine box_event ?hg (N := 2) ?hd (cs := #[.int .i64 a0_0, .int .i64 a0_1, .int .i64 a0_2, .int .i64 a0_3, .int .i64 a0_4, .int .i64 a0_5, .int .i64 a0_6, .int .i64 a0_7, .int .i64 a0_8, .int .i64 a0_9, .int .i64 a0_10]) (t := 24) ?hr ?_; (case hd => rfl); (case hg => rfl); (case hr => first | (go_simp; done) | (go_simp; rfl)); intro gb109 hg w26 hbox hb; have n0_ := bst HB hb; have n1_ := Aside0.mk (hbox); have n2_ := Aside0.mk ((by rw [hg]; exact (below_size (bl HB)) : w.heap.size ≤ gb109)); have n3_ := Aside0.mk ((by rw [hg]; exact (below_size (bl HB)) : w.heap.size ≤ gb109)); clear HB; have HB := n0_; have BK109 := n1_; have GW109 := n2_; have GE109 := n3_; clear n0_ n1_ n2_ n3_; clear hb hbox hg) | ((with_reducible refine gate_dst (N := 3) rfl ?_); refine box_event ?hg (N := 3) ?hd (cs := #[.int .i64 a1_0, .int .i64 a1_1, .int .i64 a1_2, .int .i64 a1_3]) (t := 27) ?hr ?_; (case hd => rfl); (case hg => rfl); (case hr => first | (go_simp; done) | (go_simp; rfl)); intro gb110 hg w27 hbox hb; have n0_ := bkb BK109 hb; have n1_ := bst HB hb; have n2_ := Aside0.mk (hbox); have n3_ := Aside0.mk ((by rw [hg]; exact (below_size (bl HB)) : w.heap.size ≤ gb110)); have n4_ := Aside0.mk ((by rw [hg]; exact (below_size (bl HB)) : w.heap.size ≤ gb110)); have n5_ := Aside0.mk ((by rw [hg]; exact Nat.ne_of_lt (blk_lt (g := gb109) (o := .cells #[.int .i64 a0_0, .int .i64 a0_1, .int .i64 a0_2, .int .i64 a0_3, .int .i64 a0_4, .int .i64 a0_5, .int .i64 a0_6, .int .i64 a0_7, .int .i64 a0_8, .int .i64 a0_9, .int .i64 a0_10] 24 (0, 0)) (by (with_reducible repeat (first | refine blk_drewN ?_ _ | refine blk_drew ?_ | refine blk_alloc ?_ _)); exact BK109.out)) : gb109 ≠ gb110)); have n6_ := Aside0.mk ((by rw [hg]; exact Nat.ne_of_gt (blk_lt (g := gb109) (o := .cells #[.int .i64 a0_0, .int .i64 a0_1, .int .i64 a0_2, .int .i64 a0_3, .int .i64 a0_4, .int .i64 a0_5, .int .i64 a0_6, .int .i64 a0_7, .int .i64 a0_8, .int .i64 a0_9, .int .i64 a0_10] 24 (0, 0)) (by (with_reducible repeat (first | refine blk_drewN ?_ _ | refine blk_drew ?_ | refine blk_alloc ?_ _)); exact BK109.out)) : gb110 ≠ gb109)); clear BK109; clear HB; have BK109 := n0_; have HB := n1_; have BK110 := n2_; have GW110 := n3_; have GE110 := n4_; have NB109_110 := n5_; have NB110_109 := n6_; clear n0_ n1_ n2_ n3_ n4_ n5_ n6_; clear hb hbox hg))
    replace BK109 := Aside0.mk (blk_drew BK109.out)
    replace BK110 := Aside0.mk (blk_drew BK110.out)
    replace HB := Aside0.mk (below_drew1 HB.out)
    refine start_ (n := 44) (S := fun w' => w'.cell? ⟨gb109, 0, none⟩ = some (.int .i64 a0_0) ∧ w'.cell? ⟨gb109, 1, none⟩ = some (.int .i64 a0_1) ∧ w'.cell? ⟨gb109, 2, none⟩ = some (.int .i64 a0_2) ∧ w'.cell? ⟨gb109, 3, none⟩ = some (.int .i64 a0_3) ∧ w'.cell? ⟨gb109, 4, none⟩ = some (.int .i64 a0_4) ∧ w'.cell? ⟨gb109, 5, none⟩ = some (.int .i64 a0_5) ∧ w'.cell? ⟨gb109, 6, none⟩ = some (.int .i64 a0_6) ∧ w'.cell? ⟨gb109, 7, none⟩ = some (.int .i64 a0_7) ∧ w'.cell? ⟨gb109, 8, none⟩ = some (.int .i64 a0_8) ∧ w'.cell? ⟨gb109, 9, none⟩ = some (.int .i64 a0_9) ∧ w'.cell? ⟨gb109, 10, none⟩ = some (.int .i64 a0_10) ∧ w'.cell? ⟨gb110, 0, none⟩ = some (.int .i64 a1_0) ∧ w'.cell? ⟨gb110, 1, none⟩ = some (.int .i64 a1_1) ∧ w'.cell? ⟨gb110, 2, none⟩ = some (.int .i64 a1_2) ∧ w'.cell? ⟨gb110, 3, none⟩ = some (.int .i64 a1_3)) (ds := []) (bq 44 0) (by kernel_rfl) rfl rfl ⟨(blk_cell BK109.out 0).trans rfl, (blk_cell BK109.out 1).trans rfl, (blk_cell BK109.out 2).trans rfl, (blk_cell BK109.out 3).trans rfl, (blk_cell BK109.out 4).trans rfl, (blk_cell BK109.out 5).trans rfl, (blk_cell BK109.out 6).trans rfl, (blk_cell BK109.out 7).trans rfl, (blk_cell BK109.out 8).trans rfl, (blk_cell BK109.out 9).trans rfl, (blk_cell BK109.out 10).trans rfl, (blk_cell BK110.out 0).trans rfl, (blk_cell BK110.out 1).trans rfl, (blk_cell BK110.out 2).trans rfl, (blk_cell BK110.out 3).trans rfl⟩ (fun hHeld => ?_); refine with_tabW extent_Right.tab2 extent_Right.bits2 (fun HT_ HW_ => ?_)
    generalize w27.drew = w28 at BK109 BK110 HB hHeld ⊢
    apply tu 0 6 (bq 44 1) HT_ HW_ hHeld
    refine one_ (i := 1) (N := some 7) (bq 44 3) rfl rfl (one_of HT_.out (by kernel_rfl)) (by decide) (fun K hK => ?_)
    refine gs Try.func15 #[.agg #[.int .i64 a0_0, .int .i64 a0_1, .int .i64 a0_2, .int .i64 a0_3, .int .i64 a0_4, .int .i64 a0_5, .int .i64 a0_6, .int .i64 a0_7, .int .i64 a0_8, .int .i64 a0_9, .int .i64 a0_10]] ?_
    with_reducible refine (conf_Check.calls a0_0 a0_1 a0_2 a0_3 a0_4 a0_5 a0_6 a0_7 a0_8 a0_9 a0_10 t111 _ A3.out).mono ?_
    rintro e w29 ⟨rfl, hb⟩
    refine ⟨_, rfl, ?_⟩
    replace BK109 := bkb BK109 hb
    replace BK110 := bkb BK110 hb
    replace HB := bst HB hb
    try clear hb; try clear hb2; try clear hk; try clear hi
    refine hK.out _ _ sc (fun hHeld => ?_)
    clear hK K
    apply nm 0
    apply pu 2 8 (bq 44 7) HT_
    apply pu 3 9 (bq 44 15) HT_
    apply pu 4 10 (bq 44 31) HT_
    apply pu 5 11 (bq 44 63) HT_
    apply pu 7 13 (bq 44 191) HT_
    apply tu 6 12 (bq 44 255) HT_ HW_ hHeld
    apply tu 8 14 (bq 44 511) HT_ HW_ hHeld
    refine one_ (i := 9) (N := some 15) (bq 44 1023) rfl rfl (one_of HT_.out (by kernel_rfl)) (by decide) (fun K hK => ?_)
    refine gsf Try.func14 #[.int .i64 a1_0, .int .i64 a0_1] ?_
    with_reducible refine (extent_RightIn.calls a1_0 a0_1 true _ A5.out).mono ?_
    rintro e w' ⟨rfl, ⟨nd, rfl⟩⟩
    refine ⟨_, rfl, ?_⟩
    refine hK.out _ _ sc (fun hHeld => ?_)
    clear hK K
    apply nm 0
    apply pu 10 16 (bq 44 2047) HT_
    apply pu 11 17 (bq 44 4095) HT_
    apply pu 12 18 (bq 44 8191) HT_
    apply pu 13 19 (bq 44 16383) HT_
    apply pu 15 21 (bq 44 49151) HT_
    apply tu 14 20 (bq 44 65535) HT_ HW_ hHeld
    apply tu 16 22 (bq 44 131071) HT_ HW_ hHeld
    apply pu 17 23 (bq 44 262143) HT_
    refine one_ (i := 18) (N := some 24) (bq 44 524287) rfl rfl (one_of HT_.out (by kernel_rfl)) (by decide) (fun K hK => ?_)
    refine gsf Try.func14 #[.int .i64 a1_1, .int .i64 (wrap64 (a0_4 + 1))] ?_
    with_reducible refine (extent_RightIn.calls a1_1 (wrap64 (a0_4 + 1)) false _ A7.out).mono ?_
    rintro e w' ⟨rfl, ⟨nd, rfl⟩⟩
    refine ⟨_, rfl, ?_⟩
    refine hK.out _ _ sc (fun hHeld => ?_)
    clear hK K
    apply nm 0
    apply pu 19 25 (bq 44 1048575) HT_
    apply pu 20 26 (bq 44 2097151) HT_
    apply po 21 27 (bq 44 4194303) HT_
    apply po 22 28 (bq 44 8388607) HT_
    apply po 23 29 (bq 44 16777215) HT_
    apply pu 24 30 (bq 44 33554431) HT_
    apply pu 25 31 (bq 44 67108863) HT_
    apply po 26 32 (bq 44 134217727) HT_
    apply po 27 33 (bq 44 268435455) HT_
    apply po 28 34 (bq 44 536870911) HT_
    apply po 29 35 (bq 44 1073741823) HT_
    apply po 30 36 (bq 44 2147483647) HT_
    apply po 31 37 (bq 44 4294967295) HT_
    apply po 32 38 (bq 44 8589934591) HT_
    apply po 33 39 (bq 44 17179869183) HT_
    apply pu 34 40 (bq 44 34359738367) HT_
    apply pu 35 41 (bq 44 68719476735) HT_
    apply po 36 42 (bq 44 137438953471) HT_
    apply po 37 43 (bq 44 274877906943) HT_
    apply po 38 44 (bq 44 549755813887) HT_
    apply po 39 45 (bq 44 1099511627775) HT_
    apply po 40 46 (bq 44 2199023255551) HT_
    apply po 41 47 (bq 44 4398046511103) HT_
    apply pu 42 48 (bq 44 8796093022207) HT_
    apply pu 43 4 (bq 44 17592186044415) HT_
    refine done_ (done_of HT_.out (by kernel_rfl)) ?_
    try go_wp2
    go_ret
    exact ⟨by first | rfl | (simp [errW_none, errW_some] <;> rfl) | (simp [*, errW_none, errW_some] <;> rfl), bl HB⟩
  ·replace c6 := Bool.eq_false_iff.mpr c6
   subst c6
   have H1 : (some false) = some r := by rw [if_neg (show ¬ (false = true) by decide)] at H; exact H
   clear H
   have H := H1
   clear H1
   obtain rfl := Option.some.inj H
   go_enter Try.func5, Try.ntmps5
   try go_wp2_with (first | ((with_reducible refine gate_dst (N := 2) rfl ?_); refine box_event ?hg (N := 2) ?hd (cs := #[.int .i64 a0_0, .int .i64 a0_1, .int .i64 a0_2, .int .i64 a0_3, .int .i64 a0_4, .int .i64 a0_5, .int .i64 a0_6, .int .i64 a0_7, .int .i64 a0_8, .int .i64 a0_9, .int .i64 a0_10]) (t := 24) ?hr ?_; (case hd => rfl); (case hg => rfl); (case hr => first | (go_simp; done) | (go_simp; rfl)); intro gb109 hg w30 hbox hb; have n0_ := bst HB hb; have n1_ := Aside0.mk (hbox); have n2_ := Aside0.mk ((by rw [hg]; exact (below_size (bl HB)) : w.heap.size ≤ gb109)); have n3_ := Aside0.mk ((by rw [hg]; exact (below_size (bl HB)) : w.heap.size ≤ gb109)); clear HB; have HB := n0_; have BK109 := n1_; have GW109 := n2_; have GE109 := n3_; clear n0_ n1_ n2_ n3_; clear hb hbox hg) | ((with_reducible refine gate_dst (N := 3) rfl ?_); refine box_event ?hg (N := 3) ?hd (cs := #[.int .i64 a1_0, .int .i64 a1_1, .int .i64 a1_2, .int .i64 a1_3]) (t := 27) ?hr ?_; (case hd => rfl); (case hg => rfl); (case hr => first | (go_simp; done) | (go_simp; rfl)); intro gb110 hg w31 hbox hb; have n0_ := bkb BK109 hb; have n1_ := bst HB hb; have n2_ := Aside0.mk (hbox); have n3_ := Aside0.mk ((by rw [hg]; exact (below_size (bl HB)) : w.heap.size ≤ gb110)); have n4_ := Aside0.mk ((by rw [hg]; exact (below_size (bl HB)) : w.heap.size ≤ gb110)); have n5_ := Aside0.mk ((by rw [hg]; exact Nat.ne_of_lt (blk_lt (g := gb109) (o := .cells #[.int .i64 a0_0, .int .i64 a0_1, .int .i64 a0_2, .int .i64 a0_3, .int .i64 a0_4, .int .i64 a0_5, .int .i64 a0_6, .int .i64 a0_7, .int .i64 a0_8, .int .i64 a0_9, .int .i64 a0_10] 24 (0, 0)) (by (with_reducible repeat (first | refine blk_drewN ?_ _ | refine blk_drew ?_ | refine blk_alloc ?_ _)); exact BK109.out)) : gb109 ≠ gb110)); have n6_ := Aside0.mk ((by rw [hg]; exact Nat.ne_of_gt (blk_lt (g := gb109) (o := .cells #[.int .i64 a0_0, .int .i64 a0_1, .int .i64 a0_2, .int .i64 a0_3, .int .i64 a0_4, .int .i64 a0_5, .int .i64 a0_6, .int .i64 a0_7, .int .i64 a0_8, .int .i64 a0_9, .int .i64 a0_10] 24 (0, 0)) (by (with_reducible repeat (first | refine blk_drewN ?_ _ | refine blk_drew ?_ | refine blk_alloc ?_ _)); exact BK109.out)) : gb110 ≠ gb109)); clear BK109; clear HB; have BK109 := n0_; have HB := n1_; have BK110 := n2_; have GW110 := n3_; have GE110 := n4_; have NB109_110 := n5_; have NB110_109 := n6_; clear n0_ n1_ n2_ n3_ n4_ n5_ n6_; clear hb hbox hg))
   replace BK109 := Aside0.mk (blk_drew BK109.out)
   replace BK110 := Aside0.mk (blk_drew BK110.out)
   replace HB := Aside0.mk (below_drew1 HB.out)
   refine start_ (n := 44) (S := fun w' => w'.cell? ⟨gb109, 0, none⟩ = some (.int .i64 a0_0) ∧ w'.cell? ⟨gb109, 1, none⟩ = some (.int .i64 a0_1) ∧ w'.cell? ⟨gb109, 2, none⟩ = some (.int .i64 a0_2) ∧ w'.cell? ⟨gb109, 3, none⟩ = some (.int .i64 a0_3) ∧ w'.cell? ⟨gb109, 4, none⟩ = some (.int .i64 a0_4) ∧ w'.cell? ⟨gb109, 5, none⟩ = some (.int .i64 a0_5) ∧ w'.cell? ⟨gb109, 6, none⟩ = some (.int .i64 a0_6) ∧ w'.cell? ⟨gb109, 7, none⟩ = some (.int .i64 a0_7) ∧ w'.cell? ⟨gb109, 8, none⟩ = some (.int .i64 a0_8) ∧ w'.cell? ⟨gb109, 9, none⟩ = some (.int .i64 a0_9) ∧ w'.cell? ⟨gb109, 10, none⟩ = some (.int .i64 a0_10) ∧ w'.cell? ⟨gb110, 0, none⟩ = some (.int .i64 a1_0) ∧ w'.cell? ⟨gb110, 1, none⟩ = some (.int .i64 a1_1) ∧ w'.cell? ⟨gb110, 2, none⟩ = some (.int .i64 a1_2) ∧ w'.cell? ⟨gb110, 3, none⟩ = some (.int .i64 a1_3)) (ds := []) (bq 44 0) (by kernel_rfl) rfl rfl ⟨(blk_cell BK109.out 0).trans rfl, (blk_cell BK109.out 1).trans rfl, (blk_cell BK109.out 2).trans rfl, (blk_cell BK109.out 3).trans rfl, (blk_cell BK109.out 4).trans rfl, (blk_cell BK109.out 5).trans rfl, (blk_cell BK109.out 6).trans rfl, (blk_cell BK109.out 7).trans rfl, (blk_cell BK109.out 8).trans rfl, (blk_cell BK109.out 9).trans rfl, (blk_cell BK109.out 10).trans rfl, (blk_cell BK110.out 0).trans rfl, (blk_cell BK110.out 1).trans rfl, (blk_cell BK110.out 2).trans rfl, (blk_cell BK110.out 3).trans rfl⟩ (fun hHeld => ?_); refine with_tabW extent_Right.tab2 extent_Right.bits2 (fun HT_ HW_ => ?_)
   generalize w31.drew = w32 at BK109 BK110 HB hHeld ⊢
   apply tu 0 6 (bq 44 1) HT_ HW_ hHeld
   refine one_ (i := 1) (N := some 7) (bq 44 3) rfl rfl (one_of HT_.out (by kernel_rfl)) (by decide) (fun K hK => ?_)
   refine gs Try.func15 #[.agg #[.int .i64 a0_0, .int .i64 a0_1, .int .i64 a0_2, .int .i64 a0_3, .int .i64 a0_4, .int .i64 a0_5, .int .i64 a0_6, .int .i64 a0_7, .int .i64 a0_8, .int .i64 a0_9, .int .i64 a0_10]] ?_
   with_reducible refine (conf_Check.calls a0_0 a0_1 a0_2 a0_3 a0_4 a0_5 a0_6 a0_7 a0_8 a0_9 a0_10 t111 _ A3.out).mono ?_
   rintro e w33 ⟨rfl, hb⟩
   refine ⟨_, rfl, ?_⟩
   replace BK109 := bkb BK109 hb
   replace BK110 := bkb BK110 hb
   replace HB := bst HB hb
   try clear hb; try clear hb2; try clear hk; try clear hi
   refine hK.out _ _ sc (fun hHeld => ?_)
   clear hK K
   apply nm 0
   apply pu 2 8 (bq 44 7) HT_
   apply pu 3 9 (bq 44 15) HT_
   apply pu 4 10 (bq 44 31) HT_
   apply pu 5 11 (bq 44 63) HT_
   apply pu 7 13 (bq 44 191) HT_
   apply tu 6 12 (bq 44 255) HT_ HW_ hHeld
   apply tu 8 14 (bq 44 511) HT_ HW_ hHeld
   refine one_ (i := 9) (N := some 15) (bq 44 1023) rfl rfl (one_of HT_.out (by kernel_rfl)) (by decide) (fun K hK => ?_)
   refine gsf Try.func14 #[.int .i64 a1_0, .int .i64 a0_1] ?_
   with_reducible refine (extent_RightIn.calls a1_0 a0_1 false _ A5.out).mono ?_
   rintro e w' ⟨rfl, ⟨nd, rfl⟩⟩
   refine ⟨_, rfl, ?_⟩
   refine hK.out _ _ sc (fun hHeld => ?_)
   clear hK K
   apply nm 0
   apply pu 10 16 (bq 44 2047) HT_
   apply pu 11 17 (bq 44 4095) HT_
   apply po 12 18 (bq 44 8191) HT_
   apply po 13 19 (bq 44 16383) HT_
   apply po 14 20 (bq 44 32767) HT_
   apply po 15 21 (bq 44 65535) HT_
   apply po 16 22 (bq 44 131071) HT_
   apply po 17 23 (bq 44 262143) HT_
   apply po 18 24 (bq 44 524287) HT_
   apply pu 19 25 (bq 44 1048575) HT_
   apply pu 20 26 (bq 44 2097151) HT_
   apply po 21 27 (bq 44 4194303) HT_
   apply po 22 28 (bq 44 8388607) HT_
   apply po 23 29 (bq 44 16777215) HT_
   apply pu 24 30 (bq 44 33554431) HT_
   apply pu 25 31 (bq 44 67108863) HT_
   apply po 26 32 (bq 44 134217727) HT_
   apply po 27 33 (bq 44 268435455) HT_
   apply po 28 34 (bq 44 536870911) HT_
   apply po 29 35 (bq 44 1073741823) HT_
   apply po 30 36 (bq 44 2147483647) HT_
   apply po 31 37 (bq 44 4294967295) HT_
   apply po 32 38 (bq 44 8589934591) HT_
   apply po 33 39 (bq 44 17179869183) HT_
   apply pu 34 40 (bq 44 34359738367) HT_
   apply pu 35 41 (bq 44 68719476735) HT_
   apply po 36 42 (bq 44 137438953471) HT_
   apply po 37 43 (bq 44 274877906943) HT_
   apply po 38 44 (bq 44 549755813887) HT_
   apply po 39 45 (bq 44 1099511627775) HT_
   apply po 40 46 (bq 44 2199023255551) HT_
   apply po 41 47 (bq 44 4398046511103) HT_
   apply pu 42 48 (bq 44 8796093022207) HT_
   apply pu 43 4 (bq 44 17592186044415) HT_
   refine done_ (done_of HT_.out (by kernel_rfl)) ?_
   try go_wp2
   go_ret
   exact ⟨by first | rfl | (simp [errW_none, errW_some] <;> rfl) | (simp [*, errW_none, errW_some] <;> rfl), bl HB⟩
 ·rw [if_neg c4] at H
  have c4b0 : (t111 == 0) = false := beq_eq_false_iff_ne.mpr c4
  have c4b1 : (t111 != 0) = true := bne_iff_ne.mpr c4
  obtain rfl := Option.some.inj H
  go_enter Try.func5, Try.ntmps5
  try go_wp2_with (first | ((with_reducible refine gate_dst (N := 2) rfl ?_); refine box_event ?hg (N := 2) ?hd (cs := #[.int .i64 a0_0, .int .i64 a0_1, .int .i64 a0_2, .int .i64 a0_3, .int .i64 a0_4, .int .i64 a0_5, .int .i64 a0_6, .int .i64 a0_7, .int .i64 a0_8, .int .i64 a0_9, .int .i64 a0_10]) (t := 24) ?hr ?_; (case hd => rfl); (case hg => rfl); (case hr => first | (go_simp; done) | (go_simp; rfl)); intro gb109 hg w34 hbox hb; have n0_ := bst HB hb; have n1_ := Aside0.mk (hbox); have n2_ := Aside0.mk ((by rw [hg]; exact (below_size (bl HB)) : w.heap.size ≤ gb109)); have n3_ := Aside0.mk ((by rw [hg]; exact (below_size (bl HB)) : w.heap.size ≤ gb109)); clear HB; have HB := n0_; have BK109 := n1_; have GW109 := n2_; have GE109 := n3_; clear n0_ n1_ n2_ n3_; clear hb hbox hg) | ((with_reducible refine gate_dst (N := 3) rfl ?_); refine box_event ?hg (N := 3) ?hd (cs := #[.int .i64 a1_0, .int .i64 a1_1, .int .i64 a1_2, .int .i64 a1_3]) (t := 27) ?hr ?_; (case hd => rfl); (case hg => rfl); (case hr => first | (go_simp; done) | (go_simp; rfl)); intro gb110 hg w35 hbox hb; have n0_ := bkb BK109 hb; have n1_ := bst HB hb; have n2_ := Aside0.mk (hbox); have n3_ := Aside0.mk ((by rw [hg]; exact (below_size (bl HB)) : w.heap.size ≤ gb110)); have n4_ := Aside0.mk ((by rw [hg]; exact (below_size (bl HB)) : w.heap.size ≤ gb110)); have n5_ := Aside0.mk ((by rw [hg]; exact Nat.ne_of_lt (blk_lt (g := gb109) (o := .cells #[.int .i64 a0_0, .int .i64 a0_1, .int .i64 a0_2, .int .i64 a0_3, .int .i64 a0_4, .int .i64 a0_5, .int .i64 a0_6, .int .i64 a0_7, .int .i64 a0_8, .int .i64 a0_9, .int .i64 a0_10] 24 (0, 0)) (by (with_reducible repeat (first | refine blk_drewN ?_ _ | refine blk_drew ?_ | refine blk_alloc ?_ _)); exact BK109.out)) : gb109 ≠ gb110)); have n6_ := Aside0.mk ((by rw [hg]; exact Nat.ne_of_gt (blk_lt (g := gb109) (o := .cells #[.int .i64 a0_0, .int .i64 a0_1, .int .i64 a0_2, .int .i64 a0_3, .int .i64 a0_4, .int .i64 a0_5, .int .i64 a0_6, .int .i64 a0_7, .int .i64 a0_8, .int .i64 a0_9, .int .i64 a0_10] 24 (0, 0)) (by (with_reducible repeat (first | refine blk_drewN ?_ _ | refine blk_drew ?_ | refine blk_alloc ?_ _)); exact BK109.out)) : gb110 ≠ gb109)); clear BK109; clear HB; have BK109 := n0_; have HB := n1_; have BK110 := n2_; have GW110 := n3_; have GE110 := n4_; have NB109_110 := n5_; have NB110_109 := n6_; clear n0_ n1_ n2_ n3_ n4_ n5_ n6_; clear hb hbox hg))
  replace BK109 := Aside0.mk (blk_drew BK109.out)
  replace BK110 := Aside0.mk (blk_drew BK110.out)
  replace HB := Aside0.mk (below_drew1 HB.out)
  refine start_ (n := 44) (S := fun w' => w'.cell? ⟨gb109, 0, none⟩ = some (.int .i64 a0_0) ∧ w'.cell? ⟨gb109, 1, none⟩ = some (.int .i64 a0_1) ∧ w'.cell? ⟨gb109, 2, none⟩ = some (.int .i64 a0_2) ∧ w'.cell? ⟨gb109, 3, none⟩ = some (.int .i64 a0_3) ∧ w'.cell? ⟨gb109, 4, none⟩ = some (.int .i64 a0_4) ∧ w'.cell? ⟨gb109, 5, none⟩ = some (.int .i64 a0_5) ∧ w'.cell? ⟨gb109, 6, none⟩ = some (.int .i64 a0_6) ∧ w'.cell? ⟨gb109, 7, none⟩ = some (.int .i64 a0_7) ∧ w'.cell? ⟨gb109, 8, none⟩ = some (.int .i64 a0_8) ∧ w'.cell? ⟨gb109, 9, none⟩ = some (.int .i64 a0_9) ∧ w'.cell? ⟨gb109, 10, none⟩ = some (.int .i64 a0_10)) (ds := []) (bq 44 0) (by kernel_rfl) rfl rfl (cz11 BK109.out) (fun hHeld => ?_); refine with_tabW extent_Right.tab2 extent_Right.bits2 (fun HT_ HW_ => ?_)
  generalize w35.drew = w36 at BK109 BK110 HB hHeld ⊢
  apply tu 0 6 (bq 44 1) HT_ HW_ hHeld
  refine one_ (i := 1) (N := some 7) (bq 44 3) rfl rfl (one_of HT_.out (by kernel_rfl)) (by decide) (fun K hK => ?_)
  refine gs Try.func15 #[.agg #[.int .i64 a0_0, .int .i64 a0_1, .int .i64 a0_2, .int .i64 a0_3, .int .i64 a0_4, .int .i64 a0_5, .int .i64 a0_6, .int .i64 a0_7, .int .i64 a0_8, .int .i64 a0_9, .int .i64 a0_10]] ?_
  with_reducible refine (conf_Check.calls a0_0 a0_1 a0_2 a0_3 a0_4 a0_5 a0_6 a0_7 a0_8 a0_9 a0_10 t111 _ A3.out).mono ?_
  rintro e w37 ⟨rfl, hb⟩
  refine ⟨_, rfl, ?_⟩
  replace BK109 := bkb BK109 hb
  replace BK110 := bkb BK110 hb
  replace HB := bst HB hb
  try clear hb; try clear hb2; try clear hk; try clear hi
  refine hK.out _ _ sc (fun hHeld => ?_)
  clear hK K
  apply nm 0
  apply pu 2 8 (bq 44 7) HT_
  apply pu 3 9 (bq 44 15) HT_
  apply po 4 10 (bq 44 31) HT_
  apply po 5 11 (bq 44 63) HT_
  apply po 6 12 (bq 44 127) HT_
  apply po 7 13 (bq 44 255) HT_
  apply po 8 14 (bq 44 511) HT_
  apply po 9 15 (bq 44 1023) HT_
  apply pu 10 16 (bq 44 2047) HT_
  apply pu 11 17 (bq 44 4095) HT_
  apply po 12 18 (bq 44 8191) HT_
  apply po 13 19 (bq 44 16383) HT_
  apply po 14 20 (bq 44 32767) HT_
  apply po 15 21 (bq 44 65535) HT_
  apply po 16 22 (bq 44 131071) HT_
  apply po 17 23 (bq 44 262143) HT_
  apply po 18 24 (bq 44 524287) HT_
  apply pu 19 25 (bq 44 1048575) HT_
  apply pu 20 26 (bq 44 2097151) HT_
  apply po 21 27 (bq 44 4194303) HT_
  apply po 22 28 (bq 44 8388607) HT_
  apply po 23 29 (bq 44 16777215) HT_
  apply pu 24 30 (bq 44 33554431) HT_
  apply pu 25 31 (bq 44 67108863) HT_
  apply po 26 32 (bq 44 134217727) HT_
  apply po 27 33 (bq 44 268435455) HT_
  apply po 28 34 (bq 44 536870911) HT_
  apply po 29 35 (bq 44 1073741823) HT_
  apply po 30 36 (bq 44 2147483647) HT_
  apply po 31 37 (bq 44 4294967295) HT_
  apply po 32 38 (bq 44 8589934591) HT_
  apply po 33 39 (bq 44 17179869183) HT_
  apply pu 34 40 (bq 44 34359738367) HT_
  apply pu 35 41 (bq 44 68719476735) HT_
  apply po 36 42 (bq 44 137438953471) HT_
  apply po 37 43 (bq 44 274877906943) HT_
  apply po 38 44 (bq 44 549755813887) HT_
  apply po 39 45 (bq 44 1099511627775) HT_
  apply po 40 46 (bq 44 2199023255551) HT_
  apply po 41 47 (bq 44 4398046511103) HT_
  apply pu 42 48 (bq 44 8796093022207) HT_
  apply pu 43 4 (bq 44 17592186044415) HT_
  refine done_ (done_of HT_.out (by kernel_rfl)) ?_
  try go_wp2
  go_ret
  exact ⟨by first | rfl | (simp [errW_none, errW_some] <;> rfl) | (simp [*, errW_none, errW_some] <;> rfl), bl HB⟩

end Go.Proofs.Ytbjpjddhkpnofaa.PZ
