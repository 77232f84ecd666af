/- Printed by the kit's print over stand-ins for some functions (xprint.py), with contracts of my own in their place. -/
import Derived.Test.YtekihhbihnmakaaPAx0
import Derived.Test.YtekihhbihnmakaaPAx54
import Derived.Test.YtekihhbihnmakaaPAx55
import Derived.Test.YtekihhbihnmakaaPAx56
namespace Go.Proofs.Ytekihhbihnmakaa.PA
open Go.RowKit Go.Proofs.YtekihhbihnmakaaW.PrintWords Go.Proofs.YtekihhbihnmakaaW.PrintLast
set_option linter.unusedVariables false
set_option linter.unusedSimpArgs false
theorem drewN_self_57 (w : World) (n : Nat) : w.drewN n = w.drewN n := rfl

/-! ### loads_Part: function 62 -/
def loads_Part.f (k : Nat) (a0_0 : Int) (a0_1 : Int) : Option (Int × Int) := (loads_held.f a0_1).bind fun t679 => ((loads_whole.f a0_0 a0_1).bind fun t680 => (if t680 = 0 then (some (0, 1)) else ((loads_divisor.f k t680 t679).bind fun t681 => (if t681 = 0 then (none) else (some (wrap64 (Int.tdiv t679 t681), wrap64 (Int.tdiv t680 t681)))))))
theorem loads_Part.mono : ∀ a0 a1 k, LeO (loads_Part.f k a0 a1) (loads_Part.f (k + 1) a0 a1) := by
 intro a0 a1 k
 unfold loads_Part.f
 repeat' first
   | (with_reducible exact loads_divisor.mono _ _ _)
   | (with_reducible exact LeO.refl _)
   | (with_reducible exact LeO.none _)
   | (with_reducible refine LeO.ite ?_ ?_)
   | (with_reducible refine LeO.bind ?_ (fun _ => ?_))
   | exact loads_divisor.mono _ _ _
   | exact LeO.none _
   | refine LeO.ite ?_ ?_
   | refine LeO.bind ?_ (fun _ => ?_)
def loads_Part.T5 : Bool × List (List Nat × List Nat) := (true, [([], []), ([], []), ([0, 1], [0, 1]), ([], []), ([], []), ([3, 4], [3, 4]), ([2, 0, 1, 2], [0, 2]), ([5, 6, 0, 1, 2, 3, 4, 5, 6], [3, 5])])
def loads_Part.B5 : List Nat := [0, 0, 3, 0, 0, 24, 7, 127]
theorem loads_Part.tab5 : rtab .any (opsOf Try.f62 5) = loads_Part.T5 := by kernel_rfl
theorem loads_Part.bits5 : waitsOk loads_Part.T5.2 loads_Part.B5 = true := by kernel_rfl
set_option maxHeartbeats 8000000 in
set_option maxRecDepth 100000 in
theorem loads_Part.calls (k : Nat) (a0_0 : Int) (a0_1 : Int) (r1 : Int) (r2 : Int) (w : World) (h : loads_Part.f k a0_0 a0_1 = some (r1, r2)) :
  Calls Try.prog 62 #[.agg #[.int .i64 a0_0, .int .i64 a0_1]] w fun e w' => e = .returned (.tuple #[.int .i64 r1, .int .i64 r2]) ∧ Below w.heap.size w w' := by
 have hu75 := Try.underlying75
 have HB := Aside0.mk (Below.refl w.heap.size w)
 have H : ((loads_held.f a0_1).bind fun t679 => ((loads_whole.f a0_0 a0_1).bind fun t680 => (if t680 = 0 then (some (0, 1)) else ((loads_divisor.f k t680 t679).bind fun t681 => (if t681 = 0 then (none) else (some (wrap64 (Int.tdiv t679 t681), wrap64 (Int.tdiv t680 t681)))))))) = some (r1, r2) := h
 clear h
 replace H := Option.bind_eq_some_iff.mp H
 obtain ⟨t679, A20, H⟩ := H
 replace H : ((loads_whole.f a0_0 a0_1).bind fun t680 => (if t680 = 0 then (some (0, 1)) else ((loads_divisor.f k t680 t679).bind fun t681 => (if t681 = 0 then (none) else (some (wrap64 (Int.tdiv t679 t681), wrap64 (Int.tdiv t680 t681))))))) = some (r1, r2) := H
 have A2 := Aside0.mk A20
 clear A20
 replace H := Option.bind_eq_some_iff.mp H
 obtain ⟨t680, A30, H⟩ := H
 replace H : (if t680 = 0 then (some (0, 1)) else ((loads_divisor.f k t680 t679).bind fun t681 => (if t681 = 0 then (none) else (some (wrap64 (Int.tdiv t679 t681), wrap64 (Int.tdiv t680 t681)))))) = some (r1, r2) := H
 have A3 := Aside0.mk A30
 clear A30
 by_cases c4 : t680 = 0
 ·rw [if_pos c4] at H
  have c4b0 : (t680 == 0) = true := beq_iff_eq.mpr c4
  have c4b1 : (t680 != 0) = false := bne_eq_false_iff_eq.mpr c4
  clear c4
  simp only [Option.some.injEq, Prod.mk.injEq] at H
  obtain ⟨rfl, rfl⟩ := H
  go_enter Try.func62, Try.ntmps62
  try go_wp2_with (first | ((with_reducible refine gate_dst (N := 1) rfl ?_); refine box_event ?hg (N := 1) ?hd (cs := #[.int .i64 a0_0, .int .i64 a0_1]) (t := 75) ?hr ?_; (case hd => rfl); (case hg => rfl); (case hr => first | (go_simp; done) | (go_simp; rfl)); intro gb678 hg w5 hbox hb; have n0_ := bst HB hb; have n1_ := Aside0.mk (hbox); have n2_ := Aside0.mk ((by rw [hg]; exact (below_size (bl HB)) : w.heap.size ≤ gb678)); have n3_ := Aside0.mk ((by rw [hg]; exact (below_size (bl HB)) : w.heap.size ≤ gb678)); clear HB; have HB := n0_; have BK678 := n1_; have GW678 := n2_; have GE678 := n3_; clear n0_ n1_ n2_ n3_; clear hb hbox hg))
  replace BK678 := Aside0.mk (blk_drew BK678.out)
  replace HB := Aside0.mk (below_drew1 HB.out)
  refine start_ (n := 7) (S := fun w' => w'.cell? ⟨gb678, 0, none⟩ = some (.int .i64 a0_0) ∧ w'.cell? ⟨gb678, 1, none⟩ = some (.int .i64 a0_1)) (ds := []) #[false, false, false, false, false, false, false] (by kernel_rfl) rfl rfl ⟨(blk_cell BK678.out 0).trans rfl, (blk_cell BK678.out 1).trans rfl⟩ (fun hHeld => ?_)
  generalize w5.drew = w6 at BK678 HB hHeld ⊢
  refine pure_ (i := 0) (N := some 5) (v := ?_) (a' := ?_) #[true, false, false, false, false, false, false] rfl rfl (by kernel_rfl) (fun _ _ _ h => h) (Or.inl ⟨by rfl, ?_⟩) ?_ ?_
  rotate_left
  ·intro w'
   go_simp
   with_reducible rfl
  rotate_left
  ·simp only [pq]
   rfl
  refine take_ (i := 1) (N := some 6) (v := ?_) (a' := ?_) #[true, true, false, false, false, false, false] rfl rfl (by kernel_rfl) (fun _ _ _ h => h) (Or.inl ⟨by rfl, ?_⟩) hHeld ?_ ?_
  rotate_left
  ·rintro w' ⟨s0, s1⟩
   go_simp
   with_reducible rfl
  rotate_left
  ·simp only [pq]
   rfl
  refine take_ (i := 3) (N := some 8) (v := ?_) (a' := ?_) #[true, true, false, true, false, false, false] rfl rfl (by kernel_rfl) (fun _ _ _ h => h) (Or.inl ⟨by rfl, ?_⟩) hHeld ?_ ?_
  rotate_left
  ·rintro w' ⟨s0, s1⟩
   go_simp
   with_reducible rfl
  rotate_left
  ·simp only [pq]
   rfl
  refine one_ (i := 2) (N := some 7) #[true, true, true, true, false, false, false] rfl rfl (by kernel_rfl) (by decide) (fun K hK => ?_)
  refine gs Try.func90 #[.int .i64 a0_1] ?_
  with_reducible refine (loads_held.calls a0_1 t679 _ A2.out).mono ?_
  rintro e w7 ⟨rfl, hb⟩
  refine ⟨_, rfl, ?_⟩
  replace BK678 := bkb BK678 hb
  replace HB := bst HB hb
  try clear hb; try clear hb2; try clear hk; try clear hi
  refine hK.out _ _ sc (fun hHeld => ?_)
  clear hK K
  apply nm 0
  refine one_ (i := 4) (N := some 9) #[true, true, true, true, true, false, false] rfl rfl (by kernel_rfl) (by decide) (fun K hK => ?_)
  refine gs Try.func91 #[.agg #[.int .i64 a0_0, .int .i64 a0_1]] ?_
  with_reducible refine (loads_whole.calls a0_0 a0_1 t680 _ A3.out).mono ?_
  rintro e w8 ⟨rfl, hb⟩
  refine ⟨_, rfl, ?_⟩
  replace BK678 := bkb BK678 hb
  replace HB := bst HB hb
  try clear hb; try clear hb2; try clear hk; try clear hi
  refine hK.out _ _ sc (fun hHeld => ?_)
  clear hK K
  apply nm 0
  refine pure_ (i := 5) (N := some 2) (v := ?_) (a' := ?_) #[true, true, true, true, true, true, false] rfl rfl (by kernel_rfl) (fun _ _ _ h => h) (Or.inl ⟨by rfl, ?_⟩) ?_ ?_
  rotate_left
  ·intro w'
   go_simp
   with_reducible rfl
  rotate_left
  ·simp only [pq]
   rfl
  refine pure_ (i := 6) (N := some 3) (v := ?_) (a' := ?_) #[true, true, true, true, true, true, true] rfl rfl (by kernel_rfl) (fun _ _ _ h => h) (Or.inl ⟨by rfl, ?_⟩) ?_ ?_
  rotate_left
  ·intro w'
   go_simp
   with_reducible rfl
  rotate_left
  ·simp only [pq]
   rfl
  refine done_ (by kernel_rfl) ?_
  try go_wp2
  go_ret2
  exact ⟨by first | rfl | (simp [errW_none, errW_some] <;> rfl) | (simp [*, errW_none, errW_some] <;> rfl), bl HB⟩
 ·rw [if_neg c4] at H
  have c4b0 : (t680 == 0) = false := beq_eq_false_iff_ne.mpr c4
  have c4b1 : (t680 != 0) = true := bne_iff_ne.mpr c4
  replace H := Option.bind_eq_some_iff.mp H
  obtain ⟨t681, A90, H⟩ := H
  replace H : (if t681 = 0 then (none) else (some (wrap64 (Int.tdiv t679 t681), wrap64 (Int.tdiv t680 t681)))) = some (r1, r2) := H
  have A9 := Aside0.mk A90
  clear A90
  by_cases c10 : t681 = 0
  ·rw [if_pos c10] at H
   exact absurd H (by simp)
  ·rw [if_neg c10] at H
   have c10b0 : (t681 == 0) = false := beq_eq_false_iff_ne.mpr c10
   have c10b1 : (t681 != 0) = true := bne_iff_ne.mpr c10
   simp only [Option.some.injEq, Prod.mk.injEq] at H
   obtain ⟨rfl, rfl⟩ := H
   go_enter Try.func62, Try.ntmps62
   try go_wp2_with (first | ((with_reducible refine gate_dst (N := 1) rfl ?_); refine box_event ?hg (N := 1) ?hd (cs := #[.int .i64 a0_0, .int .i64 a0_1]) (t := 75) ?hr ?_; (case hd => rfl); (case hg => rfl); (case hr => first | (go_simp; done) | (go_simp; rfl)); intro gb678 hg w11 hbox hb; have n0_ := bst HB hb; have n1_ := Aside0.mk (hbox); have n2_ := Aside0.mk ((by rw [hg]; exact (below_size (bl HB)) : w.heap.size ≤ gb678)); have n3_ := Aside0.mk ((by rw [hg]; exact (below_size (bl HB)) : w.heap.size ≤ gb678)); clear HB; have HB := n0_; have BK678 := n1_; have GW678 := n2_; have GE678 := n3_; clear n0_ n1_ n2_ n3_; clear hb hbox hg))
   replace BK678 := Aside0.mk (blk_drew BK678.out)
   replace HB := Aside0.mk (below_drew1 HB.out)
   refine start_ (n := 7) (S := fun w' => w'.cell? ⟨gb678, 0, none⟩ = some (.int .i64 a0_0) ∧ w'.cell? ⟨gb678, 1, none⟩ = some (.int .i64 a0_1)) (ds := []) #[false, false, false, false, false, false, false] (by kernel_rfl) rfl rfl ⟨(blk_cell BK678.out 0).trans rfl, (blk_cell BK678.out 1).trans rfl⟩ (fun hHeld => ?_)
   generalize w11.drew = w12 at BK678 HB hHeld ⊢
   refine pure_ (i := 0) (N := some 5) (v := ?_) (a' := ?_) #[true, false, false, false, false, false, false] rfl rfl (by kernel_rfl) (fun _ _ _ h => h) (Or.inl ⟨by rfl, ?_⟩) ?_ ?_
   rotate_left
   ·intro w'
    go_simp
    with_reducible rfl
   rotate_left
   ·simp only [pq]
    rfl
   refine take_ (i := 1) (N := some 6) (v := ?_) (a' := ?_) #[true, true, false, false, false, false, false] rfl rfl (by kernel_rfl) (fun _ _ _ h => h) (Or.inl ⟨by rfl, ?_⟩) hHeld ?_ ?_
   rotate_left
   ·rintro w' ⟨s0, s1⟩
    go_simp
    with_reducible rfl
   rotate_left
   ·simp only [pq]
    rfl
   refine take_ (i := 3) (N := some 8) (v := ?_) (a' := ?_) #[true, true, false, true, false, false, false] rfl rfl (by kernel_rfl) (fun _ _ _ h => h) (Or.inl ⟨by rfl, ?_⟩) hHeld ?_ ?_
   rotate_left
   ·rintro w' ⟨s0, s1⟩
    go_simp
    with_reducible rfl
   rotate_left
   ·simp only [pq]
    rfl
   refine one_ (i := 2) (N := some 7) #[true, true, true, true, false, false, false] rfl rfl (by kernel_rfl) (by decide) (fun K hK => ?_)
   refine gs Try.func90 #[.int .i64 a0_1] ?_
   with_reducible refine (loads_held.calls a0_1 t679 _ A2.out).mono ?_
   rintro e w13 ⟨rfl, hb⟩
   refine ⟨_, rfl, ?_⟩
   replace BK678 := bkb BK678 hb
   replace HB := bst HB hb
   try clear hb; try clear hb2; try clear hk; try clear hi
   refine hK.out _ _ sc (fun hHeld => ?_)
   clear hK K
   apply nm 0
   refine one_ (i := 4) (N := some 9) #[true, true, true, true, true, false, false] rfl rfl (by kernel_rfl) (by decide) (fun K hK => ?_)
   refine gs Try.func91 #[.agg #[.int .i64 a0_0, .int .i64 a0_1]] ?_
   with_reducible refine (loads_whole.calls a0_0 a0_1 t680 _ A3.out).mono ?_
   rintro e w14 ⟨rfl, hb⟩
   refine ⟨_, rfl, ?_⟩
   replace BK678 := bkb BK678 hb
   replace HB := bst HB hb
   try clear hb; try clear hb2; try clear hk; try clear hi
   refine hK.out _ _ sc (fun hHeld => ?_)
   clear hK K
   apply nm 0
   refine pure_ (i := 5) (N := some 2) (v := ?_) (a' := ?_) #[true, true, true, true, true, true, false] rfl rfl (by kernel_rfl) (fun _ _ _ h => h) (Or.inl ⟨by rfl, ?_⟩) ?_ ?_
   rotate_left
   ·intro w'
    go_simp
    with_reducible rfl
   rotate_left
   ·simp only [pq]
    rfl
   refine pure_ (i := 6) (N := some 3) (v := ?_) (a' := ?_) #[true, true, true, true, true, true, true] rfl rfl (by kernel_rfl) (fun _ _ _ h => h) (Or.inl ⟨by rfl, ?_⟩) ?_ ?_
   rotate_left
   ·intro w'
    go_simp
    with_reducible rfl
   rotate_left
   ·simp only [pq]
    rfl
   refine done_ (by kernel_rfl) ?_
   try go_wp2_with (first | ((with_reducible refine gate_callee (f := 92) rfl ?_); refine goesL_ (some 14) rfl rfl Try.func92 (by kernel_rfl) rfl #[.int .i64 t680, .int .i64 t679] rfl (by (try simp only [List.map_toArray, List.map_cons, List.map_nil]); first | done | rfl | (simp only [List.length_drop, List.length_take]; rfl)) ?_; (with_reducible refine (loads_divisor.calls k t680 t679 t681 _ A9.out).mono ?_); rintro e w' ⟨rfl, ⟨nd, rfl⟩⟩; refine ⟨_, rfl, ?_⟩))
   (try (rw [drewN_self_57 w14]; generalize hq_ : World.drewN w14 _ = w14; have n0_ : Aside0 (w14.heap[gb678]? = some (.cells #[.int .i64 a0_0, .int .i64 a0_1] 75 (0, 0))) := ⟨by rw [← hq_]; exact (by (with_reducible repeat (first | refine blk_drewN ?_ _ | refine blk_drew ?_ | refine blk_alloc ?_ _)); exact BK678.out)⟩; have n1_ : Aside0 (Below w.heap.size w w14) := ⟨by rw [← hq_]; exact (bl HB)⟩; clear BK678 HB hq_; have BK678 := n0_; have HB := n1_; clear n0_ n1_))
   replace BK678 := Aside0.mk (blk_drew BK678.out)
   replace HB := Aside0.mk (below_drew1 HB.out)
   refine start_ (n := 8) (S := fun w' => True) (ds := []) (bq 8 0) (by kernel_rfl) rfl rfl trivial (fun hHeld => ?_); refine with_tabW loads_Part.tab5 loads_Part.bits5 (fun HT_ HW_ => ?_)
   generalize w14.drew = w15 at BK678 HB hHeld ⊢
   apply pu 0 15 (bq 8 1) HT_
   apply pu 1 16 (bq 8 3) HT_
   apply pu 2 17 (bq 8 7) HT_
   apply pu 3 18 (bq 8 15) HT_
   apply pu 4 19 (bq 8 31) HT_
   apply pu 5 20 (bq 8 63) HT_
   apply pu 6 2 (bq 8 127) HT_
   apply pu 7 3 (bq 8 255) HT_
   refine done_ (done_of HT_.out (by kernel_rfl)) ?_
   try go_wp2
   go_ret2
   exact ⟨by first | rfl | (simp [errW_none, errW_some] <;> rfl) | (simp [*, errW_none, errW_some] <;> rfl), bl HB⟩

end Go.Proofs.Ytekihhbihnmakaa.PA
