/- Printed by the kit's print over stand-ins for some functions (xprint.py), with contracts of my own in their place. -/
import Derived.Test.YtbjpjddhkpnofaaPAx0
import Derived.Test.YtbjpjddhkpnofaaPAx11
namespace Go.Proofs.Ytbjpjddhkpnofaa.PA
open Go.RowKit Go.Proofs.YtbjpjddhkpnofaaW.PrintWords Go.Proofs.YtbjpjddhkpnofaaW.PrintLast
set_option linter.unusedVariables false
set_option linter.unusedSimpArgs false

/-! ### revetmentref41_Merge: function 9 -/
mutual
def revetmentref41_Merge.l0 : Nat → List (S27) → List (S27) → Int → Option ((List (S27)))
  | 0, _, _, _ => none
  | k + 1, x0, x3, x4 => if x4 < (x0.length : Int) then (if 0 ≤ x4 then (if ((rd_T27 x0 x4).f2) < 1 then (revetmentref41_Merge.l0 k x0 x3 (wrap64 (x4 + 1))) else (revetmentref41_Merge.l1 k x0 x3 x4 (x3.length : Int))) else (none)) else (revetmentref41_Merge.l2 k x3 ([] : List (S27)) 0)
def revetmentref41_Merge.l1 : Nat → List (S27) → List (S27) → Int → Int → Option ((List (S27)))
  | 0, _, _, _, _ => none
  | k + 1, x0, x3, x4, x5 => if x5 > 0 then (if 0 ≤ x4 then (if x4 < (x0.length : Int) then (if 0 ≤ (wrap64 (x5 - 1)) then (if (wrap64 (x5 - 1)) < (x3.length : Int) then ((revetmentref41_ahead.f ((rd_T27 x0 x4).f0) ((rd_T27 x0 x4).f1) ((rd_T27 x0 x4).f2) ((rd_T27 x0 x4).f3) ((rd_T27 x3 (wrap64 (x5 - 1))).f0) ((rd_T27 x3 (wrap64 (x5 - 1))).f1) ((rd_T27 x3 (wrap64 (x5 - 1))).f2) ((rd_T27 x3 (wrap64 (x5 - 1))).f3)).bind fun t170 => (if t170 = true then (revetmentref41_Merge.l1 k x0 x3 x4 (wrap64 (x5 - 1))) else ((some (([] : List (S27)) : List (S27))).bind fun y171 => (if 0 ≤ x5 then (if x5 ≤ (x3.length : Int) then ((some (x3.take (x5 : Int).toNat : List (S27))).bind fun y174 => (if y171.length + y174.length < 4398046511104 then ((some (y171 ++ y174 : List (S27))).bind fun y178 => (if y178.length < 4398046511104 then ((some (y178 ++ [(⟨(rd_T27 x0 x4).f0, (rd_T27 x0 x4).f1, (rd_T27 x0 x4).f2, (rd_T27 x0 x4).f3⟩ : S27)] : List (S27))).bind fun y182 => ((some (x3.drop (x5 : Int).toNat : List (S27))).bind fun y185 => (if y182.length + y185.length < 4398046511104 then (revetmentref41_Merge.l0 k x0 (y182 ++ y185) (wrap64 (x4 + 1))) else (none)))) else (none))) else (none))) else (none)) else (none))))) else (none)) else (none)) else (none)) else (none)) else ((some (([] : List (S27)) : List (S27))).bind fun y192 => (if 0 ≤ x5 then (if x5 ≤ (x3.length : Int) then ((some (x3.take (x5 : Int).toNat : List (S27))).bind fun y195 => (if y192.length + y195.length < 4398046511104 then ((some (y192 ++ y195 : List (S27))).bind fun y199 => (if 0 ≤ x4 then (if x4 < (x0.length : Int) then (if y199.length < 4398046511104 then ((some (y199 ++ [(⟨(rd_T27 x0 x4).f0, (rd_T27 x0 x4).f1, (rd_T27 x0 x4).f2, (rd_T27 x0 x4).f3⟩ : S27)] : List (S27))).bind fun y203 => ((some (x3.drop (x5 : Int).toNat : List (S27))).bind fun y206 => (if y203.length + y206.length < 4398046511104 then (revetmentref41_Merge.l0 k x0 (y203 ++ y206) (wrap64 (x4 + 1))) else (none)))) else (none)) else (none)) else (none))) else (none))) else (none)) else (none)))
def revetmentref41_Merge.l2 : Nat → List (S27) → List (S27) → Int → Option ((List (S27)))
  | 0, _, _, _ => none
  | k + 1, x3, x7, x8 => if x8 < (x3.length : Int) then (if (wrap64 ((x7.length : Int) - 1)) ≥ 0 then (if 0 ≤ (wrap64 ((x7.length : Int) - 1)) then (if (wrap64 ((x7.length : Int) - 1)) < (x7.length : Int) then (if 0 ≤ x8 then (if ((rd_T27 x7 (wrap64 ((x7.length : Int) - 1))).f0) = ((rd_T27 x3 x8).f0) then (if (wrap64 (((rd_T27 x7 (wrap64 ((x7.length : Int) - 1))).f1) + ((rd_T27 x7 (wrap64 ((x7.length : Int) - 1))).f2))) = ((rd_T27 x3 x8).f1) then (revetmentref41_Merge.l2 k x3 (x7.set ((wrap64 ((x7.length : Int) - 1)) : Int).toNat (⟨(rd_T27 x7 (wrap64 ((x7.length : Int) - 1))).f0, (rd_T27 x7 (wrap64 ((x7.length : Int) - 1))).f1, wrap64 (((rd_T27 x7 (wrap64 ((x7.length : Int) - 1))).f2) + ((rd_T27 x3 x8).f2)), (rd_T27 x7 (wrap64 ((x7.length : Int) - 1))).f3⟩ : S27)) (wrap64 (x8 + 1))) else (if x7.length < 4398046511104 then (revetmentref41_Merge.l2 k x3 (x7 ++ [(⟨(rd_T27 x3 x8).f0, (rd_T27 x3 x8).f1, (rd_T27 x3 x8).f2, (rd_T27 x3 x8).f3⟩ : S27)]) (wrap64 (x8 + 1))) else (none))) else (if x7.length < 4398046511104 then (revetmentref41_Merge.l2 k x3 (x7 ++ [(⟨(rd_T27 x3 x8).f0, (rd_T27 x3 x8).f1, (rd_T27 x3 x8).f2, (rd_T27 x3 x8).f3⟩ : S27)]) (wrap64 (x8 + 1))) else (none))) else (none)) else (none)) else (none)) else (if 0 ≤ x8 then (if x7.length < 4398046511104 then (revetmentref41_Merge.l2 k x3 (x7 ++ [(⟨(rd_T27 x3 x8).f0, (rd_T27 x3 x8).f1, (rd_T27 x3 x8).f2, (rd_T27 x3 x8).f3⟩ : S27)]) (wrap64 (x8 + 1))) else (none)) else (none))) else (some x7)
end
def revetmentref41_Merge.f (k : Nat) (l0 : List (S27)) : Option ((List (S27))) := revetmentref41_Merge.l0 k l0 ([] : List (S27)) 0
theorem revetmentref41_Merge.mono_l : ∀ k, (∀ y0 y1 y2, LeO (revetmentref41_Merge.l0 k y0 y1 y2) (revetmentref41_Merge.l0 (k + 1) y0 y1 y2)) ∧ (∀ y0 y1 y2 y3, LeO (revetmentref41_Merge.l1 k y0 y1 y2 y3) (revetmentref41_Merge.l1 (k + 1) y0 y1 y2 y3)) ∧ (∀ y0 y1 y2, LeO (revetmentref41_Merge.l2 k y0 y1 y2) (revetmentref41_Merge.l2 (k + 1) y0 y1 y2))
 | 0 => ⟨fun _ _ _ r h => by simp [revetmentref41_Merge.l0] at h, fun _ _ _ _ r h => by simp [revetmentref41_Merge.l1] at h, fun _ _ _ r h => by simp [revetmentref41_Merge.l2] at h⟩
 | k + 1 => by
  obtain ⟨ih0, ih1, ih2⟩ := revetmentref41_Merge.mono_l k
  refine ⟨?_, ?_, ?_⟩
  ·intro y0 y1 y2
   unfold revetmentref41_Merge.l0
   repeat' first
   | (with_reducible exact ih0 _ _ _)
   | (with_reducible exact ih1 _ _ _ _)
   | (with_reducible exact ih2 _ _ _)
   | (with_reducible exact LeO.refl _)
   | (with_reducible exact LeO.none _)
   | (with_reducible refine LeO.ite ?_ ?_)
   | (with_reducible refine LeO.bind ?_ (fun _ => ?_))
   | exact ih0 _ _ _
   | exact ih1 _ _ _ _
   | exact ih2 _ _ _
   | exact LeO.none _
   | refine LeO.ite ?_ ?_
   | refine LeO.bind ?_ (fun _ => ?_)
  ·intro y0 y1 y2 y3
   unfold revetmentref41_Merge.l1
   repeat' first
   | (with_reducible exact ih0 _ _ _)
   | (with_reducible exact ih1 _ _ _ _)
   | (with_reducible exact ih2 _ _ _)
   | (with_reducible exact LeO.refl _)
   | (with_reducible exact LeO.none _)
   | (with_reducible refine LeO.ite ?_ ?_)
   | (with_reducible refine LeO.bind ?_ (fun _ => ?_))
   | exact ih0 _ _ _
   | exact ih1 _ _ _ _
   | exact ih2 _ _ _
   | exact LeO.none _
   | refine LeO.ite ?_ ?_
   | refine LeO.bind ?_ (fun _ => ?_)
  ·intro y0 y1 y2
   unfold revetmentref41_Merge.l2
   repeat' first
   | (with_reducible exact ih0 _ _ _)
   | (with_reducible exact ih1 _ _ _ _)
   | (with_reducible exact ih2 _ _ _)
   | (with_reducible exact LeO.refl _)
   | (with_reducible exact LeO.none _)
   | (with_reducible refine LeO.ite ?_ ?_)
   | (with_reducible refine LeO.bind ?_ (fun _ => ?_))
   | exact ih0 _ _ _
   | exact ih1 _ _ _ _
   | exact ih2 _ _ _
   | exact LeO.none _
   | refine LeO.ite ?_ ?_
   | refine LeO.bind ?_ (fun _ => ?_)
theorem revetmentref41_Merge.mono : ∀ a0 k, LeO (revetmentref41_Merge.f k a0) (revetmentref41_Merge.f (k + 1) a0) := by
 intro a0 k
 obtain ⟨ih0, ih1, ih2⟩ := revetmentref41_Merge.mono_l k
 unfold revetmentref41_Merge.f
 repeat' first
   | (with_reducible exact ih0 _ _ _)
   | (with_reducible exact ih1 _ _ _ _)
   | (with_reducible exact ih2 _ _ _)
   | (with_reducible exact LeO.refl _)
   | (with_reducible exact LeO.none _)
   | (with_reducible refine LeO.ite ?_ ?_)
   | (with_reducible refine LeO.bind ?_ (fun _ => ?_))
   | exact ih0 _ _ _
   | exact ih1 _ _ _ _
   | exact ih2 _ _ _
   | exact LeO.none _
   | refine LeO.ite ?_ ?_
   | refine LeO.bind ?_ (fun _ => ?_)
def revetmentref41_Merge.T7 : Bool × List (List Nat × List Nat) := (true, [([], []), ([0], [0]), ([1], [1]), ([2], [2]), ([2], [2]), ([3, 4, 2], [2, 3, 4]), ([5, 2], [2, 5]), ([2], [2]), ([2], [2]), ([8, 2], [2, 8]), ([7, 9, 2], [2, 7, 9]), ([10, 2], [2, 10]), ([6, 11, 2, 2], [2, 6, 11]), ([2, 12], [2, 12])])
def revetmentref41_Merge.B7 : List Nat := [0, 1, 3, 7, 7, 31, 63, 7, 7, 263, 903, 1927, 4095, 8191]
theorem revetmentref41_Merge.tab7 : rtab .any (opsOf Try.f9 7) = revetmentref41_Merge.T7 := by kernel_rfl
theorem revetmentref41_Merge.bits7 : waitsOk revetmentref41_Merge.T7.2 revetmentref41_Merge.B7 = true := by kernel_rfl
def revetmentref41_Merge.T17 : Bool × List (List Nat × List Nat) := (true, [([], []), ([0], [0]), ([1], [1]), ([2], [2]), ([2], [2]), ([3, 4, 2], [2, 3, 4]), ([5, 2], [2, 5]), ([6, 2], [2, 6]), ([2], [2]), ([2], [2]), ([8, 9, 2], [2, 8, 9]), ([10, 2], [2, 10]), ([11, 2], [2, 11]), ([7, 12, 2], [2, 7, 12]), ([2, 13], [2, 13]), ([14, 2], [14]), ([15], [15]), ([15], [15]), ([16, 17, 15], [15, 16, 17]), ([18, 15], [15, 18]), ([19, 15], [15, 19]), ([15], [15]), ([15], [15]), ([21, 22, 15], [15, 21, 22]), ([23, 15], [15, 23]), ([24, 15], [15, 24]), ([20, 25, 15], [15, 20, 25]), ([15], [15]), ([15], [15]), ([27, 28, 15], [15, 27, 28]), ([29, 15], [15, 29]), ([30, 15], [15, 30]), ([26, 31, 15], [15, 26, 31]), ([15, 32], [15, 32])])
def revetmentref41_Merge.B17 : List Nat := [0, 1, 3, 7, 7, 31, 63, 127, 7, 7, 775, 1799, 3847, 8191, 16383, 32767, 65535, 65535, 262143, 524287, 1048575, 65535, 65535, 6356991, 14745599, 31522815, 67108863, 65535, 65535, 402718719, 939589631, 2013331455, 4294967295, 8589934591]
theorem revetmentref41_Merge.tab17 : rtab .any (opsOf Try.f9 17) = revetmentref41_Merge.T17 := by kernel_rfl
theorem revetmentref41_Merge.bits17 : waitsOk revetmentref41_Merge.T17.2 revetmentref41_Merge.B17 = true := by kernel_rfl
def revetmentref41_Merge.T18 : Bool × List (List Nat × List Nat) := (true, [([], []), ([], []), ([], []), ([], []), ([2, 3], [2, 3]), ([4], [4]), ([5], [5]), ([], []), ([], []), ([7, 8], [7, 8]), ([9], [9]), ([10], [10]), ([6, 11], [6, 11]), ([0, 1, 0, 1, 2, 3, 4, 5, 6, 7, 8, 9, 10, 11, 12], [0, 1]), ([13, 0, 1, 2, 3, 4, 5, 6, 7, 8, 9, 10, 11, 12], [13]), ([14, 12, 0, 1, 2, 3, 4, 5, 6, 7, 8, 9, 10, 11, 12], [12, 14])])
def revetmentref41_Merge.B18 : List Nat := [0, 0, 0, 0, 12, 28, 60, 0, 0, 384, 896, 1920, 4092, 8191, 16383, 32767]
theorem revetmentref41_Merge.tab18 : rtab .any (opsOf Try.f9 18) = revetmentref41_Merge.T18 := by kernel_rfl
theorem revetmentref41_Merge.bits18 : waitsOk revetmentref41_Merge.T18.2 revetmentref41_Merge.B18 = true := by kernel_rfl
set_option maxHeartbeats 8000000 in
set_option maxRecDepth 100000 in
theorem revetmentref41_Merge.calls (k : Nat) (A0 : Option Addr) (c0 : Nat) (l0 : List (S27)) (r : List (S27)) (w : World) (hr0 : Kd.C k27 w A0 l0.length l0) (hc0 : l0.length ≤ c0) (h : revetmentref41_Merge.f k l0 = some r) :
  Calls Try.prog 9 #[.slice A0 l0.length c0] w fun e w' => ∃ v0_ : Value, e = .returned (v0_) ∧ Kd.R k27 27 w' w.heap.size (fun _ => True) v0_ r ∧ Below w.heap.size w w' := by
 have hu27 := Try.underlying27
 have HR0 := Aside0.mk hr0
 have HC0 := Aside0.mk hc0
 clear hr0 hc0
 have HB := Aside0.mk (Below.refl w.heap.size w)
 have H : (revetmentref41_Merge.l0 k l0 ([] : List (S27)) 0) = some r := h
 clear h
 have H' := Aside0.mk H
 clear H
 go_enter Try.func9, Try.ntmps9
 go_wp2
 go_loopg [3, 4] k (fun kq v3 v4 w' => ∃ (x3_1 : List (S27)) (x4_1 : Int), v4 = .int .i64 x4_1 ∧ Aside0 (revetmentref41_Merge.l0 kq l0 x3_1 x4_1 = some r) ∧ Aside0 (kq ≤ k) ∧ Aside0 (Kd.R k27 27 w' w.heap.size (fun _ => True) v3 x3_1) ∧ Aside0 (Below w.heap.size w w'))
 case atStart => exact ⟨(([] : List (S27))), (0), (by first | rfl | (simp; done) | (simp [*]; done)), H', ⟨Nat.le_refl _⟩, ⟨by first | exact Kd.R_nil _ _ _ _ _ | exact Kd.N_nil _ _ _ _ _ | exact Kd.V_nil _ _ _ _ _ | exact Kd.Q_nil _ _ _ _ _ | exact Kd.S_nil _ _ _ _ _⟩, ⟨bl HB⟩⟩
 case round =>
  clear H'
  obtain ⟨x3_1, x4_1, rfl, HA, HK1, HO_3, HB⟩ := hrel
  cases gk with
  | zero => exact absurd HA.out (by simp [revetmentref41_Merge.l0])
  | succ k1 =>
   have H := HA.out
   clear HA
   simp only [revetmentref41_Merge.l0] at H
   by_cases c2 : x4_1 < (l0.length : Int)
   ·rw [if_pos c2] at H
    have c2b0 : decide (x4_1 < (l0.length : Int)) = true := decide_eq_true c2
    clear c2
    by_cases c3 : 0 ≤ x4_1
    ·rw [if_pos c3] at H
     have c3b0 : decide (0 ≤ x4_1) = true := decide_eq_true c3
     clear c3
     by_cases c4 : ((rd_T27 l0 x4_1).f2) < 1
     ·rw [if_pos c4] at H
      have c4b0 : decide (((rd_T27 l0 x4_1).f2) < 1) = true := decide_eq_true c4
      clear c4
      have H' := Aside0.mk H
      clear H
      have p167 : 0 ≤ (x4_1 : Int) := of_decide_eq_true (by first | (with_reducible assumption) | assumption)
      have q167 : x4_1 < (l0.length : Int) := of_decide_eq_true (by first | (with_reducible assumption) | assumption)
      obtain ⟨ad167, e167, hx167_0, hx167_1, hx167_2, hx167_3⟩ := at_T27 HR0.out x4_1 p167 q167
      cases e167
      replace hx167_0 := (HB.out.cell (World.block_lt_of_cell? w _ hx167_0)).trans hx167_0
      replace hx167_1 := (HB.out.cell (World.block_lt_of_cell? w _ hx167_1)).trans hx167_1
      replace hx167_2 := (HB.out.cell (World.block_lt_of_cell? w _ hx167_2)).trans hx167_2
      replace hx167_3 := (HB.out.cell (World.block_lt_of_cell? w _ hx167_3)).trans hx167_3
      replace p167 := eq_true p167
      replace q167 := eq_true q167
      go_wp2
      go_roundg k1
      case measure => have := HK1.out; omega
      case rel => exact ⟨(x3_1), (wrap64 (x4_1 + 1)), (by first | rfl | (simp; done) | (simp [*]; done)), H', ⟨by have := HK1.out; omega⟩, ⟨by (with_reducible repeat (first | apply Kd.R_alloc | apply Kd.R_drewN | apply Kd.R_drew)); exact HO_3.out⟩, ⟨bl HB⟩⟩
     ·rw [if_neg c4] at H
      have c4b0 : decide (((rd_T27 l0 x4_1).f2) < 1) = false := decide_eq_false c4
      clear c4
      have H' := Aside0.mk H
      clear H
      have p167 : 0 ≤ (x4_1 : Int) := of_decide_eq_true (by first | (with_reducible assumption) | assumption)
      have q167 : x4_1 < (l0.length : Int) := of_decide_eq_true (by first | (with_reducible assumption) | assumption)
      obtain ⟨ad167, e167, hx167_0, hx167_1, hx167_2, hx167_3⟩ := at_T27 HR0.out x4_1 p167 q167
      cases e167
      replace hx167_0 := (HB.out.cell (World.block_lt_of_cell? w _ hx167_0)).trans hx167_0
      replace hx167_1 := (HB.out.cell (World.block_lt_of_cell? w _ hx167_1)).trans hx167_1
      replace hx167_2 := (HB.out.cell (World.block_lt_of_cell? w _ hx167_2)).trans hx167_2
      replace hx167_3 := (HB.out.cell (World.block_lt_of_cell? w _ hx167_3)).trans hx167_3
      replace p167 := eq_true p167
      replace q167 := eq_true q167
      obtain ⟨Ao5, co5, eo5⟩ := Kd.R_slice HO_3.out
      subst eo5
      go_wp2
      go_loopg [5] k1 (fun kq v5 w' => ∃ (x5_2 : Int), v5 = .int .i64 x5_2 ∧ Aside0 (revetmentref41_Merge.l1 kq l0 x3_1 x4_1 x5_2 = some r) ∧ Aside0 (kq ≤ k1) ∧ Aside0 (Kd.R k27 27 w' w.heap.size (fun _ => True) (.slice Ao5 x3_1.length co5) x3_1) ∧ Aside0 (Below w.heap.size w w'))
      case atStart => exact ⟨((x3_1.length : Int)), (by first | rfl | (simp; done) | (simp [*]; done)), H', ⟨Nat.le_refl _⟩, ⟨by (with_reducible repeat (first | apply Kd.R_alloc | apply Kd.R_drewN | apply Kd.R_drew)); exact HO_3.out⟩, ⟨bl HB⟩⟩
      case round =>
       clear H'
       try clear p1
       try clear q1
       try clear hx1
       try clear c2
       try clear c2b0
       try clear p2
       try clear c3
       try clear c3b0
       try clear c4
       try clear c4b0
       try clear hx167_0
       try clear hx167_1
       try clear hx167_2
       try clear hx167_3
       try clear p167
       try clear q167
       obtain ⟨x5_2, rfl, HA, HK2, HO_3, HB⟩ := hrel
       cases gk with
       | zero => exact absurd HA.out (by simp [revetmentref41_Merge.l1])
       | succ k2 =>
        have H := HA.out
        clear HA
        simp only [revetmentref41_Merge.l1] at H
        by_cases c6 : x5_2 > 0
        ·rw [if_pos c6] at H
         have c6b0 : decide (0 < x5_2) = true := decide_eq_true c6
         clear c6
         by_cases c7 : 0 ≤ x4_1
         ·rw [if_pos c7] at H
          have c7b0 : decide (0 ≤ x4_1) = true := decide_eq_true c7
          clear c7
          by_cases c8 : x4_1 < (l0.length : Int)
          ·rw [if_pos c8] at H
           have c8b0 : decide (x4_1 < (l0.length : Int)) = true := decide_eq_true c8
           clear c8
           obtain ⟨ji9, hji9⟩ : ∃ j_ : Int, (wrap64 (x5_2 - 1)) = j_ := ⟨_, rfl⟩
           replace H : (if 0 ≤ (ji9) then (if (ji9) < (x3_1.length : Int) then ((revetmentref41_ahead.f ((rd_T27 l0 x4_1).f0) ((rd_T27 l0 x4_1).f1) ((rd_T27 l0 x4_1).f2) ((rd_T27 l0 x4_1).f3) ((rd_T27 x3_1 (ji9)).f0) ((rd_T27 x3_1 (ji9)).f1) ((rd_T27 x3_1 (ji9)).f2) ((rd_T27 x3_1 (ji9)).f3)).bind fun t170 => (if t170 = true then (revetmentref41_Merge.l1 k2 l0 x3_1 x4_1 ji9) else ((some (([] : List (S27)) : List (S27))).bind fun y171 => (if 0 ≤ x5_2 then (if x5_2 ≤ (x3_1.length : Int) then ((some (x3_1.take (x5_2 : Int).toNat : List (S27))).bind fun y174 => (if y171.length + y174.length < 4398046511104 then ((some (y171 ++ y174 : List (S27))).bind fun y178 => (if y178.length < 4398046511104 then ((some (y178 ++ [(⟨(rd_T27 l0 x4_1).f0, (rd_T27 l0 x4_1).f1, (rd_T27 l0 x4_1).f2, (rd_T27 l0 x4_1).f3⟩ : S27)] : List (S27))).bind fun y182 => ((some (x3_1.drop (x5_2 : Int).toNat : List (S27))).bind fun y185 => (if y182.length + y185.length < 4398046511104 then (revetmentref41_Merge.l0 k2 l0 (y182 ++ y185) (wrap64 (x4_1 + 1))) else (none)))) else (none))) else (none))) else (none)) else (none))))) else (none)) else (none)) = some r := by first | (rw [hji9] at H; exact H) | (simp only [hji9] at H ⊢; exact H)
           have hji9w : (IntKind.i64.wrap (x5_2 - 1)) = ji9 := (i64_w _).trans hji9
           by_cases c10 : 0 ≤ (ji9)
           ·rw [if_pos c10] at H
            have c10b0 : decide (0 ≤ (ji9)) = true := decide_eq_true c10
            clear c10
            by_cases c11 : (ji9) < (x3_1.length : Int)
            ·rw [if_pos c11] at H
             have c11b0 : decide ((ji9) < (x3_1.length : Int)) = true := decide_eq_true c11
             clear c11
             replace H := Option.bind_eq_some_iff.mp H
             obtain ⟨t170, A120, H⟩ := H
             replace H : (if t170 = true then (revetmentref41_Merge.l1 k2 l0 x3_1 x4_1 ji9) else ((some (([] : List (S27)) : List (S27))).bind fun y171 => (if 0 ≤ x5_2 then (if x5_2 ≤ (x3_1.length : Int) then ((some (x3_1.take (x5_2 : Int).toNat : List (S27))).bind fun y174 => (if y171.length + y174.length < 4398046511104 then ((some (y171 ++ y174 : List (S27))).bind fun y178 => (if y178.length < 4398046511104 then ((some (y178 ++ [(⟨(rd_T27 l0 x4_1).f0, (rd_T27 l0 x4_1).f1, (rd_T27 l0 x4_1).f2, (rd_T27 l0 x4_1).f3⟩ : S27)] : List (S27))).bind fun y182 => ((some (x3_1.drop (x5_2 : Int).toNat : List (S27))).bind fun y185 => (if y182.length + y185.length < 4398046511104 then (revetmentref41_Merge.l0 k2 l0 (y182 ++ y185) (wrap64 (x4_1 + 1))) else (none)))) else (none))) else (none))) else (none)) else (none)))) = some r := H
             have A12 := Aside0.mk A120
             clear A120
             by_cases c13 : t170 = true
             ·subst c13
              have H1 : (revetmentref41_Merge.l1 k2 l0 x3_1 x4_1 ji9) = some r := by rw [if_pos rfl] at H; exact H
              clear H
              have H := H1
              clear H1
              have H' := Aside0.mk H
              clear H
              try go_wp2
              replace HO_3 := Aside0.mk (Kd.R_drew HO_3.out)
              replace HB := Aside0.mk (below_drew1 HB.out)
              have p168 : 0 ≤ (x4_1 : Int) := of_decide_eq_true (by first | (with_reducible assumption) | assumption)
              have q168 : x4_1 < (l0.length : Int) := of_decide_eq_true (by first | (with_reducible assumption) | assumption)
              obtain ⟨ad168, e168, hx168_0, hx168_1, hx168_2, hx168_3⟩ := at_T27 HR0.out x4_1 p168 q168
              have hw168_3 := hx168_3
              have hw168_2 := hx168_2
              have hw168_1 := hx168_1
              have hw168_0 := hx168_0
              obtain rfl : ad167 = ad168 := (by injection e168)
              replace hx168_0 := (HB.out.cell (World.block_lt_of_cell? w _ hx168_0)).trans hx168_0
              replace hx168_1 := (HB.out.cell (World.block_lt_of_cell? w _ hx168_1)).trans hx168_1
              replace hx168_2 := (HB.out.cell (World.block_lt_of_cell? w _ hx168_2)).trans hx168_2
              replace hx168_3 := (HB.out.cell (World.block_lt_of_cell? w _ hx168_3)).trans hx168_3
              replace p168 := eq_true p168
              replace q168 := eq_true q168
              have p169 : 0 ≤ ((ji9) : Int) := of_decide_eq_true (by first | (with_reducible assumption) | assumption)
              have q169 : (ji9) < (x3_1.length : Int) := of_decide_eq_true (by first | (with_reducible assumption) | assumption)
              obtain ⟨ad169, e169, hx169_0, hx169_1, hx169_2, hx169_3⟩ := at_T27 (Kd.R_reads' HO_3.out).2.2 (ji9) p169 q169
              cases e169
              replace p169 := eq_true p169
              replace q169 := eq_true q169
              refine start_ (n := 14) (S := fun w' => w'.cell? (ad167.add ((x4_1).toNat * 4)) = some (.int .i64 ((rd_T27 l0 x4_1).f0)) ∧ w'.cell? ⟨(ad167.add ((x4_1).toNat * 4)).block, (ad167.add ((x4_1).toNat * 4)).off + 1, none⟩ = some (.int .i64 ((rd_T27 l0 x4_1).f1)) ∧ w'.cell? ⟨(ad167.add ((x4_1).toNat * 4)).block, (ad167.add ((x4_1).toNat * 4)).off + 2, none⟩ = some (.int .i64 ((rd_T27 l0 x4_1).f2)) ∧ w'.cell? ⟨(ad167.add ((x4_1).toNat * 4)).block, (ad167.add ((x4_1).toNat * 4)).off + 3, none⟩ = some (.int .i64 ((rd_T27 l0 x4_1).f3)) ∧ w'.cell? (ad169.add (((ji9)).toNat * 4)) = some (.int .i64 ((rd_T27 x3_1 (ji9)).f0)) ∧ w'.cell? ⟨(ad169.add (((ji9)).toNat * 4)).block, (ad169.add (((ji9)).toNat * 4)).off + 1, none⟩ = some (.int .i64 ((rd_T27 x3_1 (ji9)).f1)) ∧ w'.cell? ⟨(ad169.add (((ji9)).toNat * 4)).block, (ad169.add (((ji9)).toNat * 4)).off + 2, none⟩ = some (.int .i64 ((rd_T27 x3_1 (ji9)).f2)) ∧ w'.cell? ⟨(ad169.add (((ji9)).toNat * 4)).block, (ad169.add (((ji9)).toNat * 4)).off + 3, none⟩ = some (.int .i64 ((rd_T27 x3_1 (ji9)).f3))) (ds := []) (bq 14 0) (by kernel_rfl) rfl rfl ⟨((HB.out.cell (World.block_lt_of_cell? w _ hw168_0)).trans hw168_0), ((HB.out.cell (World.block_lt_of_cell? w _ hw168_1)).trans hw168_1), ((HB.out.cell (World.block_lt_of_cell? w _ hw168_2)).trans hw168_2), ((HB.out.cell (World.block_lt_of_cell? w _ hw168_3)).trans hw168_3), hx169_0, hx169_1, hx169_2, hx169_3⟩ (fun hHeld => ?_); refine with_tabW revetmentref41_Merge.tab7 revetmentref41_Merge.bits7 (fun HT_ HW_ => ?_)
              generalize wr.drew = w14 at HO_3 HB hx168_0 hx168_1 hx168_2 hx168_3 hx169_0 hx169_1 hx169_2 hx169_3 hHeld ⊢
              apply pu 0 24 (bq 14 1) HT_
              apply pu 1 25 (bq 14 3) HT_
              apply pu 2 26 (bq 14 7) HT_
              apply pu 3 27 (bq 14 15) HT_
              apply pu 4 28 (bq 14 31) HT_
              apply pu 5 29 (bq 14 63) HT_
              apply pu 7 31 (bq 14 191) HT_
              apply pu 8 32 (bq 14 447) HT_
              apply pu 9 33 (bq 14 959) HT_
              apply pu 10 34 (bq 14 1983) HT_
              apply tu 6 30 (bq 14 2047) HT_ HW_ hHeld
              apply tu 11 35 (bq 14 4095) HT_ HW_ hHeld
              refine one_ (i := 12) (N := some 36) (bq 14 8191) rfl rfl (one_of HT_.out (by kernel_rfl)) (by decide) (fun K hK => ?_)
              refine goes_ Try.func24 (by kernel_rfl) rfl #[.agg #[.int .i64 ((rd_T27 l0 x4_1).f0), .int .i64 ((rd_T27 l0 x4_1).f1), .int .i64 ((rd_T27 l0 x4_1).f2), .int .i64 ((rd_T27 l0 x4_1).f3)], .agg #[.int .i64 ((rd_T27 x3_1 (ji9)).f0), .int .i64 ((rd_T27 x3_1 (ji9)).f1), .int .i64 ((rd_T27 x3_1 (ji9)).f2), .int .i64 ((rd_T27 x3_1 (ji9)).f3)]] (by rfl) rfl rfl (by (try simp only [List.map_toArray, List.map_cons, List.map_nil]); first | done | (simp only [hji9]; rfl) | rfl | (simp only [List.length_drop, List.length_take]; rfl)) ?_
              with_reducible refine (revetmentref41_ahead.calls ((rd_T27 l0 x4_1).f0) ((rd_T27 l0 x4_1).f1) ((rd_T27 l0 x4_1).f2) ((rd_T27 l0 x4_1).f3) ((rd_T27 x3_1 (ji9)).f0) ((rd_T27 x3_1 (ji9)).f1) ((rd_T27 x3_1 (ji9)).f2) ((rd_T27 x3_1 (ji9)).f3) true _ A12.out).mono ?_
              rintro e w15 ⟨rfl, hb⟩
              have HS4_ := (hb.cell (World.block_lt_of_cell? _ _ (hHeld.2.2.2.2.1))).trans (hHeld.2.2.2.2.1)
              have HS5_ := (hb.cell (World.block_lt_of_cell? _ _ (hHeld.2.2.2.2.2.1))).trans (hHeld.2.2.2.2.2.1)
              have HS6_ := (hb.cell (World.block_lt_of_cell? _ _ (hHeld.2.2.2.2.2.2.1))).trans (hHeld.2.2.2.2.2.2.1)
              have HS7_ := (hb.cell (World.block_lt_of_cell? _ _ (hHeld.2.2.2.2.2.2.2))).trans (hHeld.2.2.2.2.2.2.2)
              refine ⟨_, rfl, ?_⟩
              replace HO_3 := Aside0.mk (Kd.R_below (by (with_reducible repeat (first | apply Kd.R_alloc | apply Kd.R_drewN | apply Kd.R_drew)); exact HO_3.out) hb)
              replace HB := bst HB hb
              try clear hb; try clear hb2; try clear hk; try clear hi
              refine hK.out _ _ ⟨((HB.out.cell (World.block_lt_of_cell? w _ hw168_0)).trans hw168_0), ((HB.out.cell (World.block_lt_of_cell? w _ hw168_1)).trans hw168_1), ((HB.out.cell (World.block_lt_of_cell? w _ hw168_2)).trans hw168_2), ((HB.out.cell (World.block_lt_of_cell? w _ hw168_3)).trans hw168_3), HS4_, HS5_, HS6_, HS7_⟩ (fun hHeld => ?_)
              clear hK K
              apply nm 0
              apply pu 13 37 (bq 14 16383) HT_
              refine done_ (done_of HT_.out (by kernel_rfl)) ?_
              try go_wp2
              go_roundg k2
              case measure => have := HK1.out; have := HK2.out; omega
              case rel => exact ⟨(ji9), (by first | rfl | (simp; done) | (simp only [← hji9] <;> (first | rfl | simp)) | (simp [*]; done)), H', ⟨by have := HK1.out; have := HK2.out; omega⟩, ⟨by (with_reducible repeat (first | apply Kd.R_alloc | apply Kd.R_drewN | apply Kd.R_drew)); exact HO_3.out⟩, ⟨bl HB⟩⟩
             ·replace c13 := Bool.eq_false_iff.mpr c13
              subst c13
              have H1 : ((some (([] : List (S27)) : List (S27))).bind fun y171 => (if 0 ≤ x5_2 then (if x5_2 ≤ (x3_1.length : Int) then ((some (x3_1.take (x5_2 : Int).toNat : List (S27))).bind fun y174 => (if y171.length + y174.length < 4398046511104 then ((some (y171 ++ y174 : List (S27))).bind fun y178 => (if y178.length < 4398046511104 then ((some (y178 ++ [(⟨(rd_T27 l0 x4_1).f0, (rd_T27 l0 x4_1).f1, (rd_T27 l0 x4_1).f2, (rd_T27 l0 x4_1).f3⟩ : S27)] : List (S27))).bind fun y182 => ((some (x3_1.drop (x5_2 : Int).toNat : List (S27))).bind fun y185 => (if y182.length + y185.length < 4398046511104 then (revetmentref41_Merge.l0 k2 l0 (y182 ++ y185) (wrap64 (x4_1 + 1))) else (none)))) else (none))) else (none))) else (none)) else (none))) = some r := by rw [if_neg (show ¬ (false = true) by decide)] at H; exact H
              clear H
              have H := H1
              clear H1
              obtain ⟨y171, hy171⟩ : ∃ y_ : List (S27), y_ = (([] : List (S27))) := ⟨_, rfl⟩
              replace H : (if 0 ≤ x5_2 then (if x5_2 ≤ (x3_1.length : Int) then ((some (x3_1.take (x5_2 : Int).toNat : List (S27))).bind fun y174 => (if y171.length + y174.length < 4398046511104 then ((some (y171 ++ y174 : List (S27))).bind fun y178 => (if y178.length < 4398046511104 then ((some (y178 ++ [(⟨(rd_T27 l0 x4_1).f0, (rd_T27 l0 x4_1).f1, (rd_T27 l0 x4_1).f2, (rd_T27 l0 x4_1).f3⟩ : S27)] : List (S27))).bind fun y182 => ((some (x3_1.drop (x5_2 : Int).toNat : List (S27))).bind fun y185 => (if y182.length + y185.length < 4398046511104 then (revetmentref41_Merge.l0 k2 l0 (y182 ++ y185) (wrap64 (x4_1 + 1))) else (none)))) else (none))) else (none))) else (none)) else (none)) = some r := by first | (rw [hy171]; with_reducible exact H) | (have H2_ := (Option.bind_some _ _).symm.trans H; rw [hy171]; with_reducible exact H2_) | (have H2_ := (Option.bind_some _ _).symm.trans H; with_reducible exact H2_) | with_reducible exact H | (rw [hy171]; exact H) | exact H
              have Ny171 := Aside0.mk hy171
              clear hy171
              by_cases c16 : 0 ≤ x5_2
              ·rw [if_pos c16] at H
               have c16b0 := eq_true c16
               have c16b1 : decide (0 ≤ x5_2) = true := decide_eq_true c16
               clear c16
               by_cases c17 : x5_2 ≤ (x3_1.length : Int)
               ·rw [if_pos c17] at H
                have c17b0 := eq_true c17
                have c17b1 : decide (x5_2 ≤ (x3_1.length : Int)) = true := decide_eq_true c17
                clear c17
                obtain ⟨y174, hy174⟩ : ∃ y_ : List (S27), y_ = (x3_1.take (x5_2 : Int).toNat) := ⟨_, rfl⟩
                replace H : (if y171.length + y174.length < 4398046511104 then ((some (y171 ++ y174 : List (S27))).bind fun y178 => (if y178.length < 4398046511104 then ((some (y178 ++ [(⟨(rd_T27 l0 x4_1).f0, (rd_T27 l0 x4_1).f1, (rd_T27 l0 x4_1).f2, (rd_T27 l0 x4_1).f3⟩ : S27)] : List (S27))).bind fun y182 => ((some (x3_1.drop (x5_2 : Int).toNat : List (S27))).bind fun y185 => (if y182.length + y185.length < 4398046511104 then (revetmentref41_Merge.l0 k2 l0 (y182 ++ y185) (wrap64 (x4_1 + 1))) else (none)))) else (none))) else (none)) = some r := by first | (rw [hy174]; with_reducible exact H) | (have H2_ := (Option.bind_some _ _).symm.trans H; rw [hy174]; with_reducible exact H2_) | (have H2_ := (Option.bind_some _ _).symm.trans H; with_reducible exact H2_) | with_reducible exact H | (rw [hy174]; exact H) | exact H
                have Ny174 := Aside0.mk hy174
                clear hy174
                by_cases c18 : y171.length + y174.length < 4398046511104
                ·rw [if_pos c18] at H
                 have LMc18 := Aside0.mk c18
                 clear c18
                 obtain ⟨y178, hy178⟩ : ∃ y_ : List (S27), y_ = (y171 ++ y174) := ⟨_, rfl⟩
                 replace H : (if y178.length < 4398046511104 then ((some (y178 ++ [(⟨(rd_T27 l0 x4_1).f0, (rd_T27 l0 x4_1).f1, (rd_T27 l0 x4_1).f2, (rd_T27 l0 x4_1).f3⟩ : S27)] : List (S27))).bind fun y182 => ((some (x3_1.drop (x5_2 : Int).toNat : List (S27))).bind fun y185 => (if y182.length + y185.length < 4398046511104 then (revetmentref41_Merge.l0 k2 l0 (y182 ++ y185) (wrap64 (x4_1 + 1))) else (none)))) else (none)) = some r := by first | (rw [hy178]; with_reducible exact H) | (have H2_ := (Option.bind_some _ _).symm.trans H; rw [hy178]; with_reducible exact H2_) | (have H2_ := (Option.bind_some _ _).symm.trans H; with_reducible exact H2_) | with_reducible exact H | (rw [hy178]; exact H) | exact H
                 have Ny178 := Aside0.mk hy178
                 clear hy178
                 by_cases c19 : y178.length < 4398046511104
                 ·rw [if_pos c19] at H
                  have LMc19 := Aside0.mk c19
                  clear c19
                  obtain ⟨y182, hy182⟩ : ∃ y_ : List (S27), y_ = (y178 ++ [(⟨(rd_T27 l0 x4_1).f0, (rd_T27 l0 x4_1).f1, (rd_T27 l0 x4_1).f2, (rd_T27 l0 x4_1).f3⟩ : S27)]) := ⟨_, rfl⟩
                  replace H : ((some (x3_1.drop (x5_2 : Int).toNat : List (S27))).bind fun y185 => (if y182.length + y185.length < 4398046511104 then (revetmentref41_Merge.l0 k2 l0 (y182 ++ y185) (wrap64 (x4_1 + 1))) else (none))) = some r := by first | (rw [hy182]; with_reducible exact H) | (have H2_ := (Option.bind_some _ _).symm.trans H; rw [hy182]; with_reducible exact H2_) | (have H2_ := (Option.bind_some _ _).symm.trans H; with_reducible exact H2_) | with_reducible exact H | (rw [hy182]; exact H) | exact H
                  have Ny182 := Aside0.mk hy182
                  clear hy182
                  have c20b0 := eq_true (of_decide_eq_true (by first | (with_reducible assumption) | assumption) : 0 ≤ x5_2)
                  have c21b0 := eq_true (of_decide_eq_true (by first | (with_reducible assumption) | assumption) : x5_2 ≤ (x3_1.length : Int))
                  obtain ⟨y185, hy185⟩ : ∃ y_ : List (S27), y_ = (x3_1.drop (x5_2 : Int).toNat) := ⟨_, rfl⟩
                  replace H : (if y182.length + y185.length < 4398046511104 then (revetmentref41_Merge.l0 k2 l0 (y182 ++ y185) (wrap64 (x4_1 + 1))) else (none)) = some r := by first | (rw [hy185]; with_reducible exact H) | (have H2_ := (Option.bind_some _ _).symm.trans H; rw [hy185]; with_reducible exact H2_) | (have H2_ := (Option.bind_some _ _).symm.trans H; with_reducible exact H2_) | with_reducible exact H | (rw [hy185]; exact H) | exact H
                  have Ny185 := Aside0.mk hy185
                  clear hy185
                  by_cases c22 : y182.length + y185.length < 4398046511104
                  ·rw [if_pos c22] at H
                   have LMc22 := Aside0.mk c22
                   clear c22
                   obtain ⟨y189, hy189⟩ : ∃ y_ : List (S27), y_ = (y182 ++ y185) := ⟨_, rfl⟩
                   replace H : (revetmentref41_Merge.l0 k2 l0 y189 (wrap64 (x4_1 + 1))) = some r := by first | (rw [hy189]; with_reducible exact H) | (have H2_ := (Option.bind_some _ _).symm.trans H; rw [hy189]; with_reducible exact H2_) | (have H2_ := (Option.bind_some _ _).symm.trans H; with_reducible exact H2_) | with_reducible exact H | (rw [hy189]; exact H) | exact H
                   have Ny189 := Aside0.mk hy189
                   clear hy189
                   have H' := Aside0.mk H
                   clear H
                   try go_wp2
                   replace HO_3 := Aside0.mk (Kd.R_drew HO_3.out)
                   replace HB := Aside0.mk (below_drew1 HB.out)
                   have p168 : 0 ≤ (x4_1 : Int) := of_decide_eq_true (by first | (with_reducible assumption) | assumption)
                   have q168 : x4_1 < (l0.length : Int) := of_decide_eq_true (by first | (with_reducible assumption) | assumption)
                   obtain ⟨ad168, e168, hx168_0, hx168_1, hx168_2, hx168_3⟩ := at_T27 HR0.out x4_1 p168 q168
                   have hw168_3 := hx168_3
                   have hw168_2 := hx168_2
                   have hw168_1 := hx168_1
                   have hw168_0 := hx168_0
                   obtain rfl : ad167 = ad168 := (by injection e168)
                   replace hx168_0 := (HB.out.cell (World.block_lt_of_cell? w _ hx168_0)).trans hx168_0
                   replace hx168_1 := (HB.out.cell (World.block_lt_of_cell? w _ hx168_1)).trans hx168_1
                   replace hx168_2 := (HB.out.cell (World.block_lt_of_cell? w _ hx168_2)).trans hx168_2
                   replace hx168_3 := (HB.out.cell (World.block_lt_of_cell? w _ hx168_3)).trans hx168_3
                   replace p168 := eq_true p168
                   replace q168 := eq_true q168
                   have p169 : 0 ≤ ((ji9) : Int) := of_decide_eq_true (by first | (with_reducible assumption) | assumption)
                   have q169 : (ji9) < (x3_1.length : Int) := of_decide_eq_true (by first | (with_reducible assumption) | assumption)
                   obtain ⟨ad169, e169, hx169_0, hx169_1, hx169_2, hx169_3⟩ := at_T27 (Kd.R_reads' HO_3.out).2.2 (ji9) p169 q169
                   cases e169
                   replace p169 := eq_true p169
                   replace q169 := eq_true q169
                   refine start_ (n := 14) (S := fun w' => w'.cell? (ad167.add ((x4_1).toNat * 4)) = some (.int .i64 ((rd_T27 l0 x4_1).f0)) ∧ w'.cell? ⟨(ad167.add ((x4_1).toNat * 4)).block, (ad167.add ((x4_1).toNat * 4)).off + 1, none⟩ = some (.int .i64 ((rd_T27 l0 x4_1).f1)) ∧ w'.cell? ⟨(ad167.add ((x4_1).toNat * 4)).block, (ad167.add ((x4_1).toNat * 4)).off + 2, none⟩ = some (.int .i64 ((rd_T27 l0 x4_1).f2)) ∧ w'.cell? ⟨(ad167.add ((x4_1).toNat * 4)).block, (ad167.add ((x4_1).toNat * 4)).off + 3, none⟩ = some (.int .i64 ((rd_T27 l0 x4_1).f3)) ∧ w'.cell? (ad169.add (((ji9)).toNat * 4)) = some (.int .i64 ((rd_T27 x3_1 (ji9)).f0)) ∧ w'.cell? ⟨(ad169.add (((ji9)).toNat * 4)).block, (ad169.add (((ji9)).toNat * 4)).off + 1, none⟩ = some (.int .i64 ((rd_T27 x3_1 (ji9)).f1)) ∧ w'.cell? ⟨(ad169.add (((ji9)).toNat * 4)).block, (ad169.add (((ji9)).toNat * 4)).off + 2, none⟩ = some (.int .i64 ((rd_T27 x3_1 (ji9)).f2)) ∧ w'.cell? ⟨(ad169.add (((ji9)).toNat * 4)).block, (ad169.add (((ji9)).toNat * 4)).off + 3, none⟩ = some (.int .i64 ((rd_T27 x3_1 (ji9)).f3))) (ds := []) (bq 14 0) (by kernel_rfl) rfl rfl ⟨((HB.out.cell (World.block_lt_of_cell? w _ hw168_0)).trans hw168_0), ((HB.out.cell (World.block_lt_of_cell? w _ hw168_1)).trans hw168_1), ((HB.out.cell (World.block_lt_of_cell? w _ hw168_2)).trans hw168_2), ((HB.out.cell (World.block_lt_of_cell? w _ hw168_3)).trans hw168_3), hx169_0, hx169_1, hx169_2, hx169_3⟩ (fun hHeld => ?_); refine with_tabW revetmentref41_Merge.tab7 revetmentref41_Merge.bits7 (fun HT_ HW_ => ?_)
                   generalize wr.drew = w23 at HO_3 HB hx168_0 hx168_1 hx168_2 hx168_3 hx169_0 hx169_1 hx169_2 hx169_3 hHeld ⊢
                   apply pu 0 24 (bq 14 1) HT_
                   apply pu 1 25 (bq 14 3) HT_
                   apply pu 2 26 (bq 14 7) HT_
                   apply pu 3 27 (bq 14 15) HT_
                   apply pu 4 28 (bq 14 31) HT_
                   apply pu 5 29 (bq 14 63) HT_
                   apply pu 7 31 (bq 14 191) HT_
                   apply pu 8 32 (bq 14 447) HT_
                   apply pu 9 33 (bq 14 959) HT_
                   apply pu 10 34 (bq 14 1983) HT_
                   apply tu 6 30 (bq 14 2047) HT_ HW_ hHeld
                   apply tu 11 35 (bq 14 4095) HT_ HW_ hHeld
                   refine one_ (i := 12) (N := some 36) (bq 14 8191) rfl rfl (one_of HT_.out (by kernel_rfl)) (by decide) (fun K hK => ?_)
                   refine goes_ Try.func24 (by kernel_rfl) rfl #[.agg #[.int .i64 ((rd_T27 l0 x4_1).f0), .int .i64 ((rd_T27 l0 x4_1).f1), .int .i64 ((rd_T27 l0 x4_1).f2), .int .i64 ((rd_T27 l0 x4_1).f3)], .agg #[.int .i64 ((rd_T27 x3_1 (ji9)).f0), .int .i64 ((rd_T27 x3_1 (ji9)).f1), .int .i64 ((rd_T27 x3_1 (ji9)).f2), .int .i64 ((rd_T27 x3_1 (ji9)).f3)]] (by rfl) rfl rfl (by (try simp only [List.map_toArray, List.map_cons, List.map_nil]); first | done | (simp only [hji9]; rfl) | rfl | (simp only [List.length_drop, List.length_take]; rfl)) ?_
                   with_reducible refine (revetmentref41_ahead.calls ((rd_T27 l0 x4_1).f0) ((rd_T27 l0 x4_1).f1) ((rd_T27 l0 x4_1).f2) ((rd_T27 l0 x4_1).f3) ((rd_T27 x3_1 (ji9)).f0) ((rd_T27 x3_1 (ji9)).f1) ((rd_T27 x3_1 (ji9)).f2) ((rd_T27 x3_1 (ji9)).f3) false _ A12.out).mono ?_
                   rintro e w24 ⟨rfl, hb⟩
                   have HS4_ := (hb.cell (World.block_lt_of_cell? _ _ (hHeld.2.2.2.2.1))).trans (hHeld.2.2.2.2.1)
                   have HS5_ := (hb.cell (World.block_lt_of_cell? _ _ (hHeld.2.2.2.2.2.1))).trans (hHeld.2.2.2.2.2.1)
                   have HS6_ := (hb.cell (World.block_lt_of_cell? _ _ (hHeld.2.2.2.2.2.2.1))).trans (hHeld.2.2.2.2.2.2.1)
                   have HS7_ := (hb.cell (World.block_lt_of_cell? _ _ (hHeld.2.2.2.2.2.2.2))).trans (hHeld.2.2.2.2.2.2.2)
                   refine ⟨_, rfl, ?_⟩
                   replace HO_3 := Aside0.mk (Kd.R_below (by (with_reducible repeat (first | apply Kd.R_alloc | apply Kd.R_drewN | apply Kd.R_drew)); exact HO_3.out) hb)
                   replace HB := bst HB hb
                   try clear hb; try clear hb2; try clear hk; try clear hi
                   refine hK.out _ _ ⟨((HB.out.cell (World.block_lt_of_cell? w _ hw168_0)).trans hw168_0), ((HB.out.cell (World.block_lt_of_cell? w _ hw168_1)).trans hw168_1), ((HB.out.cell (World.block_lt_of_cell? w _ hw168_2)).trans hw168_2), ((HB.out.cell (World.block_lt_of_cell? w _ hw168_3)).trans hw168_3), HS4_, HS5_, HS6_, HS7_⟩ (fun hHeld => ?_)
                   clear hK K
                   apply nm 0
                   apply pu 13 37 (bq 14 16383) HT_
                   refine done_ (done_of HT_.out (by kernel_rfl)) ?_
                   try go_wp2_with (first | ((with_reducible refine gate_dst (N := 40) rfl ?_); refine Kd.R_lit k27 _ 27 ?hg (N := 40) ?hd (xs := ([] : List (S27))) (inner := []) (ok := fun _ => True) (okp := fun _ => True) ?hr ?hp (fun _ hk => hk) trivial (Below.refl _ _) (Nat.le_refl _) (by simp) ?_; (case hd => rfl); (case hg => rfl); (case hr => first | (go_simp; done) | (go_simp; rfl)); (case hp => exact (Reps.none _ _)); intro v172 w25 ho26 hb hg_ hnew_; clear hg_ hnew_; (first | rw [← Ny171.out] at ho26 | (simp only [Int.reduceToNat] at ho26; rw [← Ny171.out] at ho26)); have n0_ := Aside0.mk (Kd.R_elder' (by (with_reducible repeat (first | apply Kd.R_alloc | apply Kd.R_drewN | apply Kd.R_drew)); exact HO_3.out) (Kd.R_base ho26) hb); have n1_ := Aside0.mk (Kd.R_lower (Kd.R_new' ho26 (Kd.R_lt (by (with_reducible repeat (first | apply Kd.R_alloc | apply Kd.R_drewN | apply Kd.R_drew)); exact HO_3.out))) (below_size (bl HB))); have n2_ := bst HB hb; clear HO_3; clear HB; have HO_3 := n0_; have HO173 := n1_; have HB := n2_; clear n0_ n1_ n2_; clear hb ho26; have q27 : (x5_2 : Int) ≤ ((x3_1.length : Int) : Int) := of_decide_eq_true (by first | (with_reducible assumption) | assumption); obtain ⟨i027, hi027, _, hsz27, _⟩ := info_parts info27; have hroom27 : x3_1.length ≤ co5 := (Kd.R_reads' HO_3.out).2.1; have hC27 : Kd.C k27 _ (some ad169) x3_1.length x3_1 := (Kd.R_reads' HO_3.out).2.2; have hcut27 := cut_to (P := Try.prog) 22 27 .i64 Try.underlying22 hi027 (some ad169) x3_1.length co5 x5_2 (of_decide_eq_true (by first | (with_reducible assumption) | assumption)) q27 hroom27; have hr27 := Kd.C_take (m := (x5_2 : Int).toNat) hC27 (by omega); have hy27 : y174.length = (x5_2 : Int).toNat := (by rw [Ny174.out, List.length_take]; omega); rw [← Ny174.out] at hr27; rw [← hy27] at hcut27; have HR177 := Aside0.mk hr27; have HC177 := Aside0.mk (show y174.length ≤ co5 from by omega); clear hr27 hC27 hroom27 hi027 hsz27; have KY27 := Aside0.mk hy27; clear hy27; have KL27 := Aside0.mk (show (x5_2 : Int).toNat ≤ x3_1.length from by omega); replace q27 := eq_true q27) | ((with_reducible refine gate_builtin (b := .append) (xs := #[.tmp 40, .tmp 43]) rfl ?_); at_builtin; refine Kd.R_append_rows k27 (w0 := w) w.heap.size rfl (.tmp 40) (.tmp 43) 22 27 (.agg #[(.int .i64 0), (.int .i64 0), (.int .i64 0), (.int .i64 0)]) 32 rfl Try.underlying22 info27 rfl (by decide) (by omega) v172 y171 y174 _ _ _ (fun k_ => some k_ ≠ (.slice (some ad169) x3_1.length co5 : Value).ownBlock) (fun _ => False) rfl rfl ?aO ?aR (fun _ _ h => h) (fun _ h => h.elim) ?aF ?aB ?aS ?aL ?_; (case aR => repeat (first | exact (by repeat (first | (with_reducible exact HR177.out) | (with_reducible refine Kd.C_alloc ?_ _) | (with_reducible refine Kd.C_drewN ?_ _) | (with_reducible refine Kd.C_drew ?_) | exact HR177.out)) | (with_reducible refine Kd.C_alloc ?_ _) | (with_reducible refine Kd.C_drewN ?_ _) | (with_reducible refine Kd.C_drew ?_))); (case aB => exact (bl HB)); (case aF => exact (fun k_ hk => Kd.fresh' (Kd.R_lt (by (with_reducible repeat (first | apply Kd.R_alloc | apply Kd.R_drewN | apply Kd.R_drew)); exact HO_3.out)) k_ hk)); (case aO => exact (by (with_reducible repeat (first | apply Kd.R_alloc | apply Kd.R_drewN | apply Kd.R_drew)); exact Kd.R_mono HO173.out (fun _ hk => hk.2))); (case aS => exact (below_size (bl HB))); (case aL => have := LMc18.out; omega); intro v179 w28 ho hb hg hat; rw [← Ny178.out] at ho; have n0_ := Aside0.mk (Kd.R_after (ok := (fun _ => True)) (by (with_reducible repeat (first | apply Kd.R_alloc | apply Kd.R_drewN | apply Kd.R_drew)); exact HO_3.out) hg hat); have n1_ := Aside0.mk (hb); have n2_ := Aside0.mk ((show Kd.C k27 w28 (some ad169) y174.length y174 from by rw [Ny174.out]; exact Kd.C_take (m := (x5_2 : Int).toNat) ((Kd.R_reads' (Kd.R_after (ok := (fun _ => True)) (by (with_reducible repeat (first | apply Kd.R_alloc | apply Kd.R_drewN | apply Kd.R_drew)); exact HO_3.out) hg hat)).2.2) KL27.out)); have n3_ := Aside0.mk (ho); clear HO_3; clear HB; clear HR177; clear HO173; have HO_3 := n0_; have HB := n1_; have HR177 := n2_; have HO180 := n3_; clear n0_ n1_ n2_ n3_; clear ho hb hg hat; have p181 : 0 ≤ (x4_1 : Int) := of_decide_eq_true (by first | (with_reducible assumption) | assumption); have q181 : x4_1 < (l0.length : Int) := of_decide_eq_true (by first | (with_reducible assumption) | assumption); obtain ⟨ad181, e181, hx181_0, hx181_1, hx181_2, hx181_3⟩ := at_T27 HR0.out x4_1 p181 q181; obtain rfl : ad167 = ad181 := (by injection e181); replace hx181_0 := (HB.out.cell (World.block_lt_of_cell? w _ hx181_0)).trans hx181_0; replace hx181_1 := (HB.out.cell (World.block_lt_of_cell? w _ hx181_1)).trans hx181_1; replace hx181_2 := (HB.out.cell (World.block_lt_of_cell? w _ hx181_2)).trans hx181_2; replace hx181_3 := (HB.out.cell (World.block_lt_of_cell? w _ hx181_3)).trans hx181_3; replace p181 := eq_true p181; replace q181 := eq_true q181) | ((with_reducible refine gate_builtin (b := .append) (xs := #[.tmp 45, .tmp 50]) rfl ?_); at_builtin; refine Kd.R_append k27 (w0 := w) w.heap.size rfl (.tmp 45) (.tmp 50) 22 27 (.agg #[(.int .i64 0), (.int .i64 0), (.int .i64 0), (.int .i64 0)]) 32 rfl Try.underlying22 info27 rfl (by decide) (by omega) v179 y178 (⟨(rd_T27 l0 x4_1).f0, (rd_T27 l0 x4_1).f1, (rd_T27 l0 x4_1).f2, (rd_T27 l0 x4_1).f3⟩ : S27) [.int .i64 ((rd_T27 l0 x4_1).f0), .int .i64 ((rd_T27 l0 x4_1).f1), .int .i64 ((rd_T27 l0 x4_1).f2), .int .i64 ((rd_T27 l0 x4_1).f3)] (fun k_ => some k_ ≠ (.slice (some ad169) x3_1.length co5 : Value).ownBlock) (fun _ => False) rfl rfl ?aP (fun _ hk => hk.elim) ?aF ?aO ?aB ?aS ?aL ?_; (case aP => exact k27_mkM _ _ _ (⟨(rd_T27 l0 x4_1).f0, (rd_T27 l0 x4_1).f1, (rd_T27 l0 x4_1).f2, (rd_T27 l0 x4_1).f3⟩ : S27)); (case aB => exact (bl HB)); (case aF => exact (fun k_ hk => Kd.fresh' (Kd.R_lt (by (with_reducible repeat (first | apply Kd.R_alloc | apply Kd.R_drewN | apply Kd.R_drew)); exact HO_3.out)) k_ hk)); (case aO => exact (by (with_reducible repeat (first | apply Kd.R_alloc | apply Kd.R_drewN | apply Kd.R_drew)); exact HO180.out)); (case aS => exact (below_size (bl HB))); (case aL => have := LMc19.out; omega); intro v183 w29 ho hb hg hat; rw [← Ny182.out] at ho; have n0_ := Aside0.mk (Kd.R_after (ok := (fun _ => True)) (by (with_reducible repeat (first | apply Kd.R_alloc | apply Kd.R_drewN | apply Kd.R_drew)); exact HO_3.out) hg hat); have n1_ := Aside0.mk (hb); have n2_ := Aside0.mk ((show Kd.C k27 w29 (some ad169) y174.length y174 from by rw [Ny174.out]; exact Kd.C_take (m := (x5_2 : Int).toNat) ((Kd.R_reads' (Kd.R_after (ok := (fun _ => True)) (by (with_reducible repeat (first | apply Kd.R_alloc | apply Kd.R_drewN | apply Kd.R_drew)); exact HO_3.out) hg hat)).2.2) KL27.out)); have n3_ := Aside0.mk (ho); clear HO_3; clear HB; clear HR177; clear HO180; have HO_3 := n0_; have HB := n1_; have HR177 := n2_; have HO184 := n3_; clear n0_ n1_ n2_ n3_; clear ho hb hg hat; have q30 : (x5_2 : Int) ≤ ((x3_1.length : Int) : Int) := of_decide_eq_true (by first | (with_reducible assumption) | assumption); obtain ⟨i030, hi030, _, hsz30, _⟩ := info_parts info27; have hroom30 : x3_1.length ≤ co5 := (Kd.R_reads' HO_3.out).2.1; have hC30 : Kd.C k27 _ (some ad169) x3_1.length x3_1 := (Kd.R_reads' HO_3.out).2.2; have q030 : (0 : Int) ≤ (x5_2 : Int) := of_decide_eq_true (by first | (with_reducible assumption) | assumption); have hcut30 := cut_from (P := Try.prog) 22 27 .i64 Try.underlying22 hi030 4 hsz30 (some ad169) x3_1.length co5 x5_2 q030 q30; have hr30 := Kd.C_drop (m := (x5_2 : Int).toNat) (c := co5) hC30 (by omega) hroom30; obtain ⟨A30, hA30⟩ : ∃ A1, A1 = (if co5 = (x5_2 : Int).toNat then (some ad169) else ((some ad169) : Option Addr).map (·.add ((x5_2 : Int).toNat * 4))) := ⟨_, rfl⟩; obtain ⟨c30, hc30⟩ : ∃ c1, c1 = co5 - (x5_2 : Int).toNat := ⟨_, rfl⟩; have hy30 : y185.length = x3_1.length - (x5_2 : Int).toNat := (by rw [Ny185.out, List.length_drop] <;> omega); rw [show (x3_1).drop (x5_2 : Int).toNat = y185 from Ny185.out.symm] at hr30; replace hr30 : Kd.C k27 _ A30 y185.length y185 := (by rw [hA30]; exact hr30); rw [← hy30, ← hA30, ← hc30] at hcut30; have HR188 := Aside0.mk hr30; have HC188 := Aside0.mk (show y185.length ≤ c30 from by rw [hy30, hc30]; exact Nat.sub_le_sub_right hroom30 _); clear hr30 hC30 hroom30 hi030 hsz30 hc30; have KY30 := Aside0.mk hy30; have KA30 := Aside0.mk hA30; clear hy30 hA30; have KL30 := Aside0.mk (show (x5_2 : Int).toNat ≤ x3_1.length from by omega); replace q30 := eq_true q30) | ((with_reducible refine gate_builtin (b := .append) (xs := #[.tmp 52, .tmp 55]) rfl ?_); at_builtin; refine Kd.R_append_rows k27 (w0 := w) w.heap.size rfl (.tmp 52) (.tmp 55) 22 27 (.agg #[(.int .i64 0), (.int .i64 0), (.int .i64 0), (.int .i64 0)]) 32 rfl Try.underlying22 info27 rfl (by decide) (by omega) v183 y182 y185 _ _ _ (fun k_ => some k_ ≠ (.slice (some ad169) x3_1.length co5 : Value).ownBlock) (fun _ => False) rfl rfl ?aO ?aR (fun _ _ h => h) (fun _ h => h.elim) ?aF ?aB ?aS ?aL ?_; (case aR => repeat (first | exact (by repeat (first | (with_reducible exact HR188.out) | (with_reducible refine Kd.C_alloc ?_ _) | (with_reducible refine Kd.C_drewN ?_ _) | (with_reducible refine Kd.C_drew ?_) | exact HR188.out)) | (with_reducible refine Kd.C_alloc ?_ _) | (with_reducible refine Kd.C_drewN ?_ _) | (with_reducible refine Kd.C_drew ?_))); (case aB => exact (bl HB)); (case aF => exact (fun k_ hk => Kd.fresh' (Kd.R_lt (by (with_reducible repeat (first | apply Kd.R_alloc | apply Kd.R_drewN | apply Kd.R_drew)); exact HO_3.out)) k_ hk)); (case aO => exact (by (with_reducible repeat (first | apply Kd.R_alloc | apply Kd.R_drewN | apply Kd.R_drew)); exact HO184.out)); (case aS => exact (below_size (bl HB))); (case aL => have := LMc22.out; omega); intro v190 w31 ho hb hg hat; rw [← Ny189.out] at ho; have n0_ := Aside0.mk (Kd.R_after (ok := (fun _ => True)) (by (with_reducible repeat (first | apply Kd.R_alloc | apply Kd.R_drewN | apply Kd.R_drew)); exact HO_3.out) hg hat); have n1_ := Aside0.mk (hb); have n2_ := Aside0.mk ((show Kd.C k27 w31 (some ad169) y174.length y174 from by rw [Ny174.out]; exact Kd.C_take (m := (x5_2 : Int).toNat) ((Kd.R_reads' (Kd.R_after (ok := (fun _ => True)) (by (with_reducible repeat (first | apply Kd.R_alloc | apply Kd.R_drewN | apply Kd.R_drew)); exact HO_3.out) hg hat)).2.2) KL27.out)); have n3_ := Aside0.mk ((show Kd.C k27 w31 A30 y185.length y185 from by rw [Ny185.out, KA30.out]; exact Kd.C_drop (m := (x5_2 : Int).toNat) (c := co5) ((Kd.R_reads' (Kd.R_after (ok := (fun _ => True)) (by (with_reducible repeat (first | apply Kd.R_alloc | apply Kd.R_drewN | apply Kd.R_drew)); exact HO_3.out) hg hat)).2.2) KL30.out ((Kd.R_reads' (Kd.R_after (ok := (fun _ => True)) (by (with_reducible repeat (first | apply Kd.R_alloc | apply Kd.R_drewN | apply Kd.R_drew)); exact HO_3.out) hg hat)).2.1))); have n4_ := Aside0.mk (ho); clear HO_3; clear HB; clear HR177; clear HR188; clear HO184; have HO_3 := n0_; have HB := n1_; have HR177 := n2_; have HR188 := n3_; have HO191 := n4_; clear n0_ n1_ n2_ n3_ n4_; clear ho hb hg hat))
                   go_roundg k2
                   case measure => have := HK1.out; have := HK2.out; omega
                   case rel => exact ⟨(y189), (wrap64 (x4_1 + 1)), (by first | rfl | (simp; done) | (simp [*]; done)), H', ⟨by have := HK1.out; have := HK2.out; omega⟩, ⟨by (with_reducible repeat (first | apply Kd.R_alloc | apply Kd.R_drewN | apply Kd.R_drew)); exact Kd.R_mono HO191.out (fun _ hk => trivial)⟩, ⟨bl HB⟩⟩
                  ·rw [if_neg c22] at H
                   exact absurd H (by simp)
                 ·rw [if_neg c19] at H
                  exact absurd H (by simp)
                ·rw [if_neg c18] at H
                 exact absurd H (by simp)
               ·rw [if_neg c17] at H
                exact absurd H (by simp)
              ·rw [if_neg c16] at H
               exact absurd H (by simp)
            ·rw [if_neg c11] at H
             exact absurd H (by simp)
           ·rw [if_neg c10] at H
            exact absurd H (by simp)
          ·rw [if_neg c8] at H
           exact absurd H (by simp)
         ·rw [if_neg c7] at H
          exact absurd H (by simp)
        ·rw [if_neg c6] at H
         have c6b0 : decide (0 < x5_2) = false := decide_eq_false c6
         clear c6
         obtain ⟨y192, hy192⟩ : ∃ y_ : List (S27), y_ = (([] : List (S27))) := ⟨_, rfl⟩
         replace H : (if 0 ≤ x5_2 then (if x5_2 ≤ (x3_1.length : Int) then ((some (x3_1.take (x5_2 : Int).toNat : List (S27))).bind fun y195 => (if y192.length + y195.length < 4398046511104 then ((some (y192 ++ y195 : List (S27))).bind fun y199 => (if 0 ≤ x4_1 then (if x4_1 < (l0.length : Int) then (if y199.length < 4398046511104 then ((some (y199 ++ [(⟨(rd_T27 l0 x4_1).f0, (rd_T27 l0 x4_1).f1, (rd_T27 l0 x4_1).f2, (rd_T27 l0 x4_1).f3⟩ : S27)] : List (S27))).bind fun y203 => ((some (x3_1.drop (x5_2 : Int).toNat : List (S27))).bind fun y206 => (if y203.length + y206.length < 4398046511104 then (revetmentref41_Merge.l0 k2 l0 (y203 ++ y206) (wrap64 (x4_1 + 1))) else (none)))) else (none)) else (none)) else (none))) else (none))) else (none)) else (none)) = some r := by first | (rw [hy192]; with_reducible exact H) | (have H2_ := (Option.bind_some _ _).symm.trans H; rw [hy192]; with_reducible exact H2_) | (have H2_ := (Option.bind_some _ _).symm.trans H; with_reducible exact H2_) | with_reducible exact H | (rw [hy192]; exact H) | exact H
         have Ny192 := Aside0.mk hy192
         clear hy192
         by_cases c32 : 0 ≤ x5_2
         ·rw [if_pos c32] at H
          have c32b0 := eq_true c32
          have c32b1 : decide (0 ≤ x5_2) = true := decide_eq_true c32
          clear c32
          by_cases c33 : x5_2 ≤ (x3_1.length : Int)
          ·rw [if_pos c33] at H
           have c33b0 := eq_true c33
           have c33b1 : decide (x5_2 ≤ (x3_1.length : Int)) = true := decide_eq_true c33
           clear c33
           obtain ⟨y195, hy195⟩ : ∃ y_ : List (S27), y_ = (x3_1.take (x5_2 : Int).toNat) := ⟨_, rfl⟩
           replace H : (if y192.length + y195.length < 4398046511104 then ((some (y192 ++ y195 : List (S27))).bind fun y199 => (if 0 ≤ x4_1 then (if x4_1 < (l0.length : Int) then (if y199.length < 4398046511104 then ((some (y199 ++ [(⟨(rd_T27 l0 x4_1).f0, (rd_T27 l0 x4_1).f1, (rd_T27 l0 x4_1).f2, (rd_T27 l0 x4_1).f3⟩ : S27)] : List (S27))).bind fun y203 => ((some (x3_1.drop (x5_2 : Int).toNat : List (S27))).bind fun y206 => (if y203.length + y206.length < 4398046511104 then (revetmentref41_Merge.l0 k2 l0 (y203 ++ y206) (wrap64 (x4_1 + 1))) else (none)))) else (none)) else (none)) else (none))) else (none)) = some r := by first | (rw [hy195]; with_reducible exact H) | (have H2_ := (Option.bind_some _ _).symm.trans H; rw [hy195]; with_reducible exact H2_) | (have H2_ := (Option.bind_some _ _).symm.trans H; with_reducible exact H2_) | with_reducible exact H | (rw [hy195]; exact H) | exact H
           have Ny195 := Aside0.mk hy195
           clear hy195
           by_cases c34 : y192.length + y195.length < 4398046511104
           ·rw [if_pos c34] at H
            have LMc34 := Aside0.mk c34
            clear c34
            obtain ⟨y199, hy199⟩ : ∃ y_ : List (S27), y_ = (y192 ++ y195) := ⟨_, rfl⟩
            replace H : (if 0 ≤ x4_1 then (if x4_1 < (l0.length : Int) then (if y199.length < 4398046511104 then ((some (y199 ++ [(⟨(rd_T27 l0 x4_1).f0, (rd_T27 l0 x4_1).f1, (rd_T27 l0 x4_1).f2, (rd_T27 l0 x4_1).f3⟩ : S27)] : List (S27))).bind fun y203 => ((some (x3_1.drop (x5_2 : Int).toNat : List (S27))).bind fun y206 => (if y203.length + y206.length < 4398046511104 then (revetmentref41_Merge.l0 k2 l0 (y203 ++ y206) (wrap64 (x4_1 + 1))) else (none)))) else (none)) else (none)) else (none)) = some r := by first | (rw [hy199]; with_reducible exact H) | (have H2_ := (Option.bind_some _ _).symm.trans H; rw [hy199]; with_reducible exact H2_) | (have H2_ := (Option.bind_some _ _).symm.trans H; with_reducible exact H2_) | with_reducible exact H | (rw [hy199]; exact H) | exact H
            have Ny199 := Aside0.mk hy199
            clear hy199
            by_cases c35 : 0 ≤ x4_1
            ·rw [if_pos c35] at H
             have c35b0 : decide (0 ≤ x4_1) = true := decide_eq_true c35
             clear c35
             by_cases c36 : x4_1 < (l0.length : Int)
             ·rw [if_pos c36] at H
              have c36b0 : decide (x4_1 < (l0.length : Int)) = true := decide_eq_true c36
              clear c36
              by_cases c37 : y199.length < 4398046511104
              ·rw [if_pos c37] at H
               have LMc37 := Aside0.mk c37
               clear c37
               obtain ⟨y203, hy203⟩ : ∃ y_ : List (S27), y_ = (y199 ++ [(⟨(rd_T27 l0 x4_1).f0, (rd_T27 l0 x4_1).f1, (rd_T27 l0 x4_1).f2, (rd_T27 l0 x4_1).f3⟩ : S27)]) := ⟨_, rfl⟩
               replace H : ((some (x3_1.drop (x5_2 : Int).toNat : List (S27))).bind fun y206 => (if y203.length + y206.length < 4398046511104 then (revetmentref41_Merge.l0 k2 l0 (y203 ++ y206) (wrap64 (x4_1 + 1))) else (none))) = some r := by first | (rw [hy203]; with_reducible exact H) | (have H2_ := (Option.bind_some _ _).symm.trans H; rw [hy203]; with_reducible exact H2_) | (have H2_ := (Option.bind_some _ _).symm.trans H; with_reducible exact H2_) | with_reducible exact H | (rw [hy203]; exact H) | exact H
               have Ny203 := Aside0.mk hy203
               clear hy203
               have c38b0 := eq_true (of_decide_eq_true (by first | (with_reducible assumption) | assumption) : 0 ≤ x5_2)
               have c39b0 := eq_true (of_decide_eq_true (by first | (with_reducible assumption) | assumption) : x5_2 ≤ (x3_1.length : Int))
               obtain ⟨y206, hy206⟩ : ∃ y_ : List (S27), y_ = (x3_1.drop (x5_2 : Int).toNat) := ⟨_, rfl⟩
               replace H : (if y203.length + y206.length < 4398046511104 then (revetmentref41_Merge.l0 k2 l0 (y203 ++ y206) (wrap64 (x4_1 + 1))) else (none)) = some r := by first | (rw [hy206]; with_reducible exact H) | (have H2_ := (Option.bind_some _ _).symm.trans H; rw [hy206]; with_reducible exact H2_) | (have H2_ := (Option.bind_some _ _).symm.trans H; with_reducible exact H2_) | with_reducible exact H | (rw [hy206]; exact H) | exact H
               have Ny206 := Aside0.mk hy206
               clear hy206
               by_cases c40 : y203.length + y206.length < 4398046511104
               ·rw [if_pos c40] at H
                have LMc40 := Aside0.mk c40
                clear c40
                obtain ⟨y210, hy210⟩ : ∃ y_ : List (S27), y_ = (y203 ++ y206) := ⟨_, rfl⟩
                replace H : (revetmentref41_Merge.l0 k2 l0 y210 (wrap64 (x4_1 + 1))) = some r := by first | (rw [hy210]; with_reducible exact H) | (have H2_ := (Option.bind_some _ _).symm.trans H; rw [hy210]; with_reducible exact H2_) | (have H2_ := (Option.bind_some _ _).symm.trans H; with_reducible exact H2_) | with_reducible exact H | (rw [hy210]; exact H) | exact H
                have Ny210 := Aside0.mk hy210
                clear hy210
                have H' := Aside0.mk H
                clear H
                try go_wp2
                replace HO_3 := Aside0.mk (Kd.R_drew HO_3.out)
                replace HB := Aside0.mk (below_drew1 HB.out)
                refine start_ (n := 14) (S := fun w' => True) (ds := []) (bq 14 0) (by kernel_rfl) rfl rfl trivial (fun hHeld => ?_); refine with_tabW revetmentref41_Merge.tab7 revetmentref41_Merge.bits7 (fun HT_ HW_ => ?_)
                generalize wr.drew = w41 at HO_3 HB hHeld ⊢
                apply pu 0 24 (bq 14 1) HT_
                apply pu 1 25 (bq 14 3) HT_
                apply pu 2 26 (bq 14 7) HT_
                apply po 3 27 (bq 14 15) HT_
                apply po 4 28 (bq 14 31) HT_
                apply po 5 29 (bq 14 63) HT_
                apply po 6 30 (bq 14 127) HT_
                apply po 7 31 (bq 14 255) HT_
                apply po 8 32 (bq 14 511) HT_
                apply po 9 33 (bq 14 1023) HT_
                apply po 10 34 (bq 14 2047) HT_
                apply po 11 35 (bq 14 4095) HT_
                apply po 12 36 (bq 14 8191) HT_
                apply pu 13 37 (bq 14 16383) HT_
                refine done_ (done_of HT_.out (by kernel_rfl)) ?_
                try go_wp2_with (first | ((with_reducible refine gate_dst (N := 40) rfl ?_); refine Kd.R_lit k27 _ 27 ?hg (N := 40) ?hd (xs := ([] : List (S27))) (inner := []) (ok := fun _ => True) (okp := fun _ => True) ?hr ?hp (fun _ hk => hk) trivial (Below.refl _ _) (Nat.le_refl _) (by simp) ?_; (case hd => rfl); (case hg => rfl); (case hr => first | (go_simp; done) | (go_simp; rfl)); (case hp => exact (Reps.none _ _)); intro v193 w42 ho43 hb hg_ hnew_; clear hg_ hnew_; (first | rw [← Ny192.out] at ho43 | (simp only [Int.reduceToNat] at ho43; rw [← Ny192.out] at ho43)); have n0_ := Aside0.mk (Kd.R_elder' (by (with_reducible repeat (first | apply Kd.R_alloc | apply Kd.R_drewN | apply Kd.R_drew)); exact HO_3.out) (Kd.R_base ho43) hb); have n1_ := Aside0.mk (Kd.R_lower (Kd.R_new' ho43 (Kd.R_lt (by (with_reducible repeat (first | apply Kd.R_alloc | apply Kd.R_drewN | apply Kd.R_drew)); exact HO_3.out))) (below_size (bl HB))); have n2_ := bst HB hb; clear HO_3; clear HB; have HO_3 := n0_; have HO194 := n1_; have HB := n2_; clear n0_ n1_ n2_; clear hb ho43; have q44 : (x5_2 : Int) ≤ ((x3_1.length : Int) : Int) := of_decide_eq_true (by first | (with_reducible assumption) | assumption); obtain ⟨i044, hi044, _, hsz44, _⟩ := info_parts info27; have hroom44 : x3_1.length ≤ co5 := (Kd.R_reads' HO_3.out).2.1; have hC44 : Kd.C k27 _ Ao5 x3_1.length x3_1 := (Kd.R_reads' HO_3.out).2.2; have hcut44 := cut_to (P := Try.prog) 22 27 .i64 Try.underlying22 hi044 Ao5 x3_1.length co5 x5_2 (of_decide_eq_true (by first | (with_reducible assumption) | assumption)) q44 hroom44; have hr44 := Kd.C_take (m := (x5_2 : Int).toNat) hC44 (by omega); have hy44 : y195.length = (x5_2 : Int).toNat := (by rw [Ny195.out, List.length_take]; omega); rw [← Ny195.out] at hr44; rw [← hy44] at hcut44; have HR198 := Aside0.mk hr44; have HC198 := Aside0.mk (show y195.length ≤ co5 from by omega); clear hr44 hC44 hroom44 hi044 hsz44; have KY44 := Aside0.mk hy44; clear hy44; have KL44 := Aside0.mk (show (x5_2 : Int).toNat ≤ x3_1.length from by omega); replace q44 := eq_true q44) | ((with_reducible refine gate_builtin (b := .append) (xs := #[.tmp 40, .tmp 43]) rfl ?_); at_builtin; refine Kd.R_append_rows k27 (w0 := w) w.heap.size rfl (.tmp 40) (.tmp 43) 22 27 (.agg #[(.int .i64 0), (.int .i64 0), (.int .i64 0), (.int .i64 0)]) 32 rfl Try.underlying22 info27 rfl (by decide) (by omega) v193 y192 y195 _ _ _ (fun k_ => some k_ ≠ (.slice Ao5 x3_1.length co5 : Value).ownBlock) (fun _ => False) rfl rfl ?aO ?aR (fun _ _ h => h) (fun _ h => h.elim) ?aF ?aB ?aS ?aL ?_; (case aR => repeat (first | exact (by repeat (first | (with_reducible exact HR198.out) | (with_reducible refine Kd.C_alloc ?_ _) | (with_reducible refine Kd.C_drewN ?_ _) | (with_reducible refine Kd.C_drew ?_) | exact HR198.out)) | (with_reducible refine Kd.C_alloc ?_ _) | (with_reducible refine Kd.C_drewN ?_ _) | (with_reducible refine Kd.C_drew ?_))); (case aB => exact (bl HB)); (case aF => exact (fun k_ hk => Kd.fresh' (Kd.R_lt (by (with_reducible repeat (first | apply Kd.R_alloc | apply Kd.R_drewN | apply Kd.R_drew)); exact HO_3.out)) k_ hk)); (case aO => exact (by (with_reducible repeat (first | apply Kd.R_alloc | apply Kd.R_drewN | apply Kd.R_drew)); exact Kd.R_mono HO194.out (fun _ hk => hk.2))); (case aS => exact (below_size (bl HB))); (case aL => have := LMc34.out; omega); intro v200 w45 ho hb hg hat; rw [← Ny199.out] at ho; have n0_ := Aside0.mk (Kd.R_after (ok := (fun _ => True)) (by (with_reducible repeat (first | apply Kd.R_alloc | apply Kd.R_drewN | apply Kd.R_drew)); exact HO_3.out) hg hat); have n1_ := Aside0.mk (hb); have n2_ := Aside0.mk ((show Kd.C k27 w45 Ao5 y195.length y195 from by rw [Ny195.out]; exact Kd.C_take (m := (x5_2 : Int).toNat) ((Kd.R_reads' (Kd.R_after (ok := (fun _ => True)) (by (with_reducible repeat (first | apply Kd.R_alloc | apply Kd.R_drewN | apply Kd.R_drew)); exact HO_3.out) hg hat)).2.2) KL44.out)); have n3_ := Aside0.mk (ho); clear HO_3; clear HB; clear HR198; clear HO194; have HO_3 := n0_; have HB := n1_; have HR198 := n2_; have HO201 := n3_; clear n0_ n1_ n2_ n3_; clear ho hb hg hat; have p202 : 0 ≤ (x4_1 : Int) := of_decide_eq_true (by first | (with_reducible assumption) | assumption); have q202 : x4_1 < (l0.length : Int) := of_decide_eq_true (by first | (with_reducible assumption) | assumption); obtain ⟨ad202, e202, hx202_0, hx202_1, hx202_2, hx202_3⟩ := at_T27 HR0.out x4_1 p202 q202; obtain rfl : ad167 = ad202 := (by injection e202); replace hx202_0 := (HB.out.cell (World.block_lt_of_cell? w _ hx202_0)).trans hx202_0; replace hx202_1 := (HB.out.cell (World.block_lt_of_cell? w _ hx202_1)).trans hx202_1; replace hx202_2 := (HB.out.cell (World.block_lt_of_cell? w _ hx202_2)).trans hx202_2; replace hx202_3 := (HB.out.cell (World.block_lt_of_cell? w _ hx202_3)).trans hx202_3; replace p202 := eq_true p202; replace q202 := eq_true q202) | ((with_reducible refine gate_builtin (b := .append) (xs := #[.tmp 45, .tmp 50]) rfl ?_); at_builtin; refine Kd.R_append k27 (w0 := w) w.heap.size rfl (.tmp 45) (.tmp 50) 22 27 (.agg #[(.int .i64 0), (.int .i64 0), (.int .i64 0), (.int .i64 0)]) 32 rfl Try.underlying22 info27 rfl (by decide) (by omega) v200 y199 (⟨(rd_T27 l0 x4_1).f0, (rd_T27 l0 x4_1).f1, (rd_T27 l0 x4_1).f2, (rd_T27 l0 x4_1).f3⟩ : S27) [.int .i64 ((rd_T27 l0 x4_1).f0), .int .i64 ((rd_T27 l0 x4_1).f1), .int .i64 ((rd_T27 l0 x4_1).f2), .int .i64 ((rd_T27 l0 x4_1).f3)] (fun k_ => some k_ ≠ (.slice Ao5 x3_1.length co5 : Value).ownBlock) (fun _ => False) rfl rfl ?aP (fun _ hk => hk.elim) ?aF ?aO ?aB ?aS ?aL ?_; (case aP => exact k27_mkM _ _ _ (⟨(rd_T27 l0 x4_1).f0, (rd_T27 l0 x4_1).f1, (rd_T27 l0 x4_1).f2, (rd_T27 l0 x4_1).f3⟩ : S27)); (case aB => exact (bl HB)); (case aF => exact (fun k_ hk => Kd.fresh' (Kd.R_lt (by (with_reducible repeat (first | apply Kd.R_alloc | apply Kd.R_drewN | apply Kd.R_drew)); exact HO_3.out)) k_ hk)); (case aO => exact (by (with_reducible repeat (first | apply Kd.R_alloc | apply Kd.R_drewN | apply Kd.R_drew)); exact HO201.out)); (case aS => exact (below_size (bl HB))); (case aL => have := LMc37.out; omega); intro v204 w46 ho hb hg hat; rw [← Ny203.out] at ho; have n0_ := Aside0.mk (Kd.R_after (ok := (fun _ => True)) (by (with_reducible repeat (first | apply Kd.R_alloc | apply Kd.R_drewN | apply Kd.R_drew)); exact HO_3.out) hg hat); have n1_ := Aside0.mk (hb); have n2_ := Aside0.mk ((show Kd.C k27 w46 Ao5 y195.length y195 from by rw [Ny195.out]; exact Kd.C_take (m := (x5_2 : Int).toNat) ((Kd.R_reads' (Kd.R_after (ok := (fun _ => True)) (by (with_reducible repeat (first | apply Kd.R_alloc | apply Kd.R_drewN | apply Kd.R_drew)); exact HO_3.out) hg hat)).2.2) KL44.out)); have n3_ := Aside0.mk (ho); clear HO_3; clear HB; clear HR198; clear HO201; have HO_3 := n0_; have HB := n1_; have HR198 := n2_; have HO205 := n3_; clear n0_ n1_ n2_ n3_; clear ho hb hg hat; have q47 : (x5_2 : Int) ≤ ((x3_1.length : Int) : Int) := of_decide_eq_true (by first | (with_reducible assumption) | assumption); obtain ⟨i047, hi047, _, hsz47, _⟩ := info_parts info27; have hroom47 : x3_1.length ≤ co5 := (Kd.R_reads' HO_3.out).2.1; have hC47 : Kd.C k27 _ Ao5 x3_1.length x3_1 := (Kd.R_reads' HO_3.out).2.2; have q047 : (0 : Int) ≤ (x5_2 : Int) := of_decide_eq_true (by first | (with_reducible assumption) | assumption); have hcut47 := cut_from (P := Try.prog) 22 27 .i64 Try.underlying22 hi047 4 hsz47 Ao5 x3_1.length co5 x5_2 q047 q47; have hr47 := Kd.C_drop (m := (x5_2 : Int).toNat) (c := co5) hC47 (by omega) hroom47; obtain ⟨A47, hA47⟩ : ∃ A1, A1 = (if co5 = (x5_2 : Int).toNat then Ao5 else (Ao5 : Option Addr).map (·.add ((x5_2 : Int).toNat * 4))) := ⟨_, rfl⟩; obtain ⟨c47, hc47⟩ : ∃ c1, c1 = co5 - (x5_2 : Int).toNat := ⟨_, rfl⟩; have hy47 : y206.length = x3_1.length - (x5_2 : Int).toNat := (by rw [Ny206.out, List.length_drop] <;> omega); rw [show (x3_1).drop (x5_2 : Int).toNat = y206 from Ny206.out.symm] at hr47; replace hr47 : Kd.C k27 _ A47 y206.length y206 := (by rw [hA47]; exact hr47); rw [← hy47, ← hA47, ← hc47] at hcut47; have HR209 := Aside0.mk hr47; have HC209 := Aside0.mk (show y206.length ≤ c47 from by rw [hy47, hc47]; exact Nat.sub_le_sub_right hroom47 _); clear hr47 hC47 hroom47 hi047 hsz47 hc47; have KY47 := Aside0.mk hy47; have KA47 := Aside0.mk hA47; clear hy47 hA47; have KL47 := Aside0.mk (show (x5_2 : Int).toNat ≤ x3_1.length from by omega); replace q47 := eq_true q47) | ((with_reducible refine gate_builtin (b := .append) (xs := #[.tmp 52, .tmp 55]) rfl ?_); at_builtin; refine Kd.R_append_rows k27 (w0 := w) w.heap.size rfl (.tmp 52) (.tmp 55) 22 27 (.agg #[(.int .i64 0), (.int .i64 0), (.int .i64 0), (.int .i64 0)]) 32 rfl Try.underlying22 info27 rfl (by decide) (by omega) v204 y203 y206 _ _ _ (fun k_ => some k_ ≠ (.slice Ao5 x3_1.length co5 : Value).ownBlock) (fun _ => False) rfl rfl ?aO ?aR (fun _ _ h => h) (fun _ h => h.elim) ?aF ?aB ?aS ?aL ?_; (case aR => repeat (first | exact (by repeat (first | (with_reducible exact HR209.out) | (with_reducible refine Kd.C_alloc ?_ _) | (with_reducible refine Kd.C_drewN ?_ _) | (with_reducible refine Kd.C_drew ?_) | exact HR209.out)) | (with_reducible refine Kd.C_alloc ?_ _) | (with_reducible refine Kd.C_drewN ?_ _) | (with_reducible refine Kd.C_drew ?_))); (case aB => exact (bl HB)); (case aF => exact (fun k_ hk => Kd.fresh' (Kd.R_lt (by (with_reducible repeat (first | apply Kd.R_alloc | apply Kd.R_drewN | apply Kd.R_drew)); exact HO_3.out)) k_ hk)); (case aO => exact (by (with_reducible repeat (first | apply Kd.R_alloc | apply Kd.R_drewN | apply Kd.R_drew)); exact HO205.out)); (case aS => exact (below_size (bl HB))); (case aL => have := LMc40.out; omega); intro v211 w48 ho hb hg hat; rw [← Ny210.out] at ho; have n0_ := Aside0.mk (Kd.R_after (ok := (fun _ => True)) (by (with_reducible repeat (first | apply Kd.R_alloc | apply Kd.R_drewN | apply Kd.R_drew)); exact HO_3.out) hg hat); have n1_ := Aside0.mk (hb); have n2_ := Aside0.mk ((show Kd.C k27 w48 Ao5 y195.length y195 from by rw [Ny195.out]; exact Kd.C_take (m := (x5_2 : Int).toNat) ((Kd.R_reads' (Kd.R_after (ok := (fun _ => True)) (by (with_reducible repeat (first | apply Kd.R_alloc | apply Kd.R_drewN | apply Kd.R_drew)); exact HO_3.out) hg hat)).2.2) KL44.out)); have n3_ := Aside0.mk ((show Kd.C k27 w48 A47 y206.length y206 from by rw [Ny206.out, KA47.out]; exact Kd.C_drop (m := (x5_2 : Int).toNat) (c := co5) ((Kd.R_reads' (Kd.R_after (ok := (fun _ => True)) (by (with_reducible repeat (first | apply Kd.R_alloc | apply Kd.R_drewN | apply Kd.R_drew)); exact HO_3.out) hg hat)).2.2) KL47.out ((Kd.R_reads' (Kd.R_after (ok := (fun _ => True)) (by (with_reducible repeat (first | apply Kd.R_alloc | apply Kd.R_drewN | apply Kd.R_drew)); exact HO_3.out) hg hat)).2.1))); have n4_ := Aside0.mk (ho); clear HO_3; clear HB; clear HR198; clear HR209; clear HO205; have HO_3 := n0_; have HB := n1_; have HR198 := n2_; have HR209 := n3_; have HO212 := n4_; clear n0_ n1_ n2_ n3_ n4_; clear ho hb hg hat))
                go_roundg k2
                case measure => have := HK1.out; have := HK2.out; omega
                case rel => exact ⟨(y210), (wrap64 (x4_1 + 1)), (by first | rfl | (simp; done) | (simp [*]; done)), H', ⟨by have := HK1.out; have := HK2.out; omega⟩, ⟨by (with_reducible repeat (first | apply Kd.R_alloc | apply Kd.R_drewN | apply Kd.R_drew)); exact Kd.R_mono HO212.out (fun _ hk => trivial)⟩, ⟨bl HB⟩⟩
               ·rw [if_neg c40] at H
                exact absurd H (by simp)
              ·rw [if_neg c37] at H
               exact absurd H (by simp)
             ·rw [if_neg c36] at H
              exact absurd H (by simp)
            ·rw [if_neg c35] at H
             exact absurd H (by simp)
           ·rw [if_neg c34] at H
            exact absurd H (by simp)
          ·rw [if_neg c33] at H
           exact absurd H (by simp)
         ·rw [if_neg c32] at H
          exact absurd H (by simp)
    ·rw [if_neg c3] at H
     exact absurd H (by simp)
   ·rw [if_neg c2] at H
    have c2b0 : decide (x4_1 < (l0.length : Int)) = false := decide_eq_false c2
    clear c2
    have H' := Aside0.mk H
    clear H
    go_wp2
    go_loopg [7, 8] k1 (fun kq v7 v8 w' => ∃ (x3_2 : List (S27)) (x7_2 : List (S27)) (x8_2 : Int), v8 = .int .i64 x8_2 ∧ Aside0 (revetmentref41_Merge.l2 kq x3_2 x7_2 x8_2 = some r) ∧ Aside0 (kq ≤ k1) ∧ Aside0 (Kd.R k27 27 w' w.heap.size (fun k_ => some k_ ≠ (v7 : Value).ownBlock) u3 x3_2) ∧ Aside0 (Kd.R k27 27 w' w.heap.size (fun k_ => some k_ ≠ (u3 : Value).ownBlock) v7 x7_2) ∧ Aside0 (Below w.heap.size w w'))
    case atStart => exact ⟨(x3_1), (([] : List (S27))), (0), (by first | rfl | (simp; done) | (simp [*]; done)), H', ⟨Nat.le_refl _⟩, ⟨by (with_reducible repeat (first | apply Kd.R_alloc | apply Kd.R_drewN | apply Kd.R_drew)); exact Kd.R_mono HO_3.out (fun _ hk => (by simp [Value.ownBlock]))⟩, ⟨by first | exact Kd.R_nil _ _ _ _ _ | exact Kd.N_nil _ _ _ _ _ | exact Kd.V_nil _ _ _ _ _ | exact Kd.Q_nil _ _ _ _ _ | exact Kd.S_nil _ _ _ _ _⟩, ⟨bl HB⟩⟩
    case round =>
     clear H'
     try clear c1
     try clear p1
     try clear q1
     try clear hx1
     try clear c2
     try clear c2b0
     try clear p2
     try clear q2
     try clear hx2
     try clear c3
     try clear q3
     try clear c4
     try clear q4
     try clear c6
     try clear c6b0
     try clear p6
     try clear c7
     try clear c8
     try clear c10
     try clear c10b0
     try clear c11
     try clear c11b0
     try clear c13
     try clear c16
     try clear c16b0
     try clear c16b1
     try clear p16
     try clear q16
     try clear hx16
     try clear c17
     try clear c17b0
     try clear c17b1
     try clear c18
     try clear p18
     try clear q18
     try clear hx18
     try clear c19
     try clear c20
     try clear c20b0
     try clear p20
     try clear q20
     try clear hx20
     try clear c21
     try clear c21b0
     try clear c22
     try clear c24
     try clear q27
     try clear c30
     try clear q30
     try clear c32
     try clear c32b0
     try clear c32b1
     try clear c33
     try clear c33b0
     try clear c33b1
     try clear c34
     try clear c35
     try clear c35b0
     try clear c36
     try clear c36b0
     try clear c37
     try clear c38
     try clear c38b0
     try clear c39
     try clear c39b0
     try clear c40
     try clear q44
     try clear c47
     try clear q47
     try clear hx168_0
     try clear hx168_1
     try clear hx168_2
     try clear hx168_3
     try clear hx169_0
     try clear hx169_1
     try clear hx169_2
     try clear hx169_3
     try clear hx181_0
     try clear hx181_1
     try clear hx181_2
     try clear hx181_3
     try clear hx202_0
     try clear hx202_1
     try clear hx202_2
     try clear hx202_3
     try clear p168
     try clear p169
     try clear p181
     try clear p202
     try clear q030
     try clear q047
     try clear q168
     try clear q169
     try clear q181
     try clear q202
     try clear q27
     try clear q30
     try clear q44
     try clear q47
     obtain ⟨x3_2, x7_2, x8_2, rfl, HA, HK2, HO_3, HO_7, HB⟩ := hrel
     cases gk with
     | zero => exact absurd HA.out (by simp [revetmentref41_Merge.l2])
     | succ k2 =>
      have H := HA.out
      clear HA
      simp only [revetmentref41_Merge.l2] at H
      by_cases c49 : x8_2 < (x3_2.length : Int)
      ·rw [if_pos c49] at H
       have c49b0 : decide (x8_2 < (x3_2.length : Int)) = true := decide_eq_true c49
       clear c49
       by_cases c50 : (wrap64 ((x7_2.length : Int) - 1)) ≥ 0
       ·rw [if_pos c50] at H
        have c50b0 : decide (0 ≤ (wrap64 ((x7_2.length : Int) - 1))) = true := decide_eq_true c50
        clear c50
        obtain ⟨ji51, hji51⟩ : ∃ j_ : Int, (wrap64 ((x7_2.length : Int) - 1)) = j_ := ⟨_, rfl⟩
        replace H : (if 0 ≤ (ji51) then (if (ji51) < (x7_2.length : Int) then (if 0 ≤ x8_2 then (if ((rd_T27 x7_2 (ji51)).f0) = ((rd_T27 x3_2 x8_2).f0) then (if (wrap64 (((rd_T27 x7_2 (ji51)).f1) + ((rd_T27 x7_2 (ji51)).f2))) = ((rd_T27 x3_2 x8_2).f1) then (revetmentref41_Merge.l2 k2 x3_2 (x7_2.set ((ji51) : Int).toNat (⟨(rd_T27 x7_2 (ji51)).f0, (rd_T27 x7_2 (ji51)).f1, wrap64 (((rd_T27 x7_2 (ji51)).f2) + ((rd_T27 x3_2 x8_2).f2)), (rd_T27 x7_2 (ji51)).f3⟩ : S27)) (wrap64 (x8_2 + 1))) else (if x7_2.length < 4398046511104 then (revetmentref41_Merge.l2 k2 x3_2 (x7_2 ++ [(⟨(rd_T27 x3_2 x8_2).f0, (rd_T27 x3_2 x8_2).f1, (rd_T27 x3_2 x8_2).f2, (rd_T27 x3_2 x8_2).f3⟩ : S27)]) (wrap64 (x8_2 + 1))) else (none))) else (if x7_2.length < 4398046511104 then (revetmentref41_Merge.l2 k2 x3_2 (x7_2 ++ [(⟨(rd_T27 x3_2 x8_2).f0, (rd_T27 x3_2 x8_2).f1, (rd_T27 x3_2 x8_2).f2, (rd_T27 x3_2 x8_2).f3⟩ : S27)]) (wrap64 (x8_2 + 1))) else (none))) else (none)) else (none)) else (none)) = some r := by first | (rw [hji51] at H; exact H) | (simp only [hji51] at H ⊢; exact H)
        (try rw [hji51] at c50b0)
        have hji51w : (IntKind.i64.wrap ((x7_2.length : Int) - 1)) = ji51 := (i64_w _).trans hji51
        by_cases c52 : 0 ≤ (ji51)
        ·rw [if_pos c52] at H
         have c52b0 : decide (0 ≤ (ji51)) = true := decide_eq_true c52
         clear c52
         by_cases c53 : (ji51) < (x7_2.length : Int)
         ·rw [if_pos c53] at H
          have c53b0 : decide ((ji51) < (x7_2.length : Int)) = true := decide_eq_true c53
          clear c53
          by_cases c54 : 0 ≤ x8_2
          ·rw [if_pos c54] at H
           have c54b0 : decide (0 ≤ x8_2) = true := decide_eq_true c54
           clear c54
           by_cases c55 : ((rd_T27 x7_2 (ji51)).f0) = ((rd_T27 x3_2 x8_2).f0)
           ·rw [if_pos c55] at H
            have c55b0 : (((rd_T27 x7_2 (ji51)).f0) == ((rd_T27 x3_2 x8_2).f0)) = true := beq_iff_eq.mpr c55
            have c55b1 : (((rd_T27 x7_2 (ji51)).f0) != ((rd_T27 x3_2 x8_2).f0)) = false := bne_eq_false_iff_eq.mpr c55
            clear c55
            by_cases c56 : (wrap64 (((rd_T27 x7_2 (ji51)).f1) + ((rd_T27 x7_2 (ji51)).f2))) = ((rd_T27 x3_2 x8_2).f1)
            ·rw [if_pos c56] at H
             have c56b0 : ((wrap64 (((rd_T27 x7_2 (ji51)).f1) + ((rd_T27 x7_2 (ji51)).f2))) == ((rd_T27 x3_2 x8_2).f1)) = true := beq_iff_eq.mpr c56
             have c56b1 : ((wrap64 (((rd_T27 x7_2 (ji51)).f1) + ((rd_T27 x7_2 (ji51)).f2))) != ((rd_T27 x3_2 x8_2).f1)) = false := bne_eq_false_iff_eq.mpr c56
             clear c56
             obtain ⟨y220, hy220⟩ : ∃ y_ : List (S27), y_ = (x7_2.set ((ji51) : Int).toNat (⟨(rd_T27 x7_2 (ji51)).f0, (rd_T27 x7_2 (ji51)).f1, wrap64 (((rd_T27 x7_2 (ji51)).f2) + ((rd_T27 x3_2 x8_2).f2)), (rd_T27 x7_2 (ji51)).f3⟩ : S27)) := ⟨_, rfl⟩
             replace H : (revetmentref41_Merge.l2 k2 x3_2 y220 (wrap64 (x8_2 + 1))) = some r := by first | (rw [hy220]; with_reducible exact H) | (have H2_ := (Option.bind_some _ _).symm.trans H; rw [hy220]; with_reducible exact H2_) | (have H2_ := (Option.bind_some _ _).symm.trans H; with_reducible exact H2_) | with_reducible exact H | (rw [hy220]; exact H) | exact H
             have Ny220 := Aside0.mk hy220
             clear hy220
             have H' := Aside0.mk H
             clear H
             obtain ⟨Ao58, co58, eo58⟩ := Kd.R_slice HO_3.out
             subst eo58
             obtain ⟨Ao59, co59, eo59⟩ := Kd.R_slice HO_7.out
             subst eo59
             try go_wp2
             replace HO_3 := Aside0.mk (Kd.R_drew HO_3.out)
             replace HO_7 := Aside0.mk (Kd.R_drew HO_7.out)
             replace HB := Aside0.mk (below_drew1 HB.out)
             have p213 : 0 ≤ ((ji51) : Int) := of_decide_eq_true (by first | (with_reducible assumption) | assumption)
             have q213 : (ji51) < (x7_2.length : Int) := of_decide_eq_true (by first | (with_reducible assumption) | assumption)
             obtain ⟨ad213, e213, hx213_0, hx213_1, hx213_2, hx213_3⟩ := at_T27 (Kd.R_reads' HO_7.out).2.2 (ji51) p213 q213
             cases e213
             replace p213 := eq_true p213
             replace q213 := eq_true q213
             have p214 : 0 ≤ (x8_2 : Int) := of_decide_eq_true (by first | (with_reducible assumption) | assumption)
             have q214 : x8_2 < (x3_2.length : Int) := of_decide_eq_true (by first | (with_reducible assumption) | assumption)
             obtain ⟨ad214, e214, hx214_0, hx214_1, hx214_2, hx214_3⟩ := at_T27 (Kd.R_reads' HO_3.out).2.2 x8_2 p214 q214
             cases e214
             replace p214 := eq_true p214
             replace q214 := eq_true q214
             have p215 : 0 ≤ ((ji51) : Int) := of_decide_eq_true (by first | (with_reducible assumption) | assumption)
             have q215 : (ji51) < (x7_2.length : Int) := of_decide_eq_true (by first | (with_reducible assumption) | assumption)
             obtain ⟨ad215, e215, hx215_0, hx215_1, hx215_2, hx215_3⟩ := at_T27 (Kd.R_reads' HO_7.out).2.2 (ji51) p215 q215
             obtain rfl : ad213 = ad215 := (by injection e215)
             replace p215 := eq_true p215
             replace q215 := eq_true q215
             have p216 : 0 ≤ ((ji51) : Int) := of_decide_eq_true (by first | (with_reducible assumption) | assumption)
             have q216 : (ji51) < (x7_2.length : Int) := of_decide_eq_true (by first | (with_reducible assumption) | assumption)
             obtain ⟨ad216, e216, hx216_0, hx216_1, hx216_2, hx216_3⟩ := at_T27 (Kd.R_reads' HO_7.out).2.2 (ji51) p216 q216
             obtain rfl : ad213 = ad216 := (by injection e216)
             replace p216 := eq_true p216
             replace q216 := eq_true q216
             have p217 : 0 ≤ (x8_2 : Int) := of_decide_eq_true (by first | (with_reducible assumption) | assumption)
             have q217 : x8_2 < (x3_2.length : Int) := of_decide_eq_true (by first | (with_reducible assumption) | assumption)
             obtain ⟨ad217, e217, hx217_0, hx217_1, hx217_2, hx217_3⟩ := at_T27 (Kd.R_reads' HO_3.out).2.2 x8_2 p217 q217
             obtain rfl : ad214 = ad217 := (by injection e217)
             replace p217 := eq_true p217
             replace q217 := eq_true q217
             refine start_ (n := 34) (S := fun w' => w'.cell? (ad213.add (((ji51)).toNat * 4)) = some (.int .i64 ((rd_T27 x7_2 (ji51)).f0)) ∧ w'.cell? ⟨(ad213.add (((ji51)).toNat * 4)).block, (ad213.add (((ji51)).toNat * 4)).off + 1, none⟩ = some (.int .i64 ((rd_T27 x7_2 (ji51)).f1)) ∧ w'.cell? ⟨(ad213.add (((ji51)).toNat * 4)).block, (ad213.add (((ji51)).toNat * 4)).off + 2, none⟩ = some (.int .i64 ((rd_T27 x7_2 (ji51)).f2)) ∧ w'.cell? ⟨(ad213.add (((ji51)).toNat * 4)).block, (ad213.add (((ji51)).toNat * 4)).off + 3, none⟩ = some (.int .i64 ((rd_T27 x7_2 (ji51)).f3)) ∧ w'.cell? (ad214.add ((x8_2).toNat * 4)) = some (.int .i64 ((rd_T27 x3_2 x8_2).f0)) ∧ w'.cell? ⟨(ad214.add ((x8_2).toNat * 4)).block, (ad214.add ((x8_2).toNat * 4)).off + 1, none⟩ = some (.int .i64 ((rd_T27 x3_2 x8_2).f1)) ∧ w'.cell? ⟨(ad214.add ((x8_2).toNat * 4)).block, (ad214.add ((x8_2).toNat * 4)).off + 2, none⟩ = some (.int .i64 ((rd_T27 x3_2 x8_2).f2)) ∧ w'.cell? ⟨(ad214.add ((x8_2).toNat * 4)).block, (ad214.add ((x8_2).toNat * 4)).off + 3, none⟩ = some (.int .i64 ((rd_T27 x3_2 x8_2).f3)) ∧ w'.cell? (ad213.add (((ji51)).toNat * 4)) = some (.int .i64 ((rd_T27 x7_2 (ji51)).f0)) ∧ w'.cell? ⟨(ad213.add (((ji51)).toNat * 4)).block, (ad213.add (((ji51)).toNat * 4)).off + 1, none⟩ = some (.int .i64 ((rd_T27 x7_2 (ji51)).f1)) ∧ w'.cell? ⟨(ad213.add (((ji51)).toNat * 4)).block, (ad213.add (((ji51)).toNat * 4)).off + 2, none⟩ = some (.int .i64 ((rd_T27 x7_2 (ji51)).f2)) ∧ w'.cell? ⟨(ad213.add (((ji51)).toNat * 4)).block, (ad213.add (((ji51)).toNat * 4)).off + 3, none⟩ = some (.int .i64 ((rd_T27 x7_2 (ji51)).f3)) ∧ w'.cell? (ad213.add (((ji51)).toNat * 4)) = some (.int .i64 ((rd_T27 x7_2 (ji51)).f0)) ∧ w'.cell? ⟨(ad213.add (((ji51)).toNat * 4)).block, (ad213.add (((ji51)).toNat * 4)).off + 1, none⟩ = some (.int .i64 ((rd_T27 x7_2 (ji51)).f1)) ∧ w'.cell? ⟨(ad213.add (((ji51)).toNat * 4)).block, (ad213.add (((ji51)).toNat * 4)).off + 2, none⟩ = some (.int .i64 ((rd_T27 x7_2 (ji51)).f2)) ∧ w'.cell? ⟨(ad213.add (((ji51)).toNat * 4)).block, (ad213.add (((ji51)).toNat * 4)).off + 3, none⟩ = some (.int .i64 ((rd_T27 x7_2 (ji51)).f3)) ∧ w'.cell? (ad214.add ((x8_2).toNat * 4)) = some (.int .i64 ((rd_T27 x3_2 x8_2).f0)) ∧ w'.cell? ⟨(ad214.add ((x8_2).toNat * 4)).block, (ad214.add ((x8_2).toNat * 4)).off + 1, none⟩ = some (.int .i64 ((rd_T27 x3_2 x8_2).f1)) ∧ w'.cell? ⟨(ad214.add ((x8_2).toNat * 4)).block, (ad214.add ((x8_2).toNat * 4)).off + 2, none⟩ = some (.int .i64 ((rd_T27 x3_2 x8_2).f2)) ∧ w'.cell? ⟨(ad214.add ((x8_2).toNat * 4)).block, (ad214.add ((x8_2).toNat * 4)).off + 3, none⟩ = some (.int .i64 ((rd_T27 x3_2 x8_2).f3))) (ds := []) (bq 34 0) (by kernel_rfl) rfl rfl ⟨hx213_0, hx213_1, hx213_2, hx213_3, hx214_0, hx214_1, hx214_2, hx214_3, hx215_0, hx215_1, hx215_2, hx215_3, hx216_0, hx216_1, hx216_2, hx216_3, hx217_0, hx217_1, hx217_2, hx217_3⟩ (fun hHeld => ?_); refine with_tabW revetmentref41_Merge.tab17 revetmentref41_Merge.bits17 (fun HT_ HW_ => ?_)
             generalize wr.drew = w60 at HO_3 HO_7 HB hx213_0 hx213_1 hx213_2 hx213_3 hx214_0 hx214_1 hx214_2 hx214_3 hx215_0 hx215_1 hx215_2 hx215_3 hx216_0 hx216_1 hx216_2 hx216_3 hx217_0 hx217_1 hx217_2 hx217_3 hHeld ⊢
             apply pu 0 66 (bq 34 1) HT_
             apply pu 1 67 (bq 34 3) HT_
             apply pu 2 68 (bq 34 7) HT_
             apply pu 3 69 (bq 34 15) HT_
             apply pu 4 70 (bq 34 31) HT_
             apply pu 5 71 (bq 34 63) HT_
             apply pu 6 72 (bq 34 127) HT_
             apply pu 8 74 (bq 34 383) HT_
             apply pu 9 75 (bq 34 895) HT_
             apply pu 10 76 (bq 34 1919) HT_
             apply pu 11 77 (bq 34 3967) HT_
             apply tu 7 73 (bq 34 4095) HT_ HW_ hHeld
             apply tu 12 78 (bq 34 8191) HT_ HW_ hHeld
             apply pu 13 79 (bq 34 16383) HT_
             apply pu 14 80 (bq 34 32767) HT_
             apply pu 15 81 (bq 34 65535) HT_
             apply pu 16 82 (bq 34 131071) HT_
             apply pu 17 83 (bq 34 262143) HT_
             apply pu 18 84 (bq 34 524287) HT_
             apply pu 19 85 (bq 34 1048575) HT_
             apply pu 21 87 (bq 34 3145727) HT_
             apply pu 22 88 (bq 34 7340031) HT_
             apply pu 23 89 (bq 34 15728639) HT_
             apply pu 24 90 (bq 34 32505855) HT_
             apply pu 27 93 (bq 34 166723583) HT_
             apply pu 28 94 (bq 34 435159039) HT_
             apply pu 29 95 (bq 34 972029951) HT_
             apply pu 30 96 (bq 34 2045771775) HT_
             apply tu 20 86 (bq 34 2046820351) HT_ HW_ hHeld
             apply tu 25 91 (bq 34 2080374783) HT_ HW_ hHeld
             apply pu 26 92 (bq 34 2147483647) HT_
             apply tu 31 97 (bq 34 4294967295) HT_ HW_ hHeld
             apply pu 32 98 (bq 34 8589934591) HT_
             apply pu 33 99 (bq 34 17179869183) HT_
             refine done_ (done_of HT_.out (by kernel_rfl)) ?_
             try go_wp2
             replace HO_3 := Aside0.mk (Kd.R_drew HO_3.out)
             replace HO_7 := Aside0.mk (Kd.R_drew HO_7.out)
             replace HB := Aside0.mk (below_drew1 HB.out)
             have p218 : 0 ≤ ((ji51) : Int) := of_decide_eq_true (by first | (with_reducible assumption) | assumption)
             have q218 : (ji51) < (x7_2.length : Int) := of_decide_eq_true (by first | (with_reducible assumption) | assumption)
             obtain ⟨ad218, e218, hx218_0, hx218_1, hx218_2, hx218_3⟩ := at_T27 (Kd.R_reads' HO_7.out).2.2 (ji51) p218 q218
             obtain rfl : ad213 = ad218 := (by injection e218)
             replace p218 := eq_true p218
             replace q218 := eq_true q218
             have p219 : 0 ≤ (x8_2 : Int) := of_decide_eq_true (by first | (with_reducible assumption) | assumption)
             have q219 : x8_2 < (x3_2.length : Int) := of_decide_eq_true (by first | (with_reducible assumption) | assumption)
             obtain ⟨ad219, e219, hx219_0, hx219_1, hx219_2, hx219_3⟩ := at_T27 (Kd.R_reads' HO_3.out).2.2 x8_2 p219 q219
             obtain rfl : ad214 = ad219 := (by injection e219)
             replace p219 := eq_true p219
             replace q219 := eq_true q219
             have p57 : 0 ≤ ((ji51) : Int) := of_decide_eq_true (by first | (with_reducible assumption) | assumption)
             have q57 : ((ji51) : Int) < ((x7_2.length : Int) : Int) := of_decide_eq_true (by first | (with_reducible assumption) | assumption)
             obtain ⟨go57, co57, eo57, gb57, gl57, cl57, HG57⟩ := Kd.R_form HO_7.out (by omega)
             (first | cases eo57 | (injection eo57 with ea_ en_ ec_; (first | subst ea_ | (injection ea_ with ea_; subst ea_)); subst ec_; clear en_))
             have GB57 := Aside0.mk gb57
             have GG57 := Aside0.mk HG57
             clear gb57 gl57 HG57
             (first | simp only [add_plain] at hx213_0 | skip)
             (first | simp only [add_plain] at hx213_1 | skip)
             (first | simp only [add_plain] at hx213_2 | skip)
             (first | simp only [add_plain] at hx213_3 | skip)
             (first | simp only [add_plain] at hx215_0 | skip)
             (first | simp only [add_plain] at hx215_1 | skip)
             (first | simp only [add_plain] at hx215_2 | skip)
             (first | simp only [add_plain] at hx215_3 | skip)
             (first | simp only [add_plain] at hx216_0 | skip)
             (first | simp only [add_plain] at hx216_1 | skip)
             (first | simp only [add_plain] at hx216_2 | skip)
             (first | simp only [add_plain] at hx216_3 | skip)
             (first | simp only [add_plain] at hx218_0 | skip)
             (first | simp only [add_plain] at hx218_1 | skip)
             (first | simp only [add_plain] at hx218_2 | skip)
             (first | simp only [add_plain] at hx218_3 | skip)
             obtain ⟨ce57, hcl57, hM57, hcc57, hfr57⟩ := Kd.R_elem HO_7.out z27 ((ji51) : Int) p57 q57
             obtain rfl := k27_openM hM57
             have hx57_0 : World.cell? _ ⟨go57, ((ji51) : Int).toNat * 4, none⟩ = some (.int .i64 ((rd_T27 x7_2 (ji51)).f0)) := hcc57 0 _ rfl
             have hx57_1 : World.cell? _ ⟨go57, ((ji51) : Int).toNat * 4 + 1, none⟩ = some (.int .i64 ((rd_T27 x7_2 (ji51)).f1)) := hcc57 1 _ rfl
             have hx57_2 : World.cell? _ ⟨go57, ((ji51) : Int).toNat * 4 + 2, none⟩ = some (.int .i64 ((rd_T27 x7_2 (ji51)).f2)) := hcc57 2 _ rfl
             have hx57_3 : World.cell? _ ⟨go57, ((ji51) : Int).toNat * 4 + 3, none⟩ = some (.int .i64 ((rd_T27 x7_2 (ji51)).f3)) := hcc57 3 _ rfl
             have hf57_0 : World.frozen? _ ⟨go57, ((ji51) : Int).toNat * 4, none⟩ = false := hfr57 0
             have hf57_1 : World.frozen? _ ⟨go57, ((ji51) : Int).toNat * 4 + 1, none⟩ = false := hfr57 1
             have hf57_2 : World.frozen? _ ⟨go57, ((ji51) : Int).toNat * 4 + 2, none⟩ = false := hfr57 2
             have hf57_3 : World.frozen? _ ⟨go57, ((ji51) : Int).toNat * 4 + 3, none⟩ = false := hfr57 3
             clear hcl57 hcc57 hfr57 hM57
             replace p57 := eq_true p57
             replace q57 := eq_true q57
             obtain ⟨ce62, hcl62, hM62, hcc62, hfr62⟩ := Kd.R_elem HO_7.out z27 ((ji51) : Int) (of_decide_eq_true (by first | (with_reducible assumption) | assumption)) (by have h_ : ((ji51) : Int) < ((x7_2.length : Int) : Int) := of_decide_eq_true (by first | (with_reducible assumption) | assumption); first | exact h_ | (have e_ := (Kd.R_reads' HO_7.out).1; omega) | simpa using h_)
             obtain rfl := k27_openM hM62
             have HP62 := (Kd.R_seg HO_7.out ((ji51) : Int) (of_decide_eq_true (by first | (with_reducible assumption) | assumption)) (by have h_ : ((ji51) : Int) < ((x7_2.length : Int) : Int) := of_decide_eq_true (by first | (with_reducible assumption) | assumption); first | exact h_ | (have e_ := (Kd.R_reads' HO_7.out).1; omega) | simpa using h_) (seg := [.int .i64 (wrap64 (((rd_T27 x7_2 (ji51)).f2) + ((rd_T27 x3_2 x8_2).f2)))]) (j := 2) hcl62 hcc62 (show 3 ≤ 4 from by decide) (x' := (⟨(rd_T27 x7_2 (ji51)).f0, (rd_T27 x7_2 (ji51)).f1, wrap64 (((rd_T27 x7_2 (ji51)).f2) + ((rd_T27 x3_2 x8_2).f2)), (rd_T27 x7_2 (ji51)).f3⟩ : S27)) (k27_mkM _ _ _ (⟨(rd_T27 x7_2 (ji51)).f0, (rd_T27 x7_2 (ji51)).f1, wrap64 (((rd_T27 x7_2 (ji51)).f2) + ((rd_T27 x3_2 x8_2).f2)), (rd_T27 x7_2 (ji51)).f3⟩ : S27) ) (fun _ hk => hk)).1
             rw [← Ny220.out] at HP62
             have HQ62 := Aside0.mk HP62
             clear hcl62 hcc62 hfr62 hM62 HP62
             refine start_ (n := 16) (S := fun w' => w'.cell? ⟨go57, ((ji51)).toNat * 4, none⟩ = some (.int .i64 ((rd_T27 x7_2 (ji51)).f0)) ∧ w'.cell? ⟨go57, ((ji51)).toNat * 4 + 1, none⟩ = some (.int .i64 ((rd_T27 x7_2 (ji51)).f1)) ∧ w'.cell? ⟨go57, ((ji51)).toNat * 4 + 2, none⟩ = some (.int .i64 ((rd_T27 x7_2 (ji51)).f2)) ∧ w'.cell? ⟨go57, ((ji51)).toNat * 4 + 3, none⟩ = some (.int .i64 ((rd_T27 x7_2 (ji51)).f3)) ∧ w'.cell? (ad214.add ((x8_2).toNat * 4)) = some (.int .i64 ((rd_T27 x3_2 x8_2).f0)) ∧ w'.cell? ⟨(ad214.add ((x8_2).toNat * 4)).block, (ad214.add ((x8_2).toNat * 4)).off + 1, none⟩ = some (.int .i64 ((rd_T27 x3_2 x8_2).f1)) ∧ w'.cell? ⟨(ad214.add ((x8_2).toNat * 4)).block, (ad214.add ((x8_2).toNat * 4)).off + 2, none⟩ = some (.int .i64 ((rd_T27 x3_2 x8_2).f2)) ∧ w'.cell? ⟨(ad214.add ((x8_2).toNat * 4)).block, (ad214.add ((x8_2).toNat * 4)).off + 3, none⟩ = some (.int .i64 ((rd_T27 x3_2 x8_2).f3))) (ds := [15]) (bq 16 0) (by kernel_rfl) rfl rfl ⟨hx218_0, hx218_1, hx218_2, hx218_3, hx219_0, hx219_1, hx219_2, hx219_3⟩ (fun hHeld => ?_); refine with_tabW revetmentref41_Merge.tab18 revetmentref41_Merge.bits18 (fun HT_ HW_ => ?_)
             generalize w60.drew = w61 at HO_3 HO_7 HB GG57 HQ62 hf57_0 hf57_1 hf57_2 hf57_3 hx213_0 hx213_1 hx213_2 hx213_3 hx215_0 hx215_1 hx215_2 hx215_3 hx216_0 hx216_1 hx216_2 hx216_3 hx218_0 hx218_1 hx218_2 hx218_3 hx219_0 hx219_1 hx219_2 hx219_3 hx57_0 hx57_1 hx57_2 hx57_3 hHeld ⊢
             apply pu 0 100 (bq 16 1) HT_
             apply pu 1 101 (bq 16 3) HT_
             apply pu 2 102 (bq 16 7) HT_
             apply pu 3 103 (bq 16 15) HT_
             apply pu 4 104 (bq 16 31) HT_
             apply pu 5 105 (bq 16 63) HT_
             apply pu 7 107 (bq 16 191) HT_
             apply pu 8 108 (bq 16 447) HT_
             apply pu 9 109 (bq 16 959) HT_
             apply pu 10 110 (bq 16 1983) HT_
             apply tu 6 106 (bq 16 2047) HT_ HW_ hHeld
             apply tu 11 111 (bq 16 4095) HT_ HW_ hHeld
             apply pu 12 112 (bq 16 8191) HT_
             apply pu 13 113 (bq 16 16383) HT_
             apply pu 14 114 (bq 16 32767) HT_
             refine last_ (i := 15) (N := none) (bq 16 65535) rfl rfl (one_of HT_.out (by kernel_rfl)) (by decide) (fun K hK => ?_)
             refine skip_ (w1 := ?_) (by rfl) rfl ?_ ?_
             rotate_left
             ·go_simp
              rfl
             refine hK.out _ _ ?_
             clear hK K
             refine done_ (done_of HT_.out (by kernel_rfl)) ?_
             try go_wp2
             go_roundg k2
             case measure => have := HK1.out; have := HK2.out; omega
             case rel => exact ⟨(x3_2), (y220), (wrap64 (x8_2 + 1)), (by first | rfl | (simp; done) | (simp [*]; done)), H', ⟨by have := HK1.out; have := HK2.out; omega⟩, ⟨by (with_reducible repeat (first | apply Kd.R_alloc | apply Kd.R_drewN | apply Kd.R_drew)); exact Kd.R_mono (Kd.R_far (p := ⟨go57, ((ji51) : Int).toNat * 4 + 2, none⟩) (Kd.R_mono HO_3.out (fun k_ hk => (⟨hk, fun e_ => hk (by rw [e_]; rfl)⟩ : _ ∧ k_ ≠ go57))) (fun _ hk => hk.2) (.int .i64 (wrap64 (((rd_T27 x7_2 (ji51)).f2) + ((rd_T27 x3_2 x8_2).f2))))) (fun _ hk => hk.1)⟩, ⟨by (with_reducible repeat (first | apply Kd.R_alloc | apply Kd.R_drewN | apply Kd.R_drew)); exact HQ62.out⟩, ⟨bl HB⟩⟩
            ·rw [if_neg c56] at H
             have c56b0 : ((wrap64 (((rd_T27 x7_2 (ji51)).f1) + ((rd_T27 x7_2 (ji51)).f2))) == ((rd_T27 x3_2 x8_2).f1)) = false := beq_eq_false_iff_ne.mpr c56
             have c56b1 : ((wrap64 (((rd_T27 x7_2 (ji51)).f1) + ((rd_T27 x7_2 (ji51)).f2))) != ((rd_T27 x3_2 x8_2).f1)) = true := bne_iff_ne.mpr c56
             by_cases c63 : x7_2.length < 4398046511104
             ·rw [if_pos c63] at H
              have LMc63 := Aside0.mk c63
              clear c63
              obtain ⟨y222, hy222⟩ : ∃ y_ : List (S27), y_ = (x7_2 ++ [(⟨(rd_T27 x3_2 x8_2).f0, (rd_T27 x3_2 x8_2).f1, (rd_T27 x3_2 x8_2).f2, (rd_T27 x3_2 x8_2).f3⟩ : S27)]) := ⟨_, rfl⟩
              replace H : (revetmentref41_Merge.l2 k2 x3_2 y222 (wrap64 (x8_2 + 1))) = some r := by first | (rw [hy222]; with_reducible exact H) | (have H2_ := (Option.bind_some _ _).symm.trans H; rw [hy222]; with_reducible exact H2_) | (have H2_ := (Option.bind_some _ _).symm.trans H; with_reducible exact H2_) | with_reducible exact H | (rw [hy222]; exact H) | exact H
              have Ny222 := Aside0.mk hy222
              clear hy222
              have H' := Aside0.mk H
              clear H
              obtain ⟨Ao64, co64, eo64⟩ := Kd.R_slice HO_3.out
              subst eo64
              obtain ⟨Ao65, co65, eo65⟩ := Kd.R_slice HO_7.out
              subst eo65
              try go_wp2
              replace HO_3 := Aside0.mk (Kd.R_drew HO_3.out)
              replace HO_7 := Aside0.mk (Kd.R_drew HO_7.out)
              replace HB := Aside0.mk (below_drew1 HB.out)
              have p213 : 0 ≤ ((ji51) : Int) := of_decide_eq_true (by first | (with_reducible assumption) | assumption)
              have q213 : (ji51) < (x7_2.length : Int) := of_decide_eq_true (by first | (with_reducible assumption) | assumption)
              obtain ⟨ad213, e213, hx213_0, hx213_1, hx213_2, hx213_3⟩ := at_T27 (Kd.R_reads' HO_7.out).2.2 (ji51) p213 q213
              cases e213
              replace p213 := eq_true p213
              replace q213 := eq_true q213
              have p214 : 0 ≤ (x8_2 : Int) := of_decide_eq_true (by first | (with_reducible assumption) | assumption)
              have q214 : x8_2 < (x3_2.length : Int) := of_decide_eq_true (by first | (with_reducible assumption) | assumption)
              obtain ⟨ad214, e214, hx214_0, hx214_1, hx214_2, hx214_3⟩ := at_T27 (Kd.R_reads' HO_3.out).2.2 x8_2 p214 q214
              cases e214
              replace p214 := eq_true p214
              replace q214 := eq_true q214
              have p215 : 0 ≤ ((ji51) : Int) := of_decide_eq_true (by first | (with_reducible assumption) | assumption)
              have q215 : (ji51) < (x7_2.length : Int) := of_decide_eq_true (by first | (with_reducible assumption) | assumption)
              obtain ⟨ad215, e215, hx215_0, hx215_1, hx215_2, hx215_3⟩ := at_T27 (Kd.R_reads' HO_7.out).2.2 (ji51) p215 q215
              obtain rfl : ad213 = ad215 := (by injection e215)
              replace p215 := eq_true p215
              replace q215 := eq_true q215
              have p216 : 0 ≤ ((ji51) : Int) := of_decide_eq_true (by first | (with_reducible assumption) | assumption)
              have q216 : (ji51) < (x7_2.length : Int) := of_decide_eq_true (by first | (with_reducible assumption) | assumption)
              obtain ⟨ad216, e216, hx216_0, hx216_1, hx216_2, hx216_3⟩ := at_T27 (Kd.R_reads' HO_7.out).2.2 (ji51) p216 q216
              obtain rfl : ad213 = ad216 := (by injection e216)
              replace p216 := eq_true p216
              replace q216 := eq_true q216
              have p217 : 0 ≤ (x8_2 : Int) := of_decide_eq_true (by first | (with_reducible assumption) | assumption)
              have q217 : x8_2 < (x3_2.length : Int) := of_decide_eq_true (by first | (with_reducible assumption) | assumption)
              obtain ⟨ad217, e217, hx217_0, hx217_1, hx217_2, hx217_3⟩ := at_T27 (Kd.R_reads' HO_3.out).2.2 x8_2 p217 q217
              obtain rfl : ad214 = ad217 := (by injection e217)
              replace p217 := eq_true p217
              replace q217 := eq_true q217
              refine start_ (n := 34) (S := fun w' => w'.cell? (ad213.add (((ji51)).toNat * 4)) = some (.int .i64 ((rd_T27 x7_2 (ji51)).f0)) ∧ w'.cell? ⟨(ad213.add (((ji51)).toNat * 4)).block, (ad213.add (((ji51)).toNat * 4)).off + 1, none⟩ = some (.int .i64 ((rd_T27 x7_2 (ji51)).f1)) ∧ w'.cell? ⟨(ad213.add (((ji51)).toNat * 4)).block, (ad213.add (((ji51)).toNat * 4)).off + 2, none⟩ = some (.int .i64 ((rd_T27 x7_2 (ji51)).f2)) ∧ w'.cell? ⟨(ad213.add (((ji51)).toNat * 4)).block, (ad213.add (((ji51)).toNat * 4)).off + 3, none⟩ = some (.int .i64 ((rd_T27 x7_2 (ji51)).f3)) ∧ w'.cell? (ad214.add ((x8_2).toNat * 4)) = some (.int .i64 ((rd_T27 x3_2 x8_2).f0)) ∧ w'.cell? ⟨(ad214.add ((x8_2).toNat * 4)).block, (ad214.add ((x8_2).toNat * 4)).off + 1, none⟩ = some (.int .i64 ((rd_T27 x3_2 x8_2).f1)) ∧ w'.cell? ⟨(ad214.add ((x8_2).toNat * 4)).block, (ad214.add ((x8_2).toNat * 4)).off + 2, none⟩ = some (.int .i64 ((rd_T27 x3_2 x8_2).f2)) ∧ w'.cell? ⟨(ad214.add ((x8_2).toNat * 4)).block, (ad214.add ((x8_2).toNat * 4)).off + 3, none⟩ = some (.int .i64 ((rd_T27 x3_2 x8_2).f3)) ∧ w'.cell? (ad213.add (((ji51)).toNat * 4)) = some (.int .i64 ((rd_T27 x7_2 (ji51)).f0)) ∧ w'.cell? ⟨(ad213.add (((ji51)).toNat * 4)).block, (ad213.add (((ji51)).toNat * 4)).off + 1, none⟩ = some (.int .i64 ((rd_T27 x7_2 (ji51)).f1)) ∧ w'.cell? ⟨(ad213.add (((ji51)).toNat * 4)).block, (ad213.add (((ji51)).toNat * 4)).off + 2, none⟩ = some (.int .i64 ((rd_T27 x7_2 (ji51)).f2)) ∧ w'.cell? ⟨(ad213.add (((ji51)).toNat * 4)).block, (ad213.add (((ji51)).toNat * 4)).off + 3, none⟩ = some (.int .i64 ((rd_T27 x7_2 (ji51)).f3)) ∧ w'.cell? (ad213.add (((ji51)).toNat * 4)) = some (.int .i64 ((rd_T27 x7_2 (ji51)).f0)) ∧ w'.cell? ⟨(ad213.add (((ji51)).toNat * 4)).block, (ad213.add (((ji51)).toNat * 4)).off + 1, none⟩ = some (.int .i64 ((rd_T27 x7_2 (ji51)).f1)) ∧ w'.cell? ⟨(ad213.add (((ji51)).toNat * 4)).block, (ad213.add (((ji51)).toNat * 4)).off + 2, none⟩ = some (.int .i64 ((rd_T27 x7_2 (ji51)).f2)) ∧ w'.cell? ⟨(ad213.add (((ji51)).toNat * 4)).block, (ad213.add (((ji51)).toNat * 4)).off + 3, none⟩ = some (.int .i64 ((rd_T27 x7_2 (ji51)).f3)) ∧ w'.cell? (ad214.add ((x8_2).toNat * 4)) = some (.int .i64 ((rd_T27 x3_2 x8_2).f0)) ∧ w'.cell? ⟨(ad214.add ((x8_2).toNat * 4)).block, (ad214.add ((x8_2).toNat * 4)).off + 1, none⟩ = some (.int .i64 ((rd_T27 x3_2 x8_2).f1)) ∧ w'.cell? ⟨(ad214.add ((x8_2).toNat * 4)).block, (ad214.add ((x8_2).toNat * 4)).off + 2, none⟩ = some (.int .i64 ((rd_T27 x3_2 x8_2).f2)) ∧ w'.cell? ⟨(ad214.add ((x8_2).toNat * 4)).block, (ad214.add ((x8_2).toNat * 4)).off + 3, none⟩ = some (.int .i64 ((rd_T27 x3_2 x8_2).f3))) (ds := []) (bq 34 0) (by kernel_rfl) rfl rfl ⟨hx213_0, hx213_1, hx213_2, hx213_3, hx214_0, hx214_1, hx214_2, hx214_3, hx215_0, hx215_1, hx215_2, hx215_3, hx216_0, hx216_1, hx216_2, hx216_3, hx217_0, hx217_1, hx217_2, hx217_3⟩ (fun hHeld => ?_); refine with_tabW revetmentref41_Merge.tab17 revetmentref41_Merge.bits17 (fun HT_ HW_ => ?_)
              generalize wr.drew = w66 at HO_3 HO_7 HB hx213_0 hx213_1 hx213_2 hx213_3 hx214_0 hx214_1 hx214_2 hx214_3 hx215_0 hx215_1 hx215_2 hx215_3 hx216_0 hx216_1 hx216_2 hx216_3 hx217_0 hx217_1 hx217_2 hx217_3 hHeld ⊢
              apply pu 0 66 (bq 34 1) HT_
              apply pu 1 67 (bq 34 3) HT_
              apply pu 2 68 (bq 34 7) HT_
              apply pu 3 69 (bq 34 15) HT_
              apply pu 4 70 (bq 34 31) HT_
              apply pu 5 71 (bq 34 63) HT_
              apply pu 6 72 (bq 34 127) HT_
              apply pu 8 74 (bq 34 383) HT_
              apply pu 9 75 (bq 34 895) HT_
              apply pu 10 76 (bq 34 1919) HT_
              apply pu 11 77 (bq 34 3967) HT_
              apply tu 7 73 (bq 34 4095) HT_ HW_ hHeld
              apply tu 12 78 (bq 34 8191) HT_ HW_ hHeld
              apply pu 13 79 (bq 34 16383) HT_
              apply pu 14 80 (bq 34 32767) HT_
              apply pu 15 81 (bq 34 65535) HT_
              apply pu 16 82 (bq 34 131071) HT_
              apply pu 17 83 (bq 34 262143) HT_
              apply pu 18 84 (bq 34 524287) HT_
              apply pu 19 85 (bq 34 1048575) HT_
              apply pu 21 87 (bq 34 3145727) HT_
              apply pu 22 88 (bq 34 7340031) HT_
              apply pu 23 89 (bq 34 15728639) HT_
              apply pu 24 90 (bq 34 32505855) HT_
              apply pu 27 93 (bq 34 166723583) HT_
              apply pu 28 94 (bq 34 435159039) HT_
              apply pu 29 95 (bq 34 972029951) HT_
              apply pu 30 96 (bq 34 2045771775) HT_
              apply tu 20 86 (bq 34 2046820351) HT_ HW_ hHeld
              apply tu 25 91 (bq 34 2080374783) HT_ HW_ hHeld
              apply pu 26 92 (bq 34 2147483647) HT_
              apply tu 31 97 (bq 34 4294967295) HT_ HW_ hHeld
              apply pu 32 98 (bq 34 8589934591) HT_
              apply pu 33 99 (bq 34 17179869183) HT_
              refine done_ (done_of HT_.out (by kernel_rfl)) ?_
              have p221 : 0 ≤ (x8_2 : Int) := of_decide_eq_true (by first | (with_reducible assumption) | assumption)
              have q221 : x8_2 < (x3_2.length : Int) := of_decide_eq_true (by first | (with_reducible assumption) | assumption)
              obtain ⟨ad221, e221, hx221_0, hx221_1, hx221_2, hx221_3⟩ := at_T27 (Kd.R_reads' HO_3.out).2.2 x8_2 p221 q221
              obtain rfl : ad214 = ad221 := (by injection e221)
              replace p221 := eq_true p221
              replace q221 := eq_true q221
              try go_wp2_with (first | ((with_reducible refine gate_builtin (b := .append) (xs := #[.tmp 115, .tmp 120]) rfl ?_); at_builtin; refine Kd.R_append k27 (w0 := w) w.heap.size rfl (.tmp 115) (.tmp 120) 22 27 (.agg #[(.int .i64 0), (.int .i64 0), (.int .i64 0), (.int .i64 0)]) 32 rfl Try.underlying22 info27 rfl (by decide) (by omega) (.slice (some ad213) x7_2.length co65) x7_2 (⟨(rd_T27 x3_2 x8_2).f0, (rd_T27 x3_2 x8_2).f1, (rd_T27 x3_2 x8_2).f2, (rd_T27 x3_2 x8_2).f3⟩ : S27) [.int .i64 ((rd_T27 x3_2 x8_2).f0), .int .i64 ((rd_T27 x3_2 x8_2).f1), .int .i64 ((rd_T27 x3_2 x8_2).f2), .int .i64 ((rd_T27 x3_2 x8_2).f3)] (fun k_ => some k_ ≠ (.slice (some ad214) x3_2.length co64 : Value).ownBlock) (fun _ => False) rfl rfl ?aP (fun _ hk => hk.elim) ?aF ?aO ?aB ?aS ?aL ?_; (case aP => exact k27_mkM _ _ _ (⟨(rd_T27 x3_2 x8_2).f0, (rd_T27 x3_2 x8_2).f1, (rd_T27 x3_2 x8_2).f2, (rd_T27 x3_2 x8_2).f3⟩ : S27)); (case aB => exact (bl HB)); (case aF => exact (fun k_ hk => Kd.fresh' (Kd.R_lt (by (with_reducible repeat (first | apply Kd.R_alloc | apply Kd.R_drewN | apply Kd.R_drew)); exact HO_3.out)) k_ hk)); (case aO => exact (by (with_reducible repeat (first | apply Kd.R_alloc | apply Kd.R_drewN | apply Kd.R_drew)); exact HO_7.out)); (case aS => exact (below_size (bl HB))); (case aL => have := LMc63.out; omega); intro v223 w67 ho hb hg hat; rw [← Ny222.out] at ho; have n0_ := Aside0.mk (Kd.R_after (ok := (fun _ => True)) (by (with_reducible repeat (first | apply Kd.R_alloc | apply Kd.R_drewN | apply Kd.R_drew)); exact Kd.R_mono HO_3.out (fun _ hk => ⟨trivial, hk⟩)) hg hat); have n1_ := Aside0.mk (hb); have n2_ := Aside0.mk (ho); clear HO_3; clear HB; clear HO_7; have HO_3 := n0_; have HB := n1_; have HO224 := n2_; clear n0_ n1_ n2_; clear ho hb hg hat))
              go_roundg k2
              case measure => have := HK1.out; have := HK2.out; omega
              case rel => exact ⟨(x3_2), (y222), (wrap64 (x8_2 + 1)), (by first | rfl | (simp; done) | (simp [*]; done)), H', ⟨by have := HK1.out; have := HK2.out; omega⟩, ⟨by (with_reducible repeat (first | apply Kd.R_alloc | apply Kd.R_drewN | apply Kd.R_drew)); exact Kd.R_mono HO_3.out (fun _ hk => hk.2)⟩, ⟨by (with_reducible repeat (first | apply Kd.R_alloc | apply Kd.R_drewN | apply Kd.R_drew)); exact HO224.out⟩, ⟨bl HB⟩⟩
             ·rw [if_neg c63] at H
              exact absurd H (by simp)
           ·rw [if_neg c55] at H
            have c55b0 : (((rd_T27 x7_2 (ji51)).f0) == ((rd_T27 x3_2 x8_2).f0)) = false := beq_eq_false_iff_ne.mpr c55
            have c55b1 : (((rd_T27 x7_2 (ji51)).f0) != ((rd_T27 x3_2 x8_2).f0)) = true := bne_iff_ne.mpr c55
            by_cases c68 : x7_2.length < 4398046511104
            ·rw [if_pos c68] at H
             have LMc68 := Aside0.mk c68
             clear c68
             obtain ⟨y226, hy226⟩ : ∃ y_ : List (S27), y_ = (x7_2 ++ [(⟨(rd_T27 x3_2 x8_2).f0, (rd_T27 x3_2 x8_2).f1, (rd_T27 x3_2 x8_2).f2, (rd_T27 x3_2 x8_2).f3⟩ : S27)]) := ⟨_, rfl⟩
             replace H : (revetmentref41_Merge.l2 k2 x3_2 y226 (wrap64 (x8_2 + 1))) = some r := by first | (rw [hy226]; with_reducible exact H) | (have H2_ := (Option.bind_some _ _).symm.trans H; rw [hy226]; with_reducible exact H2_) | (have H2_ := (Option.bind_some _ _).symm.trans H; with_reducible exact H2_) | with_reducible exact H | (rw [hy226]; exact H) | exact H
             have Ny226 := Aside0.mk hy226
             clear hy226
             have H' := Aside0.mk H
             clear H
             obtain ⟨Ao69, co69, eo69⟩ := Kd.R_slice HO_3.out
             subst eo69
             obtain ⟨Ao70, co70, eo70⟩ := Kd.R_slice HO_7.out
             subst eo70
             try go_wp2
             replace HO_3 := Aside0.mk (Kd.R_drew HO_3.out)
             replace HO_7 := Aside0.mk (Kd.R_drew HO_7.out)
             replace HB := Aside0.mk (below_drew1 HB.out)
             have p213 : 0 ≤ ((ji51) : Int) := of_decide_eq_true (by first | (with_reducible assumption) | assumption)
             have q213 : (ji51) < (x7_2.length : Int) := of_decide_eq_true (by first | (with_reducible assumption) | assumption)
             obtain ⟨ad213, e213, hx213_0, hx213_1, hx213_2, hx213_3⟩ := at_T27 (Kd.R_reads' HO_7.out).2.2 (ji51) p213 q213
             cases e213
             replace p213 := eq_true p213
             replace q213 := eq_true q213
             have p214 : 0 ≤ (x8_2 : Int) := of_decide_eq_true (by first | (with_reducible assumption) | assumption)
             have q214 : x8_2 < (x3_2.length : Int) := of_decide_eq_true (by first | (with_reducible assumption) | assumption)
             obtain ⟨ad214, e214, hx214_0, hx214_1, hx214_2, hx214_3⟩ := at_T27 (Kd.R_reads' HO_3.out).2.2 x8_2 p214 q214
             cases e214
             replace p214 := eq_true p214
             replace q214 := eq_true q214
             refine start_ (n := 34) (S := fun w' => w'.cell? (ad213.add (((ji51)).toNat * 4)) = some (.int .i64 ((rd_T27 x7_2 (ji51)).f0)) ∧ w'.cell? ⟨(ad213.add (((ji51)).toNat * 4)).block, (ad213.add (((ji51)).toNat * 4)).off + 1, none⟩ = some (.int .i64 ((rd_T27 x7_2 (ji51)).f1)) ∧ w'.cell? ⟨(ad213.add (((ji51)).toNat * 4)).block, (ad213.add (((ji51)).toNat * 4)).off + 2, none⟩ = some (.int .i64 ((rd_T27 x7_2 (ji51)).f2)) ∧ w'.cell? ⟨(ad213.add (((ji51)).toNat * 4)).block, (ad213.add (((ji51)).toNat * 4)).off + 3, none⟩ = some (.int .i64 ((rd_T27 x7_2 (ji51)).f3)) ∧ w'.cell? (ad214.add ((x8_2).toNat * 4)) = some (.int .i64 ((rd_T27 x3_2 x8_2).f0)) ∧ w'.cell? ⟨(ad214.add ((x8_2).toNat * 4)).block, (ad214.add ((x8_2).toNat * 4)).off + 1, none⟩ = some (.int .i64 ((rd_T27 x3_2 x8_2).f1)) ∧ w'.cell? ⟨(ad214.add ((x8_2).toNat * 4)).block, (ad214.add ((x8_2).toNat * 4)).off + 2, none⟩ = some (.int .i64 ((rd_T27 x3_2 x8_2).f2)) ∧ w'.cell? ⟨(ad214.add ((x8_2).toNat * 4)).block, (ad214.add ((x8_2).toNat * 4)).off + 3, none⟩ = some (.int .i64 ((rd_T27 x3_2 x8_2).f3))) (ds := []) (bq 34 0) (by kernel_rfl) rfl rfl ⟨hx213_0, hx213_1, hx213_2, hx213_3, hx214_0, hx214_1, hx214_2, hx214_3⟩ (fun hHeld => ?_); refine with_tabW revetmentref41_Merge.tab17 revetmentref41_Merge.bits17 (fun HT_ HW_ => ?_)
             generalize wr.drew = w71 at HO_3 HO_7 HB hx213_0 hx213_1 hx213_2 hx213_3 hx214_0 hx214_1 hx214_2 hx214_3 hHeld ⊢
             apply pu 0 66 (bq 34 1) HT_
             apply pu 1 67 (bq 34 3) HT_
             apply pu 2 68 (bq 34 7) HT_
             apply pu 3 69 (bq 34 15) HT_
             apply pu 4 70 (bq 34 31) HT_
             apply pu 5 71 (bq 34 63) HT_
             apply pu 6 72 (bq 34 127) HT_
             apply pu 8 74 (bq 34 383) HT_
             apply pu 9 75 (bq 34 895) HT_
             apply pu 10 76 (bq 34 1919) HT_
             apply pu 11 77 (bq 34 3967) HT_
             apply tu 7 73 (bq 34 4095) HT_ HW_ hHeld
             apply tu 12 78 (bq 34 8191) HT_ HW_ hHeld
             apply pu 13 79 (bq 34 16383) HT_
             apply pu 14 80 (bq 34 32767) HT_
             apply pu 15 81 (bq 34 65535) HT_
             apply po 16 82 (bq 34 131071) HT_
             apply po 17 83 (bq 34 262143) HT_
             apply po 18 84 (bq 34 524287) HT_
             apply po 19 85 (bq 34 1048575) HT_
             apply po 20 86 (bq 34 2097151) HT_
             apply po 21 87 (bq 34 4194303) HT_
             apply po 22 88 (bq 34 8388607) HT_
             apply po 23 89 (bq 34 16777215) HT_
             apply po 24 90 (bq 34 33554431) HT_
             apply po 25 91 (bq 34 67108863) HT_
             apply po 26 92 (bq 34 134217727) HT_
             apply po 27 93 (bq 34 268435455) HT_
             apply po 28 94 (bq 34 536870911) HT_
             apply po 29 95 (bq 34 1073741823) HT_
             apply po 30 96 (bq 34 2147483647) HT_
             apply po 31 97 (bq 34 4294967295) HT_
             apply po 32 98 (bq 34 8589934591) HT_
             apply pu 33 99 (bq 34 17179869183) HT_
             refine done_ (done_of HT_.out (by kernel_rfl)) ?_
             have p225 : 0 ≤ (x8_2 : Int) := of_decide_eq_true (by first | (with_reducible assumption) | assumption)
             have q225 : x8_2 < (x3_2.length : Int) := of_decide_eq_true (by first | (with_reducible assumption) | assumption)
             obtain ⟨ad225, e225, hx225_0, hx225_1, hx225_2, hx225_3⟩ := at_T27 (Kd.R_reads' HO_3.out).2.2 x8_2 p225 q225
             obtain rfl : ad214 = ad225 := (by injection e225)
             replace p225 := eq_true p225
             replace q225 := eq_true q225
             try go_wp2_with (first | ((with_reducible refine gate_builtin (b := .append) (xs := #[.tmp 115, .tmp 120]) rfl ?_); at_builtin; refine Kd.R_append k27 (w0 := w) w.heap.size rfl (.tmp 115) (.tmp 120) 22 27 (.agg #[(.int .i64 0), (.int .i64 0), (.int .i64 0), (.int .i64 0)]) 32 rfl Try.underlying22 info27 rfl (by decide) (by omega) (.slice (some ad213) x7_2.length co70) x7_2 (⟨(rd_T27 x3_2 x8_2).f0, (rd_T27 x3_2 x8_2).f1, (rd_T27 x3_2 x8_2).f2, (rd_T27 x3_2 x8_2).f3⟩ : S27) [.int .i64 ((rd_T27 x3_2 x8_2).f0), .int .i64 ((rd_T27 x3_2 x8_2).f1), .int .i64 ((rd_T27 x3_2 x8_2).f2), .int .i64 ((rd_T27 x3_2 x8_2).f3)] (fun k_ => some k_ ≠ (.slice (some ad214) x3_2.length co69 : Value).ownBlock) (fun _ => False) rfl rfl ?aP (fun _ hk => hk.elim) ?aF ?aO ?aB ?aS ?aL ?_; (case aP => exact k27_mkM _ _ _ (⟨(rd_T27 x3_2 x8_2).f0, (rd_T27 x3_2 x8_2).f1, (rd_T27 x3_2 x8_2).f2, (rd_T27 x3_2 x8_2).f3⟩ : S27)); (case aB => exact (bl HB)); (case aF => exact (fun k_ hk => Kd.fresh' (Kd.R_lt (by (with_reducible repeat (first | apply Kd.R_alloc | apply Kd.R_drewN | apply Kd.R_drew)); exact HO_3.out)) k_ hk)); (case aO => exact (by (with_reducible repeat (first | apply Kd.R_alloc | apply Kd.R_drewN | apply Kd.R_drew)); exact HO_7.out)); (case aS => exact (below_size (bl HB))); (case aL => have := LMc68.out; omega); intro v227 w72 ho hb hg hat; rw [← Ny226.out] at ho; have n0_ := Aside0.mk (Kd.R_after (ok := (fun _ => True)) (by (with_reducible repeat (first | apply Kd.R_alloc | apply Kd.R_drewN | apply Kd.R_drew)); exact Kd.R_mono HO_3.out (fun _ hk => ⟨trivial, hk⟩)) hg hat); have n1_ := Aside0.mk (hb); have n2_ := Aside0.mk (ho); clear HO_3; clear HB; clear HO_7; have HO_3 := n0_; have HB := n1_; have HO228 := n2_; clear n0_ n1_ n2_; clear ho hb hg hat))
             go_roundg k2
             case measure => have := HK1.out; have := HK2.out; omega
             case rel => exact ⟨(x3_2), (y226), (wrap64 (x8_2 + 1)), (by first | rfl | (simp; done) | (simp [*]; done)), H', ⟨by have := HK1.out; have := HK2.out; omega⟩, ⟨by (with_reducible repeat (first | apply Kd.R_alloc | apply Kd.R_drewN | apply Kd.R_drew)); exact Kd.R_mono HO_3.out (fun _ hk => hk.2)⟩, ⟨by (with_reducible repeat (first | apply Kd.R_alloc | apply Kd.R_drewN | apply Kd.R_drew)); exact HO228.out⟩, ⟨bl HB⟩⟩
            ·rw [if_neg c68] at H
             exact absurd H (by simp)
          ·rw [if_neg c54] at H
           exact absurd H (by simp)
         ·rw [if_neg c53] at H
          exact absurd H (by simp)
        ·rw [if_neg c52] at H
         exact absurd H (by simp)
       ·rw [if_neg c50] at H
        have c50b0 : decide (0 ≤ (wrap64 ((x7_2.length : Int) - 1))) = false := decide_eq_false c50
        clear c50
        by_cases c73 : 0 ≤ x8_2
        ·rw [if_pos c73] at H
         have c73b0 : decide (0 ≤ x8_2) = true := decide_eq_true c73
         clear c73
         by_cases c74 : x7_2.length < 4398046511104
         ·rw [if_pos c74] at H
          have LMc74 := Aside0.mk c74
          clear c74
          obtain ⟨y230, hy230⟩ : ∃ y_ : List (S27), y_ = (x7_2 ++ [(⟨(rd_T27 x3_2 x8_2).f0, (rd_T27 x3_2 x8_2).f1, (rd_T27 x3_2 x8_2).f2, (rd_T27 x3_2 x8_2).f3⟩ : S27)]) := ⟨_, rfl⟩
          replace H : (revetmentref41_Merge.l2 k2 x3_2 y230 (wrap64 (x8_2 + 1))) = some r := by first | (rw [hy230]; with_reducible exact H) | (have H2_ := (Option.bind_some _ _).symm.trans H; rw [hy230]; with_reducible exact H2_) | (have H2_ := (Option.bind_some _ _).symm.trans H; with_reducible exact H2_) | with_reducible exact H | (rw [hy230]; exact H) | exact H
          have Ny230 := Aside0.mk hy230
          clear hy230
          have H' := Aside0.mk H
          clear H
          obtain ⟨Ao75, co75, eo75⟩ := Kd.R_slice HO_3.out
          subst eo75
          obtain ⟨Ao76, co76, eo76⟩ := Kd.R_slice HO_7.out
          subst eo76
          try go_wp2
          replace HO_3 := Aside0.mk (Kd.R_drew HO_3.out)
          replace HO_7 := Aside0.mk (Kd.R_drew HO_7.out)
          replace HB := Aside0.mk (below_drew1 HB.out)
          refine start_ (n := 34) (S := fun w' => True) (ds := []) (bq 34 0) (by kernel_rfl) rfl rfl trivial (fun hHeld => ?_); refine with_tabW revetmentref41_Merge.tab17 revetmentref41_Merge.bits17 (fun HT_ HW_ => ?_)
          generalize wr.drew = w77 at HO_3 HO_7 HB hHeld ⊢
          apply pu 0 66 (bq 34 1) HT_
          apply pu 1 67 (bq 34 3) HT_
          apply pu 2 68 (bq 34 7) HT_
          apply po 3 69 (bq 34 15) HT_
          apply po 4 70 (bq 34 31) HT_
          apply po 5 71 (bq 34 63) HT_
          apply po 6 72 (bq 34 127) HT_
          apply po 7 73 (bq 34 255) HT_
          apply po 8 74 (bq 34 511) HT_
          apply po 9 75 (bq 34 1023) HT_
          apply po 10 76 (bq 34 2047) HT_
          apply po 11 77 (bq 34 4095) HT_
          apply po 12 78 (bq 34 8191) HT_
          apply po 13 79 (bq 34 16383) HT_
          apply pu 14 80 (bq 34 32767) HT_
          apply pu 15 81 (bq 34 65535) HT_
          apply po 16 82 (bq 34 131071) HT_
          apply po 17 83 (bq 34 262143) HT_
          apply po 18 84 (bq 34 524287) HT_
          apply po 19 85 (bq 34 1048575) HT_
          apply po 20 86 (bq 34 2097151) HT_
          apply po 21 87 (bq 34 4194303) HT_
          apply po 22 88 (bq 34 8388607) HT_
          apply po 23 89 (bq 34 16777215) HT_
          apply po 24 90 (bq 34 33554431) HT_
          apply po 25 91 (bq 34 67108863) HT_
          apply po 26 92 (bq 34 134217727) HT_
          apply po 27 93 (bq 34 268435455) HT_
          apply po 28 94 (bq 34 536870911) HT_
          apply po 29 95 (bq 34 1073741823) HT_
          apply po 30 96 (bq 34 2147483647) HT_
          apply po 31 97 (bq 34 4294967295) HT_
          apply po 32 98 (bq 34 8589934591) HT_
          apply pu 33 99 (bq 34 17179869183) HT_
          refine done_ (done_of HT_.out (by kernel_rfl)) ?_
          have p229 : 0 ≤ (x8_2 : Int) := of_decide_eq_true (by first | (with_reducible assumption) | assumption)
          have q229 : x8_2 < (x3_2.length : Int) := of_decide_eq_true (by first | (with_reducible assumption) | assumption)
          obtain ⟨ad229, e229, hx229_0, hx229_1, hx229_2, hx229_3⟩ := at_T27 (Kd.R_reads' HO_3.out).2.2 x8_2 p229 q229
          cases e229
          replace p229 := eq_true p229
          replace q229 := eq_true q229
          try go_wp2_with (first | ((with_reducible refine gate_builtin (b := .append) (xs := #[.tmp 115, .tmp 120]) rfl ?_); at_builtin; refine Kd.R_append k27 (w0 := w) w.heap.size rfl (.tmp 115) (.tmp 120) 22 27 (.agg #[(.int .i64 0), (.int .i64 0), (.int .i64 0), (.int .i64 0)]) 32 rfl Try.underlying22 info27 rfl (by decide) (by omega) (.slice Ao76 x7_2.length co76) x7_2 (⟨(rd_T27 x3_2 x8_2).f0, (rd_T27 x3_2 x8_2).f1, (rd_T27 x3_2 x8_2).f2, (rd_T27 x3_2 x8_2).f3⟩ : S27) [.int .i64 ((rd_T27 x3_2 x8_2).f0), .int .i64 ((rd_T27 x3_2 x8_2).f1), .int .i64 ((rd_T27 x3_2 x8_2).f2), .int .i64 ((rd_T27 x3_2 x8_2).f3)] (fun k_ => some k_ ≠ (.slice (some ad229) x3_2.length co75 : Value).ownBlock) (fun _ => False) rfl rfl ?aP (fun _ hk => hk.elim) ?aF ?aO ?aB ?aS ?aL ?_; (case aP => exact k27_mkM _ _ _ (⟨(rd_T27 x3_2 x8_2).f0, (rd_T27 x3_2 x8_2).f1, (rd_T27 x3_2 x8_2).f2, (rd_T27 x3_2 x8_2).f3⟩ : S27)); (case aB => exact (bl HB)); (case aF => exact (fun k_ hk => Kd.fresh' (Kd.R_lt (by (with_reducible repeat (first | apply Kd.R_alloc | apply Kd.R_drewN | apply Kd.R_drew)); exact HO_3.out)) k_ hk)); (case aO => exact (by (with_reducible repeat (first | apply Kd.R_alloc | apply Kd.R_drewN | apply Kd.R_drew)); exact HO_7.out)); (case aS => exact (below_size (bl HB))); (case aL => have := LMc74.out; omega); intro v231 w78 ho hb hg hat; rw [← Ny230.out] at ho; have n0_ := Aside0.mk (Kd.R_after (ok := (fun _ => True)) (by (with_reducible repeat (first | apply Kd.R_alloc | apply Kd.R_drewN | apply Kd.R_drew)); exact Kd.R_mono HO_3.out (fun _ hk => ⟨trivial, hk⟩)) hg hat); have n1_ := Aside0.mk (hb); have n2_ := Aside0.mk (ho); clear HO_3; clear HB; clear HO_7; have HO_3 := n0_; have HB := n1_; have HO232 := n2_; clear n0_ n1_ n2_; clear ho hb hg hat))
          go_roundg k2
          case measure => have := HK1.out; have := HK2.out; omega
          case rel => exact ⟨(x3_2), (y230), (wrap64 (x8_2 + 1)), (by first | rfl | (simp; done) | (simp [*]; done)), H', ⟨by have := HK1.out; have := HK2.out; omega⟩, ⟨by (with_reducible repeat (first | apply Kd.R_alloc | apply Kd.R_drewN | apply Kd.R_drew)); exact Kd.R_mono HO_3.out (fun _ hk => hk.2)⟩, ⟨by (with_reducible repeat (first | apply Kd.R_alloc | apply Kd.R_drewN | apply Kd.R_drew)); exact HO232.out⟩, ⟨bl HB⟩⟩
         ·rw [if_neg c74] at H
          exact absurd H (by simp)
        ·rw [if_neg c73] at H
         exact absurd H (by simp)
      ·rw [if_neg c49] at H
       have c49b0 : decide (x8_2 < (x3_2.length : Int)) = false := decide_eq_false c49
       clear c49
       obtain rfl := Option.some.inj H
       obtain ⟨Ao79, co79, eo79⟩ := Kd.R_slice HO_3.out
       subst eo79
       go_wp2
       go_ret
       exact ⟨_, by first | rfl | (simp [errW_none, errW_some] <;> rfl) | (simp [*, errW_none, errW_some] <;> rfl), by (with_reducible repeat (first | apply Kd.R_alloc | apply Kd.R_drewN | apply Kd.R_drew)); exact Kd.R_mono HO_7.out (fun _ hk => trivial), bl HB⟩

end Go.Proofs.Ytbjpjddhkpnofaa.PA
